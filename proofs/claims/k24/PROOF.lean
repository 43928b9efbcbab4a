import PyProof.Rows.All
import Wide.All
import OpenK.AllK
import Wide.FinOn
import HandS.ForMost
import HandS.ForExc
import HandS.TupSets
import HandS.Strs
import HandS.Lambda
import HandS.Finally
import HandS.Deep
import HandS.Defaults
import HandS.MakeKwOnly
import HandS.TupAny
import HandS.TupMul
import HandS.HeadHook2
import HandS.IsInst
import KE.KUnpackStar
import HandS.Text
import HandS.Style
import HandS.RaiseMore
import HandS.HeadHook3
import HandS.WrittenGet
import HandS.HeadWalk
import HandS.Head0
import HandS.Head1
import HandS.Head2
import KE.IntTextLaws
import HandS.Dict
import HandS.More
import HandS.SetFor
import HandS.SetBool
import HandS.SetKeys
import KE.KEqDict
import HandS.ExcIs
import HandS.ExcField
import HandS.HeadHook4
import KE.DataMinMax
import KE.SortData
import KE.KDflt
import HandS.SortInts
import HandS.Iter
import KE.GoesRaise
import HandS.WordsDict
import HandS.ExcInit
import PySem.Challenge.RW_fencekeep_k24_texts_refused
set_option Elab.async false
set_option linter.all false
set_option maxRecDepth 100000
set_option maxHeartbeats 4000000
/-! FkA: data, worlds, stores, and what it means that a reading follows a plain function. -/
namespace Fk
open PySem PySem.Spec PyProof.Rows L2
/-! ### data -/
inductive D where
  | non | bl (b : Bool) | int (i : Int) | str (s : Str) | tup (xs : List D) | lst (xs : List D) | lck (xs : List D) | ref (k : Nat)
inductive Cell where
  | lst (xs : List D) | dic (kvs : List (Key × D)) | dct (kvs : List (List Key × D)) | ins (c : Str) (fs : List (Str × D)) | dead
abbrev Store := List Cell
abbrev DEnv := List (Option D)
/-- an error: its class, its number -/
structure Exn where
  c : Str
  num : Option (Str × Int)
inductive Res (α : Type) where
  | ok (a : α) (st : Store) | ex (x : Exn) (st : Store) | stuck
inductive RS where
  | nx (env : DEnv) (st : Store) | rt (d : D) (st : Store) | bk (env : DEnv) (st : Store) | ct (env : DEnv) (st : Store) | ex (x : Exn) (env : DEnv) (st : Store) | stuck
def Res.bind {α β : Type} (r : Res α) (f : α → Store → Res β) : Res β := match r with
  | .ok a st => f a st
  | .ex x st => .ex x st
  | .stuck => .stuck
/-- a statement's end by an expression's -/
def Res.go {α : Type} (r : Res α) (env : DEnv) (f : α → Store → RS) : RS := match r with
  | .ok a st => f a st
  | .ex x st => .ex x env st
  | .stuck => .stuck
/-! ### worlds -/
structure Wd where
  F : Hp
  ads : List Addr
  S : Addr → Option (List V)
mutual
inductive Dat (w : Wd) : V → D → Prop
  | non : Dat w .non .non
  | bl (b : Bool) : Dat w (.bl b) (.bl b)
  | int (i : Int) : Dat w (.int i) (.int i)
  | str (s : Str) : Dat w (.str s) (.str s)
  | tup {p : Addr} {vs : List V} {ds : List D} : w.F p = some (.tup vs) → Dats w vs ds → Dat w (.ref p) (.tup ds)
  | lst {p : Addr} {vs : List V} {ds : List D} : w.F p = some (.lst vs) → Dats w vs ds → Dat w (.ref p) (.lst ds)
  | lck {p : Addr} {vs : List V} {ds : List D} : w.S p = some vs → Dats w vs ds → Dat w (.ref p) (.lck ds)
  | ref {p : Addr} {k : Nat} : w.ads[k]? = some p → Dat w (.ref p) (.ref k)
inductive Dats (w : Wd) : List V → List D → Prop
  | nil : Dats w [] []
  | cons {v : V} {d : D} {vs : List V} {ds : List D} : Dat w v d → Dats w vs ds → Dats w (v :: vs) (d :: ds)
end
structure Le (w w' : Wd) : Prop where
  fr : ∀ a o, w.F a = some o → w'.F a = some o
  ads : ∀ (k : Nat) (p : Addr), w.ads[k]? = some p → w'.ads[k]? = some p
  scr : w'.S = w.S
theorem Le.refl (w : Wd) : Le w w := ⟨fun _ _ h => h, fun _ _ h => h, rfl⟩
theorem Le.trans {a b c : Wd} (x : Le a b) (y : Le b c) : Le a c := ⟨fun p o h => y.fr p o (x.fr p o h), fun k p h => y.ads k p (x.ads k p h), y.scr.trans x.scr⟩
mutual
theorem Dat.mono {w w' : Wd} (l : Le w w') : ∀ {v : V} {d : D}, Dat w v d → Dat w' v d
  | _, _, .non => .non
  | _, _, .bl b => .bl b
  | _, _, .int i => .int i
  | _, _, .str s => .str s
  | _, _, .tup h r => .tup (l.fr _ _ h) (Dats.mono l r)
  | _, _, .lst h r => .lst (l.fr _ _ h) (Dats.mono l r)
  | _, _, .lck h r => .lck (by rw [l.scr]; exact h) (Dats.mono l r)
  | _, _, .ref h => .ref (l.ads _ _ h)
theorem Dats.mono {w w' : Wd} (l : Le w w') : ∀ {vs : List V} {ds : List D}, Dats w vs ds → Dats w' vs ds
  | _, _, .nil => .nil
  | _, _, .cons h r => .cons (Dat.mono l h) (Dats.mono l r)
end
section
variable {w : Wd}
theorem Dats.length : ∀ {vs : List V} {ds : List D}, Dats w vs ds → vs.length = ds.length
  | _, _, .nil => rfl
  | _, _, .cons _ r => congrArg Nat.succ (Dats.length r)
theorem Dats.get : ∀ {vs : List V} {ds : List D} {i : Nat} {d : D}, Dats w vs ds → ds[i]? = some d → ∃ v, vs[i]? = some v ∧ Dat w v d
  | _, _, i, d, .nil, e => by simp at e
  | _, _, 0, d, .cons (v := v) h r, e => by
    simp at e
    subst e
    exact ⟨v, rfl, h⟩
  | _, _, i + 1, d, .cons h r, e => by
    obtain ⟨v, h1, h2⟩ := Dats.get (i := i) r (by simpa using e)
    exact ⟨v, by simpa using h1, h2⟩
theorem Dats.getV : ∀ {vs : List V} {ds : List D} {i : Nat} {v : V}, Dats w vs ds → vs[i]? = some v → ∃ d, ds[i]? = some d ∧ Dat w v d
  | _, _, i, d, .nil, e => by simp at e
  | _, _, 0, v, .cons (d := d) h r, e => by
    simp at e
    subst e
    exact ⟨d, rfl, h⟩
  | _, _, i + 1, v, .cons h r, e => by
    obtain ⟨d, h1, h2⟩ := Dats.getV (i := i) r (by simpa using e)
    exact ⟨d, by simpa using h1, h2⟩
theorem Dats.append : ∀ {vs us : List V} {ds es : List D}, Dats w vs ds → Dats w us es → Dats w (vs ++ us) (ds ++ es)
  | _, _, _, _, .nil, s => s
  | _, _, _, _, .cons h r, s => .cons h (Dats.append r s)
theorem Dats.take : ∀ {vs : List V} {ds : List D} (n : Nat), Dats w vs ds → Dats w (vs.take n) (ds.take n)
  | _, _, 0, _ => .nil
  | _, _, _ + 1, .nil => .nil
  | _, _, n + 1, .cons h r => .cons h (Dats.take n r)
theorem Dats.drop : ∀ {vs : List V} {ds : List D} (n : Nat), Dats w vs ds → Dats w (vs.drop n) (ds.drop n)
  | _, _, 0, r => r
  | _, _, _ + 1, .nil => .nil
  | _, _, n + 1, .cons _ r => Dats.drop n r
theorem Dats.set {v : V} {d : D} (h : Dat w v d) : ∀ {vs : List V} {ds : List D} (i : Nat), Dats w vs ds → Dats w (vs.set i v) (ds.set i d)
  | _, _, _, .nil => .nil
  | _, _, 0, .cons _ r => .cons h r
  | _, _, i + 1, .cons x r => .cons x (Dats.set h i r)
theorem Dats.eraseIdx : ∀ {vs : List V} {ds : List D} (i : Nat), Dats w vs ds → Dats w (vs.eraseIdx i) (ds.eraseIdx i)
  | _, _, _, .nil => .nil
  | _, _, 0, .cons _ r => r
  | _, _, i + 1, .cons x r => .cons x (Dats.eraseIdx i r)
theorem Dats.one {v : V} {d : D} (h : Dat w v d) : Dats w [v] [d] := .cons h .nil
theorem Dats.reverse : ∀ {vs : List V} {ds : List D}, Dats w vs ds → Dats w vs.reverse ds.reverse
  | _, _, .nil => .nil
  | _, _, .cons h r => by
    rw [List.reverse_cons, List.reverse_cons]
    exact (Dats.reverse r).append (.one h)
theorem Dats.nil_of {ds : List D} (h : Dats w [] ds) : ds = [] := by cases h <;> rfl
theorem Dats.one_of {v : V} {ds : List D} (h : Dats w [v] ds) : ∃ d, ds = [d] ∧ Dat w v d := by
  cases h with
  | cons h r => cases r; exact ⟨_, rfl, h⟩
theorem Dats.ofOne {vs : List V} {d : D} (h : Dats w vs [d]) : ∃ v, vs = [v] ∧ Dat w v d := by
  cases h with
  | cons h r => cases r; exact ⟨_, rfl, h⟩
theorem Dats.ofTwo {vs : List V} {d e : D} (h : Dats w vs [d, e]) : ∃ v u, vs = [v, u] ∧ Dat w v d ∧ Dat w u e := by
  cases h with
  | cons h r =>
    obtain ⟨u, e2, q⟩ := r.ofOne
    subst e2
    exact ⟨_, _, rfl, h, q⟩
theorem Dats.ofThree {vs : List V} {d e f : D} (h : Dats w vs [d, e, f]) : ∃ v u t, vs = [v, u, t] ∧ Dat w v d ∧ Dat w u e ∧ Dat w t f := by
  cases h with
  | cons h r =>
    obtain ⟨u, t, e2, q1, q2⟩ := r.ofTwo
    subst e2
    exact ⟨_, _, _, rfl, h, q1, q2⟩
theorem Dats.ofNil {vs : List V} (h : Dats w vs []) : vs = [] := by cases h <;> rfl
/-- ints -/
theorem Dats.ints : ∀ {vs : List V} {ns : List Int}, Dats w vs (ns.map D.int) → vs = ns.map V.int
  | _, [], .nil => rfl
  | _, n :: ns, .cons h r => by
    cases h
    rw [Dats.ints r]
    rfl
theorem Dats.of_ints : ∀ (ns : List Int), Dats w (ns.map V.int) (ns.map D.int)
  | [] => .nil
  | n :: ns => .cons (.int n) (Dats.of_ints ns)
theorem Dats.of_strs : ∀ (ns : List Str), Dats w (ns.map V.str) (ns.map D.str)
  | [] => .nil
  | n :: ns => .cons (.str n) (Dats.of_strs ns)
theorem Dats.strs : ∀ {vs : List V} {ns : List Str}, Dats w vs (ns.map D.str) → vs = ns.map V.str
  | _, [], .nil => rfl
  | _, n :: ns, .cons h r => by
    cases h
    rw [Dats.strs r]
    rfl
theorem Dats.bls : ∀ {vs : List V} {ns : List Bool}, Dats w vs (ns.map D.bl) → vs = ns.map V.bl
  | _, [], .nil => rfl
  | _, n :: ns, .cons h r => by
    cases h
    rw [Dats.bls r]
    rfl
end
/-! ### what the store says of the heap -/
def CellOk (K : PySem.W.Frag) (w : Wd) (H : Hp) (p : Addr) : Cell → Prop
  | .lst ds => w.F p = none ∧ ∃ vs, H p = some (.lst vs) ∧ Dats w vs ds
  | .dic kvs => w.F p = none ∧ ∃ us, H p = some (.dK us) ∧ us.map (·.1) = kvs.map (·.1) ∧ Dats w (us.map (·.2)) (kvs.map (·.2))
  | .dct kvs => w.F p = none ∧ ∃ us, H p = some (.dT us) ∧ us.map (·.1) = kvs.map (·.1) ∧ Dats w (us.map (·.2)) (kvs.map (·.2))
  | .ins c fs => w.F p = none ∧ ∃ dx us, H p = some (.ins (He.ga K c) dx us) ∧ us.map (·.1) = fs.map (·.1) ∧ Dats w (us.map (·.2)) (fs.map (·.2))
  | .dead => ∃ o, H p = some o ∧ (∀ ps, o ≠ .tbl ps) ∧ ∀ φ, o ≠ .ext φ
/-- the script: known, or an object of the module -/
def ScrOk (K : PySem.W.Frag) (w : Wd) : Prop := ∀ p vs, w.S p = some vs → (∃ o, w.F p = some o ∧ ∀ H : Hp, H p = some o → SqL K H p vs) ∨ ∀ H, SqL K H p vs
theorem ScrOk.le {K : PySem.W.Frag} {w w' : Wd} (x : ScrOk K w) (l : Le w w') : ScrOk K w' := fun p vs h => by
  rw [l.scr] at h
  rcases x p vs h with ⟨o, z, y⟩ | z
  · exact .inl ⟨o, l.fr _ _ z, y⟩
  · exact .inr z
structure Rel (K : PySem.W.Frag) (T : List (Addr × Str)) (w : Wd) (H : Hp) (st : Store) : Prop where
  fr : ∀ a o, w.F a = some o → H a = some o
  len : w.ads.length = st.length
  nd : w.ads.Nodup
  at_ : ∀ (k : Nat) (c : Cell) (p : Addr), st[k]? = some c → w.ads[k]? = some p → CellOk K w H p c
  tabs : LamX.Tabs T H
  scr : ScrOk K w
  nt : ∀ a ps, w.F a ≠ some (.tbl ps)
/-- nothing stands there, or a table -/
def Fre (H : Hp) (a : Addr) : Prop := ∀ o, H a = some o → ∃ ps, o = .tbl ps
theorem Fre.of {H : Hp} {a : Addr} (h : H a = none) : Fre H a := fun o e => by rw [h] at e; cases e
theorem Fre.no {H : Hp} {a : Addr} {o : HO} (f : Fre H a) (h : H a = some o) (n : ∀ ps, o ≠ .tbl ps) : False := by
  obtain ⟨ps, e⟩ := f o h
  exact n ps e
/-- a step: what was known stays, the cells may change, new things are new -/
structure Stp (w : Wd) (H : Hp) (w' : Wd) (H' : Hp) : Prop where
  le : Le w w'
  new : ∀ p, p ∈ w'.ads → p ∉ w.ads → Fre H p
  keep : ∀ a o, H a = some o → a ∉ w.ads → (∀ ps, o ≠ .tbl ps) → H' a = some o
  free : ∀ a, Fre H' a → Fre H a
  newF : ∀ a, w'.F a ≠ none → w.F a = none → Fre H a ∨ a ∈ w.ads
theorem Stp.refl (w : Wd) (H : Hp) : Stp w H w H := ⟨Le.refl w, fun p h n => absurd h n, fun _ _ h _ _ => h, fun _ h => h, fun _ h n => absurd n h⟩
theorem Stp.trans {w w1 w2 : Wd} {H H1 H2 : Hp} (a : Stp w H w1 H1) (b : Stp w1 H1 w2 H2) : Stp w H w2 H2 where
  le := a.le.trans b.le
  new := fun p h n => by
    by_cases q : p ∈ w1.ads
    · exact a.new p q n
    · exact a.free p (b.new p h q)
  keep := fun p o h n t => by
    have h1 := a.keep p o h n t
    exact b.keep p o h1 (fun q => (a.new p q n).no h t) t
  free := fun p h => a.free p (b.free p h)
  newF := fun p h n => by
    by_cases q : w1.F p = none
    · rcases b.newF p h q with z | z
      · exact .inl (a.free p z)
      · by_cases y : p ∈ w.ads
        · exact .inr y
        · exact .inl (a.new p z y)
    · exact a.newF p q n
def EnvR (w : Wd) (σ : L2.St) (env : DEnv) : Prop := σ.length = env.length ∧ ∀ (i : Nat) (d : D), env[i]? = some (some d) → ∃ v, σ[i]? = some (some v) ∧ Dat w v d
theorem EnvR.mono {w w' : Wd} {σ : L2.St} {env : DEnv} (l : Le w w') (e : EnvR w σ env) : EnvR w' σ env := ⟨e.1, fun i d h => by
  obtain ⟨v, h1, h2⟩ := e.2 i d h
  exact ⟨v, h1, h2.mono l⟩⟩
theorem EnvR.set {w : Wd} {σ : L2.St} {env : DEnv} {v : V} {d : D} (e : EnvR w σ env) (i : Nat) (h : Dat w v d) : EnvR w (σ.set i (some v)) (env.set i (some d)) := ⟨by simp [e.1], fun j d' hj => by
  by_cases q : i = j
  · subst q
    have hl : i < env.length := by
      have := (List.getElem?_eq_some_iff.mp hj).1
      simpa using this
    rw [List.getElem?_set_self hl] at hj
    cases hj
    exact ⟨v, List.getElem?_set_self (by rw [e.1]; exact hl), h⟩
  · rw [List.getElem?_set_ne q] at hj
    obtain ⟨u, h1, h2⟩ := e.2 j d' hj
    exact ⟨u, by rw [List.getElem?_set_ne q]; exact h1, h2⟩⟩
theorem EnvR.del {w : Wd} {σ : L2.St} {env : DEnv} (e : EnvR w σ env) (i : Nat) (o : Option V) : EnvR w (σ.set i o) (env.set i none) := ⟨by simp [e.1], fun j d' hj => by
  by_cases q : i = j
  · subst q
    have hl : i < env.length := by
      have := (List.getElem?_eq_some_iff.mp hj).1
      simpa using this
    rw [List.getElem?_set_self hl] at hj
    cases hj
  · rw [List.getElem?_set_ne q] at hj
    obtain ⟨u, h1, h2⟩ := e.2 j d' hj
    exact ⟨u, by rw [List.getElem?_set_ne q]; exact h1, h2⟩⟩
/-- the places of a comprehension's own names -/
def wipeD (env : DEnv) : List Nat → DEnv
  | [] => env
  | i :: r => (wipeD env r).set i none
/-! ### errors -/
def ExR (K : PySem.W.Frag) (x : Exn) (c : Value) (od : Option Addr) (H : Hp) : Prop := c = .ref (He.ga K x.c) ∧ (match x.num with
  | none => od = none
  | some (f, n) => ∃ d, od = some d ∧ H d = some (.xd [(f, .int n)]))
/-! ### what a reading owes -/
section
variable (K : PySem.W.Frag) (T : List (Addr × Str)) (E : XK)
def Post {α β : Type} (rel : Wd → β → α → Prop) (w : Wd) (H : Hp) (r : Res α) (Q : β → Hp → Prop) : Prop := match r with
  | .ok d st => ∀ w' v H', Stp w H w' H' → Rel K T w' H' st → rel w' v d → Q v H'
  | .ex x st => ∀ w' c od H', Stp w H w' H' → Rel K T w' H' st → ExR K x c od H' → E c od H'
  | .stuck => False
def Sim {α β : Type} (rel : Wd → β → α → Prop) (t : L2.St → Hp → (β → Hp → Prop) → Prop) (f : DEnv → Store → Res α) : Prop :=
  ∀ w σ H env st Q, EnvR w σ env → Rel K T w H st → Post K T E rel w H (f env st) Q → t σ H Q
def PostS (W : WX) (w : Wd) (H : Hp) (r : RS) (Dn : Ends) : Prop := match r with
  | .nx env st => ∀ w' σ' H', Stp w H w' H' → EnvR w' σ' env → Rel K T w' H' st → Dn.nx σ' H'
  | .bk env st => ∀ w' σ' H', Stp w H w' H' → EnvR w' σ' env → Rel K T w' H' st → Dn.bk σ' H'
  | .ct env st => ∀ w' σ' H', Stp w H w' H' → EnvR w' σ' env → Rel K T w' H' st → Dn.ct σ' H'
  | .rt d st => ∀ w' v H', Stp w H w' H' → Rel K T w' H' st → Dat w' v d → Dn.rt v H'
  | .ex x env st => ∀ w' c od σ' H', Stp w H w' H' → EnvR w' σ' env → Rel K T w' H' st → ExR K x c od H' → W c od σ' H'
  | .stuck => False
def SimS (W : WX) (t : TS) (f : DEnv → Store → RS) : Prop :=
  ∀ w σ H env st Dn, EnvR w σ env → Rel K T w H st → PostS K T W w H (f env st) Dn → t Dn σ H
end
section
variable {K : PySem.W.Frag} {T : List (Addr × Str)} {E : XK} {α β γ δ : Type} {rel : Wd → β → α → Prop} {rel2 : Wd → δ → γ → Prop} {w w1 : Wd} {H H1 : Hp}
theorem Post.pull {r : Res α} {Q : β → Hp → Prop} (h : Post K T E rel w H r Q) (s : Stp w H w1 H1) : Post K T E rel w1 H1 r Q := by
  cases r with
  | ok d st => exact fun w' v H' s' r' x => h w' v H' (s.trans s') r' x
  | ex x st => exact fun w' c od H' s' r' z => h w' c od H' (s.trans s') r' z
  | stuck => exact h
theorem Post.bind {r : Res α} {f : α → Store → Res γ} {Q : δ → Hp → Prop} {P : β → Hp → Prop} (h : Post K T E rel2 w H (r.bind f) Q)
    (k : ∀ w1 v H1 d st1, Stp w H w1 H1 → Rel K T w1 H1 st1 → rel w1 v d → Post K T E rel2 w1 H1 (f d st1) Q → P v H1) : Post K T E rel w H r P := by
  cases r with
  | ok d st => exact fun w' v H' s' r' x => k w' v H' d st s' r' x (Post.pull h s')
  | ex x st => exact h
  | stuck => exact h
theorem Post.imp {r : Res α} {Q Q' : β → Hp → Prop} (h : Post K T E rel w H r Q) (k : ∀ v H, Q v H → Q' v H) : Post K T E rel w H r Q' := by
  cases r with
  | ok d st => exact fun w' v H' s' r' x => k v H' (h w' v H' s' r' x)
  | ex x st => exact h
  | stuck => exact h
theorem Post.here {d : α} {st : Store} {Q : β → Hp → Prop} {v : β} (h : Post K T E rel w H (.ok d st) Q) (r : Rel K T w H st) (x : rel w v d) : Q v H := h w v H (Stp.refl w H) r x
variable {W : WX}
theorem PostS.pull {r : RS} {Dn : Ends} (h : PostS K T W w H r Dn) (s : Stp w H w1 H1) : PostS K T W w1 H1 r Dn := by
  cases r with
  | nx env st => exact fun w' σ' H' s' e' r' => h w' σ' H' (s.trans s') e' r'
  | bk env st => exact fun w' σ' H' s' e' r' => h w' σ' H' (s.trans s') e' r'
  | ct env st => exact fun w' σ' H' s' e' r' => h w' σ' H' (s.trans s') e' r'
  | rt d st => exact fun w' v H' s' r' x => h w' v H' (s.trans s') r' x
  | ex x env st => exact fun w' c od σ' H' s' e' r' z => h w' c od σ' H' (s.trans s') e' r' z
  | stuck => exact h
/-- from a statement's end to its expression's: errors that the slots don't matter to -/
theorem PostS.go {r : Res α} {env : DEnv} {f : α → Store → RS} {Dn : Ends} {P : β → Hp → Prop} {σ : L2.St} (hE : ∀ c d H, W c d σ H → E c d H) (he : EnvR w σ env) (h : PostS K T W w H (r.go env f) Dn)
    (k : ∀ w1 v H1 d st1, Stp w H w1 H1 → Rel K T w1 H1 st1 → rel w1 v d → PostS K T W w1 H1 (f d st1) Dn → P v H1) : Post K T E rel w H r P := by
  cases r with
  | ok d st => exact fun w' v H' s' r' x => k w' v H' d st s' r' x (PostS.pull h s')
  | ex x st => exact fun w' c od H' s' r' z => hE _ _ _ (h w' c od σ H' s' (he.mono s'.le) r' z)
  | stuck => exact h
end
/-! ### steps of the heap -/
section
variable {K : PySem.W.Frag} {T : List (Addr × Str)} {w : Wd} {H : Hp} {st : Store}
theorem CellOk.mono {w' : Wd} {H' : Hp} {p : Addr} {c : Cell} (x : CellOk K w H p c) (l : Le w w') (hF : c ≠ .dead → w'.F p = none) (hH : ∀ o, H p = some o → H' p = some o) : CellOk K w' H' p c := by
  cases c with
  | lst ds =>
    obtain ⟨_, vs, h1, h2⟩ := x
    exact ⟨hF (by simp), vs, hH _ h1, h2.mono l⟩
  | dic kvs =>
    obtain ⟨_, us, h1, h2, h3⟩ := x
    exact ⟨hF (by simp), us, hH _ h1, h2, h3.mono l⟩
  | dct kvs =>
    obtain ⟨_, us, h1, h2, h3⟩ := x
    exact ⟨hF (by simp), us, hH _ h1, h2, h3.mono l⟩
  | ins c fs =>
    obtain ⟨_, dx, us, h1, h2, h3⟩ := x
    exact ⟨hF (by simp), dx, us, hH _ h1, h2, h3.mono l⟩
  | dead =>
    obtain ⟨o, h1, h2⟩ := x
    exact ⟨o, hH o h1, h2⟩
theorem CellOk.there {p : Addr} {c : Cell} (x : CellOk K w H p c) : H p ≠ none := by
  cases c with
  | lst ds => obtain ⟨_, vs, h1, h2⟩ := x; rw [h1]; simp
  | dic kvs => obtain ⟨_, us, h1, h2⟩ := x; rw [h1]; simp
  | dct kvs => obtain ⟨_, us, h1, h2⟩ := x; rw [h1]; simp
  | ins c fs => obtain ⟨_, dx, us, h1, h2⟩ := x; rw [h1]; simp
  | dead => obtain ⟨o, h1, _⟩ := x; rw [h1]; simp
theorem CellOk.nt {p : Addr} {c : Cell} (x : CellOk K w H p c) : ∃ o, H p = some o ∧ ∀ ps, o ≠ .tbl ps := by
  cases c with
  | lst ds => obtain ⟨_, vs, h1, h2⟩ := x; exact ⟨_, h1, by intro _ z; cases z⟩
  | dic kvs => obtain ⟨_, us, h1, h2⟩ := x; exact ⟨_, h1, by intro _ z; cases z⟩
  | dct kvs => obtain ⟨_, us, h1, h2⟩ := x; exact ⟨_, h1, by intro _ z; cases z⟩
  | ins c fs => obtain ⟨_, dx, us, h1, h2⟩ := x; exact ⟨_, h1, by intro _ z; cases z⟩
  | dead => obtain ⟨o, h1, h2, _⟩ := x; exact ⟨o, h1, h2⟩
theorem CellOk.noF {p : Addr} {c : Cell} (x : CellOk K w H p c) (h : c ≠ .dead) : w.F p = none := by
  cases c with
  | dead => exact absurd rfl h
  | lst ds => exact x.1
  | dic ds => exact x.1
  | dct ds => exact x.1
  | ins c ds => exact x.1
theorem Rel.there (r : Rel K T w H st) {p : Addr} (h : p ∈ w.ads) : H p ≠ none := by
  obtain ⟨k, hk, e⟩ := List.getElem_of_mem h
  have e2 : w.ads[k]? = some p := by rw [List.getElem?_eq_getElem hk, e]
  have hk2 : k < st.length := by rw [← r.len]; exact hk
  exact (r.at_ k st[k] p (List.getElem?_eq_getElem hk2) e2).there
theorem Rel.sc (r : Rel K T w H st) {p : Addr} {vs : List V} (h : w.S p = some vs) : SqL K H p vs := by
  rcases r.scr p vs h with ⟨o, z, y⟩ | z
  · exact y H (r.fr _ _ z)
  · exact z H
/-- what is no data is no cell -/
theorem Rel.extOut (r : Rel K T w H st) {c : Addr} {φ : Heap → Prop} (h : H c = some (.ext φ)) : c ∉ w.ads := fun z => by
  obtain ⟨k, hk, e⟩ := List.getElem_of_mem z
  have hs : st[k]? = some (st[k]'(by rw [← r.len]; exact hk)) := List.getElem?_eq_getElem _
  have x := r.at_ k _ c hs (by rw [List.getElem?_eq_getElem hk, e])
  generalize st[k]'(by rw [← r.len]; exact hk) = q at x
  cases q with
  | lst ds => obtain ⟨_, vs, h1, _⟩ := x; rw [h] at h1; cases h1
  | dic ds => obtain ⟨_, vs, h1, _⟩ := x; rw [h] at h1; cases h1
  | dct ds => obtain ⟨_, vs, h1, _⟩ := x; rw [h] at h1; cases h1
  | ins c ds => obtain ⟨_, d, vs, h1, _⟩ := x; rw [h] at h1; cases h1
  | dead => obtain ⟨o, h1, _, h3⟩ := x; rw [h] at h1; cases h1; exact h3 _ rfl
theorem Rel.addr (r : Rel K T w H st) {k : Nat} {c : Cell} (h : st[k]? = some c) : ∃ p, w.ads[k]? = some p ∧ CellOk K w H p c := by
  have hk : k < w.ads.length := by
    rw [r.len]
    exact (List.getElem?_eq_some_iff.mp h).1
  exact ⟨w.ads[k], List.getElem?_eq_getElem hk, r.at_ k c _ h (List.getElem?_eq_getElem hk)⟩
theorem Rel.freeF (r : Rel K T w H st) {p : Addr} (h : H p = none) : w.F p = none := by
  cases q : w.F p with
  | none => rfl
  | some o =>
    rw [r.fr p o q] at h
    cases h
theorem tabs_ext {H' : Hp} (t : LamX.Tabs T H) (e : ∀ b o, H b = some o → H' b = some o) : LamX.Tabs T H' := t.ext e
theorem nt_upd {F : Hp} {p : Addr} {o : HO} (h : ∀ a ps, F a ≠ some (.tbl ps)) (ho : ∀ ps, o ≠ .tbl ps) : ∀ a ps, upd F p o a ≠ some (.tbl ps) := fun a ps z => by
  by_cases q : a = p
  · rw [q, upd_same] at z
    exact ho ps (Option.some.inj z)
  · rw [upd_ne q] at z
    exact h a ps z
/-- a new thing that stays as it is -/
theorem Rel.laid (r : Rel K T w H st) {p : Addr} (hp : H p = none) (o : HO) (ho : ∀ ps, o ≠ .tbl ps := by intro _ z; cases z) : Stp w H ⟨upd w.F p o, w.ads, w.S⟩ (upd H p o) ∧ Rel K T ⟨upd w.F p o, w.ads, w.S⟩ (upd H p o) st := by
  have hF := r.freeF hp
  have le : Le w ⟨upd w.F p o, w.ads, w.S⟩ := ⟨fun a u h => by
    show upd w.F p o a = some u
    rw [upd_ne (fun z => by rw [z, hF] at h; cases h)]
    exact h, fun _ _ h => h, rfl⟩
  have hk : ∀ a u, H a = some u → upd H p o a = some u := fun a u h => by
    rw [upd_ne (fun z => by rw [z, hp] at h; cases h)]
    exact h
  refine ⟨⟨le, fun q h n => absurd h n, fun a u h _ _ => hk a u h, fun a h => ?_, fun a h n => .inl ?_⟩, ⟨fun a u h => ?_, r.len, r.nd, fun k c q h1 h2 => ?_, tabs_ext r.tabs hk, r.scr.le le, nt_upd r.nt ho⟩⟩
  rotate_left
  · by_cases q : a = p
    · rw [q]
      exact .of hp
    · have h' : upd w.F p o a ≠ none := h
      rw [upd_ne q] at h'
      exact absurd n h'
  rotate_left
  rotate_left
  · exact fun u q => h u (hk a u q)
  · by_cases q : a = p
    · subst q
      have h' : upd w.F a o a = some u := h
      rw [upd_same] at h'
      rw [upd_same]
      exact h'
    · have h' : upd w.F p o a = some u := h
      rw [upd_ne q] at h'
      exact hk a u (r.fr a u h')
  · have x := r.at_ k c q h1 h2
    refine x.mono le (fun hd => ?_) (hk q)
    show upd w.F p o q = none
    rw [upd_ne (fun z => x.there (by rw [z]; exact hp))]
    exact x.noF hd
/-- a new cell -/
theorem Rel.grown (r : Rel K T w H st) {p : Addr} (hp : H p = none) {H' : Hp} (hk : ∀ a u, H a = some u → H' a = some u) {c : Cell} (hc : CellOk K ⟨w.F, w.ads ++ [p], w.S⟩ H' p c) : Stp w H ⟨w.F, w.ads ++ [p], w.S⟩ H' ∧ Rel K T ⟨w.F, w.ads ++ [p], w.S⟩ H' (st ++ [c]) := by
  have hF := r.freeF hp
  have le : Le w ⟨w.F, w.ads ++ [p], w.S⟩ := ⟨fun _ _ h => h, fun k q h => by
    show (w.ads ++ [p])[k]? = some q
    rw [List.getElem?_append_left (List.getElem?_eq_some_iff.mp h).1]
    exact h, rfl⟩
  have hn : p ∉ w.ads := fun z => r.there z hp
  refine ⟨⟨le, fun q h n => ?_, fun a u h _ _ => hk a u h, fun a h => ?_, fun a h n => absurd n h⟩, ⟨fun a u h => hk a u (r.fr a u h), by simp [r.len], ?_, fun k d q h1 h2 => ?_, tabs_ext r.tabs hk, r.scr.le le, r.nt⟩⟩
  · have h' : q ∈ w.ads ++ [p] := h
    rw [List.mem_append] at h'
    rcases h' with h | h
    · exact absurd h n
    · have e : q = p := by simpa using h
      rw [e]
      exact .of hp
  · exact fun u q => h u (hk a u q)
  · show (w.ads ++ [p]).Nodup
    rw [List.nodup_append]
    refine ⟨r.nd, by simp, fun a ha b hb => ?_⟩
    have e : b = p := by simpa using hb
    rw [e]
    intro z
    rw [z] at ha
    exact hn ha
  · have h2' : (w.ads ++ [p])[k]? = some q := h2
    by_cases hlt : k < st.length
    · rw [List.getElem?_append_left hlt] at h1
      rw [List.getElem?_append_left (by rw [r.len]; exact hlt)] at h2'
      exact (r.at_ k d q h1 h2').mono le (fun hd => (r.at_ k d q h1 h2').noF hd) (hk q)
    · have hk2 : k = st.length := by
        have := (List.getElem?_eq_some_iff.mp h1).1
        simp at this
        omega
      subst hk2
      rw [List.getElem?_append_right (Nat.le_refl _), Nat.sub_self] at h1
      rw [List.getElem?_append_right (by rw [r.len]; exact Nat.le_refl _), r.len, Nat.sub_self] at h2'
      simp at h1 h2'
      subst h1 h2'
      exact hc
/-- a cell is put -/
theorem Rel.put (r : Rel K T w H st) {k : Nat} {p : Addr} {c0 : Cell} (h0 : st[k]? = some c0) (hd : c0 ≠ .dead) (ha : w.ads[k]? = some p) {o : HO} {c : Cell} (hc : CellOk K w (upd H p o) p c) : Stp w H w (upd H p o) ∧ Rel K T w (upd H p o) (st.set k c) := by
  have x0 := r.at_ k c0 p h0 ha
  have hF := x0.noF hd
  have hmem : p ∈ w.ads := List.mem_of_getElem? ha
  refine ⟨⟨Le.refl w, fun q h n => absurd h n, fun a u h n _ => ?_, fun a h => ?_, fun a h n => absurd n h⟩, ⟨fun a u h => ?_, by simp [r.len], r.nd, fun j d q h1 h2 => ?_, ?_, r.scr, r.nt⟩⟩
  · have hne : a ≠ p := fun z => n (by rw [z]; exact hmem)
    rw [upd_ne hne]
    exact h
  · by_cases z : a = p
    · obtain ⟨u, h1, h2⟩ := hc.nt
      rw [z] at h
      exact (h.no h1 h2).elim
    · exact fun u q => h u (by rw [upd_ne z]; exact q)
  · rw [upd_ne (fun z => by rw [z, hF] at h; cases h)]
    exact r.fr a u h
  · by_cases z : k = j
    · subst z
      rw [ha] at h2
      cases h2
      rw [List.getElem?_set_self (List.getElem?_eq_some_iff.mp h0).1] at h1
      cases h1
      exact hc
    · rw [List.getElem?_set_ne z] at h1
      have x := r.at_ j d q h1 h2
      refine x.mono (Le.refl w) (fun hd => x.noF hd) fun u e => ?_
      rw [upd_ne (fun y => ?_)]
      · exact e
      · subst y
        obtain ⟨hk1, e1⟩ := List.getElem?_eq_some_iff.mp ha
        obtain ⟨hj1, e2⟩ := List.getElem?_eq_some_iff.mp h2
        exact z ((List.getElem_inj r.nd).mp (e1.trans e2.symm))
  · intro t ht
    obtain ⟨ps, h1, h2, h3⟩ := r.tabs t ht
    have keep : ∀ a u, H a = some u → (∀ xs, u ≠ .lst xs) → (∀ xs, u ≠ .dK xs) → (∀ xs, u ≠ .dT xs) → (∀ c d xs, u ≠ .ins c d xs) → upd H p o a = some u := fun a u e n1 n2 n3 n4 => by
      rw [upd_ne (fun y => ?_)]
      · exact e
      · subst y
        cases c0 with
        | dead => exact hd rfl
        | lst ds => obtain ⟨_, vs, q, _⟩ := x0; rw [q] at e; exact n1 _ (Option.some.inj e).symm
        | dic ds => obtain ⟨_, vs, q, _⟩ := x0; rw [q] at e; exact n2 _ (Option.some.inj e).symm
        | dct ds => obtain ⟨_, vs, q, _⟩ := x0; rw [q] at e; exact n3 _ (Option.some.inj e).symm
        | ins c ds => obtain ⟨_, dx, vs, q, _⟩ := x0; rw [q] at e; exact n4 _ _ _ (Option.some.inj e).symm
    refine ⟨ps, keep _ _ h1 (by intro _ z; cases z) (by intro _ z; cases z) (by intro _ z; cases z) (by intro _ _ _ z; cases z), h2, fun pos cv hcv => ?_⟩
    obtain ⟨c', e1, e2⟩ := h3 pos cv hcv
    refine ⟨c', e1, keep _ _ e2 ?_ ?_ ?_ ?_⟩ <;> (intros; unfold LamX.CodeO; intro z; cases z)
/-- a list's or any cell's end: it stays as it is from now on -/
theorem Rel.frozen (r : Rel K T w H st) {k : Nat} {ds : List D} (h0 : st[k]? = some (.lst ds)) : ∃ p vs, w.ads[k]? = some p ∧ Stp w H ⟨upd w.F p (.lst vs), w.ads, w.S⟩ H ∧ Rel K T ⟨upd w.F p (.lst vs), w.ads, w.S⟩ H (st.set k .dead) ∧ Dat ⟨upd w.F p (.lst vs), w.ads, w.S⟩ (.ref p) (.lst ds) := by
  obtain ⟨p, ha, hF, vs, hH, hv⟩ := r.addr h0
  have le : Le w ⟨upd w.F p (.lst vs), w.ads, w.S⟩ := ⟨fun a u h => by
    show upd w.F p (.lst vs) a = some u
    rw [upd_ne (fun z => by rw [z, hF] at h; cases h)]
    exact h, fun _ _ h => h, rfl⟩
  refine ⟨p, vs, ha, ⟨le, fun q h n => absurd h n, fun a u h _ _ => h, fun a h => h, fun a h n => .inr (by
    by_cases q : a = p
    · rw [q]
      exact List.mem_of_getElem? ha
    · have h' : upd w.F p (.lst vs) a ≠ none := h
      rw [upd_ne q] at h'
      exact absurd n h')⟩, ⟨fun a u h => ?_, by simp [r.len], r.nd, fun j d q h1 h2 => ?_, r.tabs, r.scr.le le, nt_upd r.nt (by intro _ z; cases z)⟩, .lst upd_same (hv.mono le)⟩
  · have h' : upd w.F p (.lst vs) a = some u := h
    by_cases z : a = p
    · rw [z, upd_same] at h'
      rw [z, hH]
      exact h'
    · rw [upd_ne z] at h'
      exact r.fr a u h'
  · by_cases z : k = j
    · subst z
      rw [List.getElem?_set_self (List.getElem?_eq_some_iff.mp h0).1] at h1
      cases h1
      have h2' : w.ads[k]? = some q := h2
      rw [ha] at h2'
      cases h2'
      exact ⟨_, hH, (by intro _ z; cases z), (by intro _ z; cases z)⟩
    · rw [List.getElem?_set_ne z] at h1
      have x := r.at_ j d q h1 h2
      refine x.mono le (fun hd => ?_) fun u e => e
      show upd w.F p (.lst vs) q = none
      rw [upd_ne (fun y => ?_)]
      · exact x.noF hd
      · subst y
        obtain ⟨hk1, e1⟩ := List.getElem?_eq_some_iff.mp ha
        obtain ⟨hj1, e2⟩ := List.getElem?_eq_some_iff.mp (show w.ads[j]? = some q from h2)
        exact z ((List.getElem_inj r.nd).mp (e1.trans e2.symm))
end
end Fk
/-! FkB: expressions that follow plain functions. -/
namespace Fk
open PySem PySem.Spec PyProof.Rows L2
section
variable (K : PySem.W.Frag) (T : List (Addr × Str)) (E : XK)
/-- the reading that a plain function is -/
def tOf {α β : Type} (rel : Wd → β → α → Prop) (f : DEnv → Store → Res α) : L2.St → Hp → (β → Hp → Prop) → Prop :=
  fun σ H Q => ∃ w env st, EnvR w σ env ∧ Rel K T w H st ∧ Post K T E rel w H (f env st) Q
def tOfS (W : WX) (f : DEnv → Store → RS) : TS := fun Dn σ H => ∃ w env st, EnvR w σ env ∧ Rel K T w H st ∧ PostS K T W w H (f env st) Dn
end
theorem Sim.to {K : PySem.W.Frag} {T : List (Addr × Str)} {E : XK} {α β : Type} {rel : Wd → β → α → Prop} {t : L2.St → Hp → (β → Hp → Prop) → Prop} {f : DEnv → Store → Res α} (h : Sim K T E rel t f) {σ : L2.St} {H : Hp} {Q : β → Hp → Prop} (x : tOf K T E rel f σ H Q) : t σ H Q := by
  obtain ⟨w, env, st, e, r, p⟩ := x
  exact h w σ H env st Q e r p
theorem sim_of {K : PySem.W.Frag} {T : List (Addr × Str)} {E : XK} {α β : Type} {rel : Wd → β → α → Prop} {f : DEnv → Store → Res α} : Sim K T E rel (tOf K T E rel f) f := fun w σ H env st Q e r p => ⟨w, env, st, e, r, p⟩
theorem sim_ofS {K : PySem.W.Frag} {T : List (Addr × Str)} {W : WX} {f : DEnv → Store → RS} : SimS K T W (tOfS K T W f) f := fun w σ H env st Q e r p => ⟨w, env, st, e, r, p⟩
abbrev LE := DEnv → Store → Res D
abbrev LT := DEnv → Store → Res Bool
abbrev LA := DEnv → Store → Res (List D)
abbrev LS := DEnv → Store → RS
abbrev eqB : Wd → Bool → Bool → Prop := fun _ a b => a = b
/-- an expression, a test, arguments, statements that do as a plain function says -/
abbrev PEf (X : Cx) (T : List (Addr × Str)) (E : XK) (e : Expr) (f : LE) : Prop := PE X e (tOf X.K T E Dat f)
abbrev PTf (X : Cx) (T : List (Addr × Str)) (E : XK) (e : Expr) (f : LT) : Prop := PT X e (tOf X.K T E eqB f)
abbrev PWf (X : Cx) (T : List (Addr × Str)) (E : XK) (e : Expr) (f : LT) : Prop := PW X e (tOf X.K T E eqB f)
abbrev PAf (X : Cx) (T : List (Addr × Str)) (E : XK) (es : List Expr) (f : LA) : Prop := PA X es (tOf X.K T E Dats f)
abbrev PSf (X : Cx) (T : List (Addr × Str)) (W : WX) (s : Stmt) (f : LS) : Prop := PS X s (tOfS X.K T W f)
abbrev PSsf (X : Cx) (T : List (Addr × Str)) (W : WX) (s : List Stmt) (f : LS) : Prop := PSs X s (tOfS X.K T W f)
section
variable {X : Cx} {T : List (Addr × Str)} {E : XK}
theorem pe_to {e : Expr} {te : TE} {f : LE} (h : PE X e te) (s : Sim X.K T E Dat te f) : PEf X T E e f := ⟨fun pins st σ H Q I x => h.run pins st σ H Q I (s.to x)⟩
theorem pt_to {e : Expr} {te : TT} {f : LT} (h : PT X e te) (s : Sim X.K T E eqB te f) : PTf X T E e f := ⟨fun pins st σ H Q I x => h.run pins st σ H Q I (s.to x)⟩
theorem pw_to {e : Expr} {te : TT} {f : LT} (h : PW X e te) (s : Sim X.K T E eqB te f) : PWf X T E e f := ⟨fun whole pins st σ H Q I x => h.run whole pins st σ H Q I (s.to x)⟩
theorem pa_to {es : List Expr} {te : TA} {f : LA} (h : PA X es te) (s : Sim X.K T E Dats te f) : PAf X T E es f := ⟨fun pos pins st σ H Q I x => h.run pos pins st σ H Q I (s.to x)⟩
theorem ps_to {W : WX} {s : Stmt} {t : TS} {f : LS} (h : PS X s t) (k : SimS X.K T W t f) : PSf X T W s f := ⟨fun pins st σ H Dn I x => h.run pins st σ H Dn I (by
  obtain ⟨w, env, s', e, r, p⟩ := x
  exact k w σ H env s' Dn e r p)⟩
theorem pss_to {W : WX} {s : List Stmt} {t : TS} {f : LS} (h : PSs X s t) (k : SimS X.K T W t f) : PSsf X T W s f := ⟨fun pins st σ H Dn I x => h.run pins st σ H Dn I (by
  obtain ⟨w, env, s', e, r, p⟩ := x
  exact k w σ H env s' Dn e r p)⟩
end
/-! ### names, constants -/
def fVar (i : Nat) : LE := fun env st => match env[i]? with
  | some (some d) => .ok d st
  | _ => .stuck
def fC (d : D) : LE := fun _ st => .ok d st
section
variable {X : Cx} {T : List (Addr × Str)} {E : XK} {K : PySem.W.Frag}
theorem sim_var (i : Nat) : Sim K T E Dat (tVar i) (fVar i) := fun w σ H env st Q e r p => by
  unfold fVar at p
  cases q : env[i]? with
  | none => rw [q] at p; exact p.elim
  | some o =>
    cases o with
    | none => rw [q] at p; exact p.elim
    | some d =>
      rw [q] at p
      obtain ⟨v, h1, h2⟩ := e.2 i d q
      exact ⟨v, h1, p.here r h2⟩
theorem x_var (i : Nat) {x : Str} {pos : Pos} (hN : X.N[i]? = some x := by rfl) (hv : Vis X.env.scope x := by first | exact Or.inl rfl | exact Or.inr (Or.inl rfl) | exact Or.inr (Or.inr rfl)) (hd : (x == ("__debug__" : Str)) = false := by decide)
    (hcd : (x == ("__classdict__" : Str)) = false := by decide) : PEf X T E (.Name x pos) (fVar i) := pe_to (pv i hN hv hd hcd) (sim_var i)
theorem sim_c {v : V} {d : D} (h : ∀ w, Dat w v d) : Sim K T E Dat (tC v) (fC d) := fun w σ H env st Q e r p => p.here r (h w)
theorem x_int {i : Int} {j pos} : PEf X T E (.Constant (.int i) j pos) (fC (.int i)) := pe_to pe_int (sim_c fun _ => .int i)
theorem x_str {i : Str} {j pos} : PEf X T E (.Constant (.str i) j pos) (fC (.str i)) := pe_to pe_str (sim_c fun _ => .str i)
theorem x_bl {i : Bool} {j pos} : PEf X T E (.Constant (.bool i) j pos) (fC (.bl i)) := pe_to pe_bl (sim_c fun _ => .bl i)
theorem x_non {j pos} : PEf X T E (.Constant .none j pos) (fC .non) := pe_to pe_non (sim_c fun _ => .non)
/-- a module's int, text -/
theorem x_gint {x : Str} {i : Int} {pos : Pos} (hm : ∃ t, X.mg x = some (.int i t)) (hg : Gl X x := by rfl) (hd : (x == ("__debug__" : Str)) = false := by decide) : PEf X T E (.Name x pos) (fC (.int i)) := by
  obtain ⟨t, hm⟩ := hm
  exact pe_to (pe_glob (v := .int i) hg hm ⟨t, rfl⟩ hd) (sim_c fun _ => .int i)
theorem x_gstr {x : Str} {i : Str} {pos : Pos} (hm : ∃ t, X.mg x = some (.str i t)) (hg : Gl X x := by rfl) (hd : (x == ("__debug__" : Str)) = false := by decide) : PEf X T E (.Name x pos) (fC (.str i)) := by
  obtain ⟨t, hm⟩ := hm
  exact pe_to (pe_glob (v := .str i) hg hm ⟨t, rfl⟩ hd) (sim_c fun _ => .str i)
end
/-! ### operations by values -/
abbrev O2 := D → D → Store → Res D
abbrev O1 := D → Store → Res D
def SimR2 (K : PySem.W.Frag) (T : List (Addr × Str)) (r : R2) (o : O2) : Prop := ∀ E w H st x y d e Q, Rel K T w H st → Dat w x d → Dat w y e → Post K T E Dat w H (o d e st) Q → r x y H Q
def SimR1 (K : PySem.W.Frag) (T : List (Addr × Str)) (r : V → Hp → VK → Prop) (o : O1) : Prop := ∀ E w H st x d Q, Rel K T w H st → Dat w x d → Post K T E Dat w H (o d st) Q → r x H Q
def fOp (o : O2) (fa fb : LE) : LE := fun env st => (fa env st).bind fun d st1 => (fb env st1).bind fun e st2 => o d e st2
def fUn (o : O1) (fa : LE) : LE := fun env st => (fa env st).bind fun d st1 => o d st1
section
variable {X : Cx} {T : List (Addr × Str)} {E : XK} {K : PySem.W.Frag} {a b : Expr} {fa fb : LE} {pos : Pos}
theorem sim_op {r : R2} {o : O2} (h : SimR2 K T r o) : Sim K T E Dat (tOp r (tOf K T E Dat fa) (tOf K T E Dat fb)) (fOp o fa fb) := fun w σ H env st Q e r p => by
  refine ⟨w, env, st, e, r, p.bind fun w1 x H1 d st1 s1 r1 dx p1 => ?_⟩
  refine ⟨w1, env, st1, e.mono s1.le, r1, p1.bind fun w2 y H2 d2 st2 s2 r2 dy p2 => ?_⟩
  exact h E w2 H2 st2 x y d d2 Q r2 (dx.mono s2.le) dy p2
theorem sim_un {r : V → Hp → VK → Prop} {o : O1} (h : SimR1 K T r o) : Sim K T E Dat (tUn r (tOf K T E Dat fa)) (fUn o fa) := fun w σ H env st Q e r p => by
  refine ⟨w, env, st, e, r, p.bind fun w1 x H1 d st1 s1 r1 dx p1 => ?_⟩
  exact h E w1 H1 st1 x d Q r1 dx p1
theorem x_op {op : Operator} {r : R2} {o : O2} (ho : OpR X (binaryOp op) r) (h : SimR2 X.K T r o) (ha : PEf X T E a fa) (hb : PEf X T E b fb) : PEf X T E (.BinOp a op b pos) (fOp o fa fb) := pe_to (pe_op ho ha hb) (sim_op h)
theorem x_un {op : UnaryOp} {r : V → Hp → VK → Prop} {o : O1} (ho : UnR X (unaryOp op) r) (h : SimR1 X.K T r o) (ha : PEf X T E a fa) : PEf X T E (.UnaryOp op a pos) (fUn o fa) := pe_to (pe_un ho ha) (sim_un h)
theorem x_cmp {op : CmpOp} {r : R2} {o : O2} (ho : OpR X (compareOp op) r) (h : SimR2 X.K T r o) (ha : PEf X T E a fa) (hb : PEf X T E b fb) (hm : behindInMarks op b = false := by first | rfl | exact nomark _) : PEf X T E (.Compare a [op] [b] pos) (fOp o fa fb) := pe_to (pe_cmpR ho ha hb hm) (sim_op h)
/-- a value that is True or False, as a test -/
def fTest (f : LE) : LT := fun env st => (f env st).bind fun d st1 => match d with
  | .bl b => .ok b st1
  | _ => .stuck
theorem sim_test {f : LE} : Sim K T E eqB (fun σ H Q => tOf K T E Dat f σ H fun x H1 => ∃ c, x = .bl c ∧ Q c H1) (fTest f) := fun w σ H env st Q e r p => by
  refine ⟨w, env, st, e, r, p.bind fun w1 x H1 d st1 s1 r1 dx p1 => ?_⟩
  cases dx with
  | bl b => exact ⟨b, rfl, p1.here r1 rfl⟩
  | _ => exact p1.elim
theorem x_test {f : LE} (h : PEf X T E a f) (he : ∀ whole, isTrue a X.env whole = (do let v ← whole; standAt a.pos; holding [v] (truthy v)) := by intro _; rfl) : PTf X T E a (fTest f) := pt_to (pt_val h he) sim_test
theorem x_tcmp {op : CmpOp} {r : R2} {o : O2} (ho : OpR X (compareOp op) r) (h : SimR2 X.K T r o) (ha : PEf X T E a fa) (hb : PEf X T E b fb) (hm : behindInMarks op b = false := by first | rfl | exact nomark _) : PTf X T E (.Compare a [op] [b] pos) (fTest (fOp o fa fb)) := by
  refine pt_to (pt_cmpR ho ha hb hm) fun w σ H env st Q e r p => ?_
  exact sim_op (E := E) h w σ H env st _ e r (p.bind fun w1 x H1 d st1 s1 r1 dx p1 => by
    cases dx with
    | bl b => exact ⟨b, rfl, p1.here r1 rfl⟩
    | _ => exact p1.elim)
/-! ### and, or, not, if -/
def fAnd (ta tb : LT) : LT := fun env st => (ta env st).bind fun c st1 => if c = true then tb env st1 else .ok false st1
def fOr (ta tb : LT) : LT := fun env st => (ta env st).bind fun c st1 => if c = true then .ok true st1 else tb env st1
def fNot (ta : LT) : LT := fun env st => (ta env st).bind fun c st1 => .ok (!c) st1
variable {ta tb : LT} {rest : List Expr}
theorem sim_and : Sim K T E eqB (tAnd (tOf K T E eqB ta) (tOf K T E eqB tb)) (fAnd ta tb) := fun w σ H env st Q e r p => by
  refine ⟨w, env, st, e, r, p.bind fun w1 x H1 d st1 s1 r1 dx p1 => ?_⟩
  cases (show x = d from dx)
  cases x with
  | true =>
    show (if true = true then _ else _)
    rw [if_pos rfl] at p1 ⊢
    exact ⟨w1, env, st1, e.mono s1.le, r1, p1⟩
  | false =>
    show (if false = true then _ else _)
    rw [if_neg Bool.false_ne_true] at p1 ⊢
    exact p1.here r1 rfl
theorem sim_or : Sim K T E eqB (tOr (tOf K T E eqB ta) (tOf K T E eqB tb)) (fOr ta tb) := fun w σ H env st Q e r p => by
  refine ⟨w, env, st, e, r, p.bind fun w1 x H1 d st1 s1 r1 dx p1 => ?_⟩
  cases (show x = d from dx)
  cases x with
  | true =>
    show (if true = true then _ else _)
    rw [if_pos rfl] at p1 ⊢
    exact p1.here r1 rfl
  | false =>
    show (if false = true then _ else _)
    rw [if_neg Bool.false_ne_true] at p1 ⊢
    exact ⟨w1, env, st1, e.mono s1.le, r1, p1⟩
theorem x_wand1 (h : PTf X T E a ta) : PWf X T E (.BoolOp .And [a] pos) ta := pw_and1 h
theorem x_wor1 (h : PTf X T E a ta) : PWf X T E (.BoolOp .Or [a] pos) ta := pw_or1 h
theorem x_wand (ha : PTf X T E a ta) (hb : PWf X T E (.BoolOp .And (b :: rest) pos) tb) : PWf X T E (.BoolOp .And (a :: b :: rest) pos) (fAnd ta tb) := pw_to (pw_and ha hb) sim_and
theorem x_wor (ha : PTf X T E a ta) (hb : PWf X T E (.BoolOp .Or (b :: rest) pos) tb) : PWf X T E (.BoolOp .Or (a :: b :: rest) pos) (fOr ta tb) := pw_to (pw_or ha hb) sim_or
theorem x_tw (h : PWf X T E a ta) : PTf X T E a ta := h.pt
theorem x_tnot (h : PTf X T E a ta) : PTf X T E (.UnaryOp .Not a pos) (fNot ta) := pt_to (pt_not h) fun w σ H env st Q e r p => by
  refine ⟨w, env, st, e, r, p.bind fun w1 x H1 d st1 s1 r1 dx p1 => ?_⟩
  cases (show x = d from dx)
  exact p1.here r1 rfl
/-- as values: all but the last are True or False -/
def fAndV (fa fb : LE) : LE := fun env st => (fa env st).bind fun d st1 => match d with
  | .bl true => fb env st1
  | .bl false => .ok (.bl false) st1
  | _ => .stuck
def fOrV (fa fb : LE) : LE := fun env st => (fa env st).bind fun d st1 => match d with
  | .bl true => .ok (.bl true) st1
  | .bl false => fb env st1
  | _ => .stuck
def fNotV (fa : LE) : LE := fun env st => (fa env st).bind fun d st1 => match d with
  | .bl b => .ok (.bl (!b)) st1
  | _ => .stuck
def fIf (t : LT) (fa fb : LE) : LE := fun env st => (t env st).bind fun c st1 => if c = true then fa env st1 else fb env st1
theorem x_one {op} {f : LE} (h : PEf X T E a f) : PEf X T E (.BoolOp op [a] pos) f := pe_one h
theorem x_and (ha : PEf X T E a fa) (hb : PEf X T E (.BoolOp .And (b :: rest) pos) fb) : PEf X T E (.BoolOp .And (a :: b :: rest) pos) (fAndV fa fb) := pe_to (pe_and ha hb) fun w σ H env st Q e r p => by
  refine ⟨w, env, st, e, r, p.bind fun w1 x H1 d st1 s1 r1 dx p1 => ?_⟩
  cases dx with
  | bl c =>
    refine ⟨c, rfl, ?_⟩
    cases c with
    | true =>
      rw [if_pos rfl]
      exact ⟨w1, env, st1, e.mono s1.le, r1, p1⟩
    | false =>
      rw [if_neg Bool.false_ne_true]
      exact p1.here r1 (.bl false)
  | _ => exact p1.elim
theorem x_or (ha : PEf X T E a fa) (hb : PEf X T E (.BoolOp .Or (b :: rest) pos) fb) : PEf X T E (.BoolOp .Or (a :: b :: rest) pos) (fOrV fa fb) := pe_to (pe_or ha hb) fun w σ H env st Q e r p => by
  refine ⟨w, env, st, e, r, p.bind fun w1 x H1 d st1 s1 r1 dx p1 => ?_⟩
  cases dx with
  | bl c =>
    refine ⟨c, rfl, ?_⟩
    cases c with
    | true =>
      rw [if_pos rfl]
      exact p1.here r1 (.bl true)
    | false =>
      rw [if_neg Bool.false_ne_true]
      exact ⟨w1, env, st1, e.mono s1.le, r1, p1⟩
  | _ => exact p1.elim
theorem x_not (ha : PEf X T E a fa) : PEf X T E (.UnaryOp .Not a pos) (fNotV fa) := pe_to (pe_not ha) fun w σ H env st Q e r p => by
  refine ⟨w, env, st, e, r, p.bind fun w1 x H1 d st1 s1 r1 dx p1 => ?_⟩
  cases dx with
  | bl c => exact ⟨c, rfl, p1.here r1 (.bl _)⟩
  | _ => exact p1.elim
theorem x_if {c : Expr} {t : LT} (hc : PTf X T E c t) (ha : PEf X T E a fa) (hb : PEf X T E b fb) : PEf X T E (.IfExp c a b pos) (fIf t fa fb) := pe_to (pe_ifExp hc ha hb) fun w σ H env st Q e r p => by
  refine ⟨w, env, st, e, r, p.bind fun w1 x H1 d st1 s1 r1 dx p1 => ?_⟩
  cases (show x = d from dx)
  cases x with
  | true =>
    rw [if_pos rfl] at p1 ⊢
    exact ⟨w1, env, st1, e.mono s1.le, r1, p1⟩
  | false =>
    rw [if_neg Bool.false_ne_true] at p1 ⊢
    exact ⟨w1, env, st1, e.mono s1.le, r1, p1⟩
end
/-! ### ints, texts, lists, tuples: the operators -/
abbrev lim : Nat := 16777216
theorem lim_eq : sizeLine = lim := sizeLine_eq
/-- a list's items, as it stands (new ones; cells) -/
def lstOf (d : D) (st : Store) : Option (List D) := match d with
  | .lst xs => some xs
  | .ref k => (match st[k]? with
    | some (.lst xs) => some xs
    | _ => none)
  | _ => none
/-- .. that is only read: the script too -/
def rdOf (d : D) (st : Store) : Option (List D) := match d with
  | .lck xs => some xs
  | d => lstOf d st
section
variable {K : PySem.W.Frag} {T : List (Addr × Str)} {w : Wd} {H : Hp} {st : Store}
theorem lst_at {x : V} {d : D} {xs : List D} (r : Rel K T w H st) (h : Dat w x d) (e : lstOf d st = some xs) : ∃ p vs, x = .ref p ∧ H p = some (.lst vs) ∧ Dats w vs xs := by
  cases h with
  | lst hF hd =>
    cases e
    exact ⟨_, _, rfl, r.fr _ _ hF, hd⟩
  | @ref p k ha =>
    have e' : (match st[k]? with | some (.lst xs) => some xs | _ => none) = some xs := e
    cases q : st[k]? with
    | none => rw [q] at e'; cases e'
    | some c =>
      rw [q] at e'
      cases c with
      | lst ys =>
        cases e'
        obtain ⟨p', a', _, vs, hH, hv⟩ := r.addr q
        rw [ha] at a'
        cases a'
        exact ⟨p, vs, rfl, hH, hv⟩
      | _ => cases e'
  | _ => cases e
theorem rd_at {x : V} {d : D} {xs : List D} (r : Rel K T w H st) (h : Dat w x d) (e : rdOf d st = some xs) : ∃ p vs, x = .ref p ∧ SqL K H p vs ∧ Dats w vs xs := by
  by_cases c : ∃ ys, d = .lck ys
  · obtain ⟨ys, rfl⟩ := c
    cases e
    cases h with
    | @lck p vs ds hF hd => exact ⟨p, vs, rfl, r.sc hF, hd⟩
  · have e2 : lstOf d st = some xs := by
      cases d with
      | lck ys => exact absurd ⟨ys, rfl⟩ c
      | _ => exact e
    obtain ⟨p, vs, e1, h1, h2⟩ := lst_at r h e2
    exact ⟨p, vs, e1, SqL.of h1, h2⟩
theorem Dat.tup_at {x : V} {ds : List D} (r : Rel K T w H st) (h : Dat w x (.tup ds)) : ∃ p vs, x = .ref p ∧ H p = some (.tup vs) ∧ Dats w vs ds := by
  cases h with
  | tup hF hd => exact ⟨_, _, rfl, r.fr _ _ hF, hd⟩
/-- a new tuple, a new list that stays -/
theorem Post.newT {E : XK} {ds : List D} {vs : List V} {Q : VK} (p : Post K T E Dat w H (.ok (.tup ds) st) Q) (r : Rel K T w H st) (hv : Dats w vs ds) : ∀ a, H a = none → Q (.ref a) (upd H a (.tup vs)) := fun a ha => by
  obtain ⟨s1, r1⟩ := r.laid ha (.tup vs)
  exact p _ _ _ s1 r1 (.tup upd_same (hv.mono s1.le))
theorem Post.newL {E : XK} {ds : List D} {vs : List V} {Q : VK} (p : Post K T E Dat w H (.ok (.lst ds) st) Q) (r : Rel K T w H st) (hv : Dats w vs ds) : ∀ a, H a = none → Q (.ref a) (upd H a (.lst vs)) := fun a ha => by
  obtain ⟨s1, r1⟩ := r.laid ha (.lst vs)
  exact p _ _ _ s1 r1 (.lst upd_same (hv.mono s1.le))
/-- a new list that is a cell -/
theorem Post.newC {E : XK} {ds : List D} {vs : List V} {Q : VK} (p : Post K T E Dat w H (.ok (.ref st.length) (st ++ [.lst ds])) Q) (r : Rel K T w H st) (hv : Dats w vs ds) : ∀ a, H a = none → Q (.ref a) (upd H a (.lst vs)) := fun a ha => by
  have hk : ∀ b u, H b = some u → upd H a (.lst vs) b = some u := fun b u h => by
    rw [upd_ne (fun z => by rw [z, ha] at h; cases h)]
    exact h
  have le : Le w ⟨w.F, w.ads ++ [a], w.S⟩ := ⟨fun _ _ h => h, fun k q h => by
    show (w.ads ++ [a])[k]? = some q
    rw [List.getElem?_append_left (List.getElem?_eq_some_iff.mp h).1]
    exact h, rfl⟩
  obtain ⟨s1, r1⟩ := r.grown ha (H' := upd H a (.lst vs)) hk (c := .lst ds) ⟨r.freeF ha, vs, upd_same, hv.mono le⟩
  refine p _ _ _ s1 r1 (.ref ?_)
  show (w.ads ++ [a])[st.length]? = some a
  rw [← r.len]
  simp
end
def oI (g : Int → Int → D) : O2 := fun d e st => match d, e with
  | .int i, .int j => .ok (g i j) st
  | _, _ => .stuck
def oIc (c : Int → Int → Bool) (g : Int → Int → D) : O2 := fun d e st => match d, e with
  | .int i, .int j => if c i j = true then .ok (g i j) st else .stuck
  | _, _ => .stuck
section
variable {K : PySem.W.Frag} {T : List (Addr × Str)}
theorem sim_I0 {g : Int → Int → V} {g' : Int → Int → D} (h : ∀ w i j, Dat w (g i j) (g' i j)) : SimR2 K T (rI0 g) (oI g') := fun E w H st x y d e Q r dx dy p => by
  cases dx with
  | int i =>
    cases dy with
    | int j => exact ⟨i, j, rfl, rfl, p.here r (h w i j)⟩
    | _ => exact p.elim
  | _ => exact p.elim
theorem sim_I {C : Int → Int → Prop} {c : Int → Int → Bool} (hc : ∀ i j, c i j = true → C i j) {g : Int → Int → V} {g' : Int → Int → D} (h : ∀ w i j, Dat w (g i j) (g' i j)) : SimR2 K T (rI C g) (oIc c g') := fun E w H st x y d e Q r dx dy p => by
  cases dx with
  | int i =>
    cases dy with
    | int j =>
      have p' : Post K T E Dat w H (if c i j = true then .ok (g' i j) st else .stuck) Q := p
      by_cases q : c i j = true
      · rw [if_pos q] at p'
        exact ⟨i, j, rfl, rfl, hc i j q, p'.here r (h w i j)⟩
      · rw [if_neg q] at p'
        exact p'.elim
    | _ => exact p.elim
  | _ => exact p.elim
theorem SimR2.or {r1 r2 : R2} {o : O2} (h : ∀ E w H st x y d e Q, Rel K T w H st → Dat w x d → Dat w y e → Post K T E Dat w H (o d e st) Q → r1 x y H Q ∨ r2 x y H Q) : SimR2 K T (fun x y H Q => r1 x y H Q ∨ r2 x y H Q) o := h
end
abbrev oSub : O2 := oI fun i j => .int (i - j)
abbrev oLt : O2 := oI fun i j => .bl (decide (i < j))
abbrev oLe : O2 := oI fun i j => .bl (decide (i ≤ j))
abbrev oGt : O2 := oI fun i j => .bl (decide (j < i))
abbrev oGe : O2 := oI fun i j => .bl (decide (j ≤ i))
def cMul (i j : Int) : Bool := decide ((-(2 ^ 64) < i ∧ i < 2 ^ 64) ∨ (-(2 ^ 64) < j ∧ j < 2 ^ 64))
abbrev oMulI : O2 := oIc cMul fun i j => .int (i * j)
abbrev oDiv : O2 := oIc (fun i j => decide (0 < j ∧ j < 1073741824)) fun i j => .int (i / j)
abbrev oMod : O2 := oIc (fun i j => decide (0 < j)) fun i j => .int (i % j)
abbrev oPow : O2 := oIc (fun i j => decide (0 ≤ j ∧ j ≤ 1000000 ∧ i.natAbs < 2 ^ 64)) fun i j => .int (i ^ j.toNat)
def oNeg : O1 := fun d st => match d with
  | .int i => .ok (.int (-i)) st
  | _ => .stuck
section
variable {X : Cx} {T : List (Addr × Str)} {E : XK} {a b c : Expr} {fa fb fc : LE} {pos : Pos}
theorem x_sub (ha : PEf X T E a fa) (hb : PEf X T E b fb) : PEf X T E (.BinOp a .Sub b pos) (fOp oSub fa fb) := x_op op_sub (sim_I0 fun _ _ _ => .int _) ha hb
theorem x_mulI (ha : PEf X T E a fa) (hb : PEf X T E b fb) : PEf X T E (.BinOp a .Mult b pos) (fOp oMulI fa fb) := x_op op_mul (sim_I (fun i j h => by unfold cMul at h; have h2 := of_decide_eq_true h; exact h2) fun _ _ _ => .int _) ha hb
theorem x_div (ha : PEf X T E a fa) (hb : PEf X T E b fb) : PEf X T E (.BinOp a .FloorDiv b pos) (fOp oDiv fa fb) := x_op op_fdiv (sim_I (fun i j h => by have h2 := of_decide_eq_true h; exact h2) fun _ _ _ => .int _) ha hb
theorem x_mod (ha : PEf X T E a fa) (hb : PEf X T E b fb) : PEf X T E (.BinOp a .Mod b pos) (fOp oMod fa fb) := x_op op_mod (sim_I (fun i j h => by have h2 := of_decide_eq_true h; exact h2) fun _ _ _ => .int _) ha hb
theorem x_pow (ha : PEf X T E a fa) (hb : PEf X T E b fb) : PEf X T E (.BinOp a .Pow b pos) (fOp oPow fa fb) := x_op op_pow (sim_I (fun i j h => by have h2 := of_decide_eq_true h; exact h2) fun _ _ _ => .int _) ha hb
theorem x_neg (ha : PEf X T E a fa) : PEf X T E (.UnaryOp .USub a pos) (fUn oNeg fa) := x_un un_neg (fun E w H st x d Q r dx p => by
  cases dx with
  | int i => exact ⟨i, rfl, p.here r (.int _)⟩
  | _ => exact p.elim) ha
theorem x_lt (ha : PEf X T E a fa) (hb : PEf X T E b fb) : PEf X T E (.Compare a [.Lt] [b] pos) (fOp oLt fa fb) := x_cmp op_lt (sim_I0 fun _ _ _ => .bl _) ha hb
theorem x_le (ha : PEf X T E a fa) (hb : PEf X T E b fb) : PEf X T E (.Compare a [.LtE] [b] pos) (fOp oLe fa fb) := x_cmp op_le (sim_I0 fun _ _ _ => .bl _) ha hb
theorem x_gt (ha : PEf X T E a fa) (hb : PEf X T E b fb) : PEf X T E (.Compare a [.Gt] [b] pos) (fOp oGt fa fb) := x_cmp op_gt (sim_I0 fun _ _ _ => .bl _) ha hb
theorem x_ge (ha : PEf X T E a fa) (hb : PEf X T E b fb) : PEf X T E (.Compare a [.GtE] [b] pos) (fOp oGe fa fb) := x_cmp op_ge (sim_I0 fun _ _ _ => .bl _) ha hb
theorem x_tlt (ha : PEf X T E a fa) (hb : PEf X T E b fb) : PTf X T E (.Compare a [.Lt] [b] pos) (fTest (fOp oLt fa fb)) := x_tcmp op_lt (sim_I0 fun _ _ _ => .bl _) ha hb
theorem x_tle (ha : PEf X T E a fa) (hb : PEf X T E b fb) : PTf X T E (.Compare a [.LtE] [b] pos) (fTest (fOp oLe fa fb)) := x_tcmp op_le (sim_I0 fun _ _ _ => .bl _) ha hb
theorem x_tgt (ha : PEf X T E a fa) (hb : PEf X T E b fb) : PTf X T E (.Compare a [.Gt] [b] pos) (fTest (fOp oGt fa fb)) := x_tcmp op_gt (sim_I0 fun _ _ _ => .bl _) ha hb
theorem x_tge (ha : PEf X T E a fa) (hb : PEf X T E b fb) : PTf X T E (.Compare a [.GtE] [b] pos) (fTest (fOp oGe fa fb)) := x_tcmp op_ge (sim_I0 fun _ _ _ => .bl _) ha hb
/-- a <= b < c, by values -/
def fChain (o o' : O2) (fa fb fc : LE) : LE := fun env st => (fa env st).bind fun d st1 => (fb env st1).bind fun e st2 => (o d e st2).bind fun z st3 => match z with
  | .bl true => (fc env st3).bind fun f st4 => o' e f st4
  | .bl false => .ok (.bl false) st3
  | _ => .stuck
theorem sim_chain {K : PySem.W.Frag} {r r' : R2} {o o' : O2} (h : SimR2 K T r o) (h' : SimR2 K T r' o') : Sim K T E Dat (tChain r r' (tOf K T E Dat fa) (tOf K T E Dat fb) (tOf K T E Dat fc)) (fChain o o' fa fb fc) := fun w σ H env st Q e0 r0 p => by
  refine ⟨w, env, st, e0, r0, p.bind fun w1 x H1 d st1 s1 r1 dx p1 => ?_⟩
  refine ⟨w1, env, st1, e0.mono s1.le, r1, p1.bind fun w2 y H2 e st2 s2 r2 dy p2 => ?_⟩
  refine h E w2 H2 st2 x y d e _ r2 (dx.mono s2.le) dy (p2.bind fun w3 z H3 q st3 s3 r3 dz p3 => ?_)
  cases dz with
  | bl k =>
    refine ⟨k, rfl, ?_⟩
    cases k with
    | true =>
      rw [if_pos rfl]
      refine ⟨w3, env, st3, ((e0.mono s1.le).mono s2.le).mono s3.le, r3, p3.bind fun w4 u H4 f st4 s4 r4 du p4 => ?_⟩
      exact h' E w4 H4 st4 y u e f Q r4 ((dy.mono s3.le).mono s4.le) du p4
    | false =>
      rw [if_neg Bool.false_ne_true]
      exact p3.here r3 (.bl false)
  | _ => exact p3.elim
theorem x_chain {op op' : CmpOp} {r r' : R2} {o o' : O2} (ho : OpR X (compareOp op) r) (ho' : OpR X (compareOp op') r') (h : SimR2 X.K T r o) (h' : SimR2 X.K T r' o') (ha : PEf X T E a fa) (hb : PEf X T E b fb) (hc : PEf X T E c fc)
    (hm : lastMarks [op, op'] [b, c] = false := by with_unfolding_all rfl) : PEf X T E (.Compare a [op, op'] [b, c] pos) (fChain o o' fa fb fc) := pe_to (pe_chain ho ho' ha hb hc hm) (sim_chain h h')
theorem x_tchain {op op' : CmpOp} {r r' : R2} {o o' : O2} (ho : OpR X (compareOp op) r) (ho' : OpR X (compareOp op') r') (h : SimR2 X.K T r o) (h' : SimR2 X.K T r' o') (ha : PEf X T E a fa) (hb : PEf X T E b fb) (hc : PEf X T E c fc)
    (hm : lastMarks [op, op'] [b, c] = false := by with_unfolding_all rfl) : PTf X T E (.Compare a [op, op'] [b, c] pos) (fTest (fChain o o' fa fb fc)) := by
  refine pt_to (pt_chain ho ho' ha hb hc hm) fun w σ H env st Q e r p => ?_
  exact sim_chain (E := E) h h' w σ H env st _ e r (p.bind fun w1 x H1 d st1 s1 r1 dx p1 => by
    cases dx with
    | bl b => exact ⟨b, rfl, p1.here r1 rfl⟩
    | _ => exact p1.elim)
theorem sim_lt {K : PySem.W.Frag} : SimR2 K T (rI0 fun i j => .bl (decide (i < j))) oLt := sim_I0 fun _ _ _ => .bl _
theorem sim_le {K : PySem.W.Frag} : SimR2 K T (rI0 fun i j => .bl (decide (i ≤ j))) oLe := sim_I0 fun _ _ _ => .bl _
end
end Fk
/-! FkC: +, *, ==, in, items, slices, displays, arguments, built-in calls. -/
namespace Fk
open PySem PySem.Spec PyProof.Rows L2
/-! ### + and * of any kind -/
def oAdd : O2 := fun d e st => match d, e with
  | .int i, .int j => .ok (.int (i + j)) st
  | .str a, .str b => if a.length + b.length ≤ lim then .ok (.str (a ++ b)) st else .stuck
  | .tup a, .tup b => if a.length + b.length ≤ lim then .ok (.tup (a ++ b)) st else .stuck
  | d, e => (match lstOf d st, lstOf e st with
    | some a, some b => if a.length + b.length ≤ lim then .ok (.lst (a ++ b)) st else .stuck
    | _, _ => .stuck)
abbrev rStrAdd : R2 := fun x y H Q => ∃ i j, x = .str i ∧ y = .str j ∧ i.length + j.length ≤ sizeLine ∧ Q (.str (i ++ j)) H
abbrev rAddAny (K : PySem.W.Frag) : R2 := fun x y H Q => (rI0 fun i j => .int (i + j)) x y H Q ∨ (fun x y H Q => rStrAdd x y H Q ∨ (fun x y H Q => rCatA K x y H Q ∨ rCat x y H Q) x y H Q) x y H Q
theorem op_addAny {X : Cx} : OpR X (binaryOp .Add) (rAddAny X.K) := op_add.or (op_add_str.or (op_catA.or op_cat))
section
variable {K : PySem.W.Frag} {T : List (Addr × Str)}
theorem sim_cat {E : XK} {w : Wd} {H : Hp} {st : Store} {x y : V} {d e : D} {Q : VK} (r : Rel K T w H st) (dx : Dat w x d) (dy : Dat w y e)
    (p : Post K T E Dat w H (match lstOf d st, lstOf e st with | some a, some b => if a.length + b.length ≤ lim then .ok (.lst (a ++ b)) st else .stuck | _, _ => .stuck) Q) : rCat x y H Q := by
  cases h1 : lstOf d st with
  | none => rw [h1] at p; exact p.elim
  | some a =>
    cases h2 : lstOf e st with
    | none => rw [h1, h2] at p; exact p.elim
    | some b =>
      rw [h1, h2] at p
      have p' : Post K T E Dat w H (if a.length + b.length ≤ lim then .ok (.lst (a ++ b)) st else .stuck) Q := p
      by_cases q : a.length + b.length ≤ lim
      · rw [if_pos q] at p'
        obtain ⟨l1, v1, e1, g1, k1⟩ := lst_at r dx h1
        obtain ⟨l2, v2, e2, g2, k2⟩ := lst_at r dy h2
        exact ⟨l1, l2, v1, v2, e1, e2, g1, g2, by rw [k1.length, k2.length, lim_eq]; exact q, p'.newL r (k1.append k2)⟩
      · rw [if_neg q] at p'
        exact p'.elim
theorem sim_catA {E : XK} {w : Wd} {H : Hp} {st : Store} {x y : V} {a b : List D} {Q : VK} (r : Rel K T w H st) (dx : Dat w x (.tup a)) (dy : Dat w y (.tup b))
    (p : Post K T E Dat w H (if a.length + b.length ≤ lim then .ok (.tup (a ++ b)) st else .stuck) Q) : rCatA K x y H Q := by
  by_cases q : a.length + b.length ≤ lim
  · rw [if_pos q] at p
    obtain ⟨l1, v1, e1, g1, k1⟩ := Dat.tup_at r dx
    obtain ⟨l2, v2, e2, g2, k2⟩ := Dat.tup_at r dy
    refine ⟨l1, l2, v1, v2, e1, e2, SqT.of g1, SqT.of g2, by rw [k1.length, k2.length, lim_eq]; exact q, fun h => ?_, fun _ h => ?_, fun _ _ => p.newT r (k1.append k2)⟩
    · subst h
      have ha : a = [] := k1.nil_of
      subst ha
      rw [← e2]
      exact p.here r dy
    · subst h
      have hb : b = [] := k2.nil_of
      subst hb
      rw [← e1]
      rw [List.append_nil] at p
      exact p.here r dx
  · rw [if_neg q] at p
    exact p.elim
theorem sim_addAny : SimR2 K T (rAddAny K) oAdd := fun E w H st x y d e Q r dx dy p => by
  cases dx with
  | int i =>
    cases dy with
    | int j => exact .inl ⟨i, j, rfl, rfl, p.here r (.int _)⟩
    | _ => exact .inr (.inr (.inr (sim_cat r (.int i) (by first | exact .non | exact .bl _ | exact .str _ | (rename_i h1 h2; exact .tup h1 h2) | (rename_i h1 h2; exact .lst h1 h2) | (rename_i h1 h2; exact .lck h1 h2) | (rename_i h1; exact .ref h1)) p)))
  | str i =>
    cases dy with
    | str j =>
      have p' : Post K T E Dat w H (if i.length + j.length ≤ lim then .ok (.str (i ++ j)) st else .stuck) Q := p
      by_cases q : i.length + j.length ≤ lim
      · rw [if_pos q] at p'
        exact .inr (.inl ⟨i, j, rfl, rfl, by rw [lim_eq]; exact q, p'.here r (.str _)⟩)
      · rw [if_neg q] at p'
        exact p'.elim
    | _ => exact .inr (.inr (.inr (sim_cat r (.str i) (by first | exact .non | exact .bl _ | exact .int _ | (rename_i h1 h2; exact .tup h1 h2) | (rename_i h1 h2; exact .lst h1 h2) | (rename_i h1 h2; exact .lck h1 h2) | (rename_i h1; exact .ref h1)) p)))
  | tup hF hd =>
    cases dy with
    | tup gF gd => exact .inr (.inr (.inl (sim_catA r (.tup hF hd) (.tup gF gd) p)))
    | _ => exact .inr (.inr (.inr (sim_cat r (.tup hF hd) (by first | exact .non | exact .bl _ | exact .int _ | exact .str _ | (rename_i h1 h2; exact .lst h1 h2) | (rename_i h1 h2; exact .lck h1 h2) | (rename_i h1; exact .ref h1)) p)))
  | non => exact .inr (.inr (.inr (sim_cat r .non dy p)))
  | bl b => exact .inr (.inr (.inr (sim_cat r (.bl b) dy p)))
  | lst hF hd => exact .inr (.inr (.inr (sim_cat r (.lst hF hd) dy p)))
  | lck hF hd => exact .inr (.inr (.inr (sim_cat r (.lck hF hd) dy p)))
  | ref h => exact .inr (.inr (.inr (sim_cat r (.ref h) dy p)))
end
/-- * of ints; of a tuple and an int (two or more) -/
def oMul : O2 := fun d e st => match d, e with
  | .int i, .int j => if cMul i j = true then .ok (.int (i * j)) st else .stuck
  | .tup a, .int k => if a ≠ [] ∧ 2 ≤ k ∧ k ≤ 1000 ∧ a.length ≤ 1000 then .ok (.tup (List.replicate k.toNat a).flatten) st else .stuck
  | _, _ => .stuck
theorem Dats.rep {w : Wd} {vs : List V} {ds : List D} (h : Dats w vs ds) : ∀ k : Nat, Dats w (List.replicate k vs).flatten (List.replicate k ds).flatten
  | 0 => .nil
  | k + 1 => by
    rw [List.replicate_succ, List.replicate_succ, List.flatten_cons, List.flatten_cons]
    exact h.append (Dats.rep h k)
theorem sim_mul {K : PySem.W.Frag} {T : List (Addr × Str)} : SimR2 K T (fun x y H Q => (rI CMul fun i j => .int (i * j)) x y H Q ∨ rRepT K x y H Q) oMul := fun E w H st x y d e Q r dx dy p => by
  cases dx with
  | int i =>
    cases dy with
    | int j =>
      have p' : Post K T E Dat w H (if cMul i j = true then .ok (.int (i * j)) st else .stuck) Q := p
      by_cases q : cMul i j = true
      · rw [if_pos q] at p'
        refine .inl ⟨i, j, rfl, rfl, ?_, p'.here r (.int _)⟩
        unfold cMul at q
        have h2 := of_decide_eq_true q
        exact h2
      · rw [if_neg q] at p'
        exact p'.elim
    | _ => exact p.elim
  | @tup a vs ds hF hd =>
    cases dy with
    | int k =>
      have p' : Post K T E Dat w H (if ds ≠ [] ∧ 2 ≤ k ∧ k ≤ 1000 ∧ ds.length ≤ 1000 then .ok (.tup (List.replicate k.toNat ds).flatten) st else .stuck) Q := p
      by_cases q : ds ≠ [] ∧ 2 ≤ k ∧ k ≤ 1000 ∧ ds.length ≤ 1000
      · rw [if_pos q] at p'
        refine .inr ⟨a, k, vs, rfl, rfl, SqT.of (r.fr _ _ hF), fun z => ?_, q.2.1, q.2.2.1, by rw [hd.length]; exact q.2.2.2, p'.newT r (hd.rep _)⟩
        subst z
        exact q.1 hd.nil_of
      · rw [if_neg q] at p'
        exact p'.elim
    | _ => exact p.elim
  | _ => exact p.elim
section
variable {X : Cx} {T : List (Addr × Str)} {E : XK} {a b c : Expr} {fa fb fc : LE} {pos : Pos} {K : PySem.W.Frag}
theorem x_add (ha : PEf X T E a fa) (hb : PEf X T E b fb) : PEf X T E (.BinOp a .Add b pos) (fOp oAdd fa fb) := x_op op_addAny sim_addAny ha hb
theorem x_mul (ha : PEf X T E a fa) (hb : PEf X T E b fb) : PEf X T E (.BinOp a .Mult b pos) (fOp oMul fa fb) := x_op (op_mul.or op_repT) sim_mul ha hb
/-! ### is None -/
def oIsN : O1 := fun d st => match d with
  | .non => .ok (.bl true) st
  | _ => .ok (.bl false) st
def oNotN : O1 := fun d st => match d with
  | .non => .ok (.bl false) st
  | _ => .ok (.bl true) st
theorem sim_isN {E : XK} {w : Wd} {H : Hp} {st : Store} {x : V} {d : D} {Q : VK} (r : Rel K T w H st) (dx : Dat w x d) (p : Post K T E Dat w H (oIsN d st) Q) : Q (.bl (decide (x = .non))) H := by
  cases dx with
  | non => exact p.here r (.bl true)
  | bl b => rw [decide_eq_false (by simp)]; exact p.here r (.bl false)
  | int b => rw [decide_eq_false (by simp)]; exact p.here r (.bl false)
  | str b => rw [decide_eq_false (by simp)]; exact p.here r (.bl false)
  | tup h1 h2 => rw [decide_eq_false (by simp)]; exact p.here r (.bl false)
  | lst h1 h2 => rw [decide_eq_false (by simp)]; exact p.here r (.bl false)
  | lck h1 h2 => rw [decide_eq_false (by simp)]; exact p.here r (.bl false)
  | ref h1 => rw [decide_eq_false (by simp)]; exact p.here r (.bl false)
theorem sim_notN {E : XK} {w : Wd} {H : Hp} {st : Store} {x : V} {d : D} {Q : VK} (r : Rel K T w H st) (dx : Dat w x d) (p : Post K T E Dat w H (oNotN d st) Q) : Q (.bl (!decide (x = .non))) H := by
  cases dx with
  | non => exact p.here r (.bl false)
  | bl b => rw [decide_eq_false (by simp)]; exact p.here r (.bl true)
  | int b => rw [decide_eq_false (by simp)]; exact p.here r (.bl true)
  | str b => rw [decide_eq_false (by simp)]; exact p.here r (.bl true)
  | tup h1 h2 => rw [decide_eq_false (by simp)]; exact p.here r (.bl true)
  | lst h1 h2 => rw [decide_eq_false (by simp)]; exact p.here r (.bl true)
  | lck h1 h2 => rw [decide_eq_false (by simp)]; exact p.here r (.bl true)
  | ref h1 => rw [decide_eq_false (by simp)]; exact p.here r (.bl true)
theorem x_isN {j pos'} (ha : PEf X T E a fa) : PEf X T E (.Compare a [.Is] [.Constant .none j pos'] pos) (fUn oIsN fa) := pe_to (pe_cmp (pc_isN ha)) fun w σ H env st Q e r p =>
  ⟨w, env, st, e, r, p.bind fun w1 x H1 d st1 s1 r1 dx p1 => sim_isN r1 dx p1⟩
theorem x_notN {j pos'} (ha : PEf X T E a fa) : PEf X T E (.Compare a [.IsNot] [.Constant .none j pos'] pos) (fUn oNotN fa) := pe_to (pe_cmp (pc_notN ha)) fun w σ H env st Q e r p =>
  ⟨w, env, st, e, r, p.bind fun w1 x H1 d st1 s1 r1 dx p1 => sim_notN r1 dx p1⟩
theorem sim_isN' : Sim K T E Dat (tIsN (tOf K T E Dat fa)) (fUn oIsN fa) := fun w σ H env st Q e r p => ⟨w, env, st, e, r, p.bind fun w1 x H1 d st1 s1 r1 dx p1 => sim_isN r1 dx p1⟩
theorem sim_notN' : Sim K T E Dat (tNotN (tOf K T E Dat fa)) (fUn oNotN fa) := fun w σ H env st Q e r p => ⟨w, env, st, e, r, p.bind fun w1 x H1 d st1 s1 r1 dx p1 => sim_notN r1 dx p1⟩
theorem sim_tB {te : TE} {f : LE} (h : Sim K T E Dat te f) : Sim K T E eqB (tB te) (fTest f) := fun w σ H env st Q e r p => h w σ H env st _ e r (p.bind fun w1 x H1 d st1 s1 r1 dx p1 => by
  cases dx with
  | bl b => exact ⟨b, rfl, p1.here r1 rfl⟩
  | _ => exact p1.elim)
theorem x_tisN {j pos'} (ha : PEf X T E a fa) : PTf X T E (.Compare a [.Is] [.Constant .none j pos'] pos) (fTest (fUn oIsN fa)) := pt_to (pt_cmp (pc_isN ha)) (sim_tB sim_isN')
theorem x_tnotN {j pos'} (ha : PEf X T E a fa) : PTf X T E (.Compare a [.IsNot] [.Constant .none j pos'] pos) (fTest (fUn oNotN fa)) := pt_to (pt_cmp (pc_notN ha)) (sim_tB sim_notN')
end
/-! ### == -/
mutual
def D.py : D → Option PyData
  | .non => some .none
  | .bl b => some (.bool b)
  | .int i => some (.int i)
  | .str s => some (.str s)
  | .tup xs => (D.pys xs).map PyData.tuple
  | .lst xs => (D.pys xs).map PyData.list
  | .lck xs => (D.pys xs).map PyData.list
  | .ref _ => none
def D.pys : List D → Option (List PyData)
  | [] => some []
  | x :: xs => (match D.py x, D.pys xs with
    | some a, some b => some (a :: b)
    | _, _ => none)
end
/-- a cell that is a list, as it stands -/
def topOf (d : D) (st : Store) : D := match d with
  | .ref k => (match st[k]? with
    | some (.lst xs) => .lst xs
    | _ => .ref k)
  | d => d
section
variable {K : PySem.W.Frag} {T : List (Addr × Str)} {w : Wd} {H : Hp} {st : Store}
mutual
theorem Dat.dp (r : Rel K T w H st) : ∀ {v : V} {d : D} {y : PyData}, Dat w v d → D.py d = some y → Dp K H v y
  | _, _, _, .non, e => by
    cases (show some PyData.none = some _ from e)
    exact .non
  | _, _, _, .bl b, e => by
    cases (show some (PyData.bool b) = some _ from e)
    exact .bl b
  | _, _, _, .int b, e => by
    cases (show some (PyData.int b) = some _ from e)
    exact .int b
  | _, _, _, .str b, e => by
    cases (show some (PyData.str b) = some _ from e)
    exact .str b
  | _, .tup ds, y, .tup h k, e => by
    have e' : (D.pys ds).map PyData.tuple = some y := by rw [← e, D.py]
    cases q : D.pys ds with
    | none => rw [q] at e'; cases e'
    | some zs =>
      rw [q] at e'
      cases (show some (PyData.tuple zs) = some _ from e')
      exact .tup (SqT.of (r.fr _ _ h)) (Dats.dp r k q)
  | _, .lst ds, y, .lst h k, e => by
    have e' : (D.pys ds).map PyData.list = some y := by rw [← e, D.py]
    cases q : D.pys ds with
    | none => rw [q] at e'; cases e'
    | some zs =>
      rw [q] at e'
      cases (show some (PyData.list zs) = some _ from e')
      exact .lst (SqL.of (r.fr _ _ h)) (Dats.dp r k q)
  | _, .lck ds, y, .lck h k, e => by
    have e' : (D.pys ds).map PyData.list = some y := by rw [← e, D.py]
    cases q : D.pys ds with
    | none => rw [q] at e'; cases e'
    | some zs =>
      rw [q] at e'
      cases (show some (PyData.list zs) = some _ from e')
      exact .lst (r.sc h) (Dats.dp r k q)
  | _, .ref k, y, .ref h, e => by
    rw [D.py] at e
    cases e
theorem Dats.dp (r : Rel K T w H st) : ∀ {vs : List V} {ds : List D} {ys : List PyData}, Dats w vs ds → D.pys ds = some ys → DpAll K H vs ys
  | _, _, _, .nil, e => by
    rw [D.pys] at e
    cases e
    exact .nil
  | _, d :: ds, ys, .cons h k, e => by
    rw [D.pys] at e
    cases q1 : D.py d with
    | none => rw [q1] at e; cases e
    | some a =>
      cases q2 : D.pys ds with
      | none => rw [q1, q2] at e; cases e
      | some b =>
        rw [q1, q2] at e
        cases e
        exact .cons (Dat.dp r h q1) (Dats.dp r k q2)
end
theorem top_dp {v : V} {d : D} {y : PyData} (r : Rel K T w H st) (h : Dat w v d) (e : D.py (topOf d st) = some y) : Dp K H v y := by
  cases h with
  | @ref p k ha =>
    have e0 : topOf (.ref k) st = (match st[k]? with | some (.lst xs) => .lst xs | _ => .ref k) := rfl
    rw [e0] at e
    cases q : st[k]? with
    | none => rw [q] at e; rw [D.py] at e; cases e
    | some c =>
      rw [q] at e
      cases c with
      | lst xs =>
        obtain ⟨p', a', _, vs, hH, hv⟩ := r.addr q
        rw [ha] at a'
        cases a'
        have e' : (D.pys xs).map PyData.list = some y := by rw [← e, D.py]
        cases q2 : D.pys xs with
        | none => rw [q2] at e'; cases e'
        | some zs =>
          rw [q2] at e'
          cases (show some (PyData.list zs) = some _ from e')
          exact .lst (SqL.of hH) (Dats.dp r hv q2)
      | _ => rw [D.py] at e; cases e
  | non => exact Dat.dp r .non e
  | bl b => exact Dat.dp r (.bl b) e
  | int b => exact Dat.dp r (.int b) e
  | str b => exact Dat.dp r (.str b) e
  | tup h1 h2 => exact Dat.dp r (.tup h1 h2) e
  | lst h1 h2 => exact Dat.dp r (.lst h1 h2) e
  | lck h1 h2 => exact Dat.dp r (.lck h1 h2) e
end
/-- two data, read -/
def py2 (d e : D) (st : Store) (g : PyData → PyData → Res D) : Res D := match D.py (topOf d st), D.py (topOf e st) with
  | some a, some b => if SeqAt.shaped a = true ∧ SeqAt.shaped b = true then g a b else .stuck
  | _, _ => .stuck
def oEq : O2 := fun d e st => py2 d e st fun a b => .ok (.bl (PyData.eqv a b)) st
def oNe : O2 := fun d e st => py2 d e st fun a b => .ok (.bl (!PyData.eqv a b)) st
section
variable {K : PySem.W.Frag} {T : List (Addr × Str)} {w : Wd} {H : Hp} {st : Store} {E : XK}
theorem py2_at {x y : V} {d e : D} {g : PyData → PyData → Res D} {Q : VK} (r : Rel K T w H st) (dx : Dat w x d) (dy : Dat w y e) (p : Post K T E Dat w H (py2 d e st g) Q) :
    ∃ a b, Dp K H x a ∧ Dp K H y b ∧ SeqAt.shaped a = true ∧ SeqAt.shaped b = true ∧ Post K T E Dat w H (g a b) Q := by
  unfold py2 at p
  cases q1 : D.py (topOf d st) with
  | none => rw [q1] at p; exact p.elim
  | some a =>
    cases q2 : D.py (topOf e st) with
    | none => rw [q1, q2] at p; exact p.elim
    | some b =>
      rw [q1, q2] at p
      have p' : Post K T E Dat w H (if SeqAt.shaped a = true ∧ SeqAt.shaped b = true then g a b else .stuck) Q := p
      by_cases c : SeqAt.shaped a = true ∧ SeqAt.shaped b = true
      · rw [if_pos c] at p'
        exact ⟨a, b, top_dp r dx q1, top_dp r dy q2, c.1, c.2, p'⟩
      · rw [if_neg c] at p'
        exact p'.elim
theorem sim_eq : SimR2 K T (rEqD K) oEq := fun E w H st x y d e Q r dx dy p => by
  obtain ⟨a, b, h1, h2, s1, s2, p'⟩ := py2_at r dx dy p
  exact ⟨a, b, h1, h2, s1, s2, p'.here r (.bl _)⟩
theorem sim_ne : SimR2 K T (rNeD K) oNe := fun E w H st x y d e Q r dx dy p => by
  obtain ⟨a, b, h1, h2, s1, s2, p'⟩ := py2_at r dx dy p
  exact ⟨a, b, h1, h2, s1, s2, p'.here r (.bl _)⟩
end
/-! ### in -/
def flatD : D → Bool
  | .non => true
  | .bl _ => true
  | .int _ => true
  | .str _ => true
  | _ => false
def eqFlat : D → D → Bool
  | .non, .non => true
  | .bl a, .bl b => a == b
  | .bl a, .int b => (if a then 1 else 0) == b
  | .int a, .bl b => a == (if b then 1 else 0)
  | .int a, .int b => a == b
  | .str a, .str b => a == b
  | _, _ => false
def oIn (neg : Bool) : O2 := fun d e st => match e with
  | .tup ds => if flatD d = true ∧ ds.all flatD = true then .ok (.bl (if neg then !(ds.any fun z => eqFlat z d) else (ds.any fun z => eqFlat z d))) st else .stuck
  | .str t => (match d with
    | .str s => .ok (.bl (if neg then !(!(Builtin.Str.occurrences t s 0 t.length 1).isEmpty) else !(Builtin.Str.occurrences t s 0 t.length 1).isEmpty)) st
    | _ => .stuck)
  | e => (match topOf e st with
    | .lst ds => py2 d (.lst ds) st fun a b => (match b with
      | .list bs => .ok (.bl (if neg then !(bs.any fun z => PyData.eqv z a) else bs.any fun z => PyData.eqv z a)) st
      | _ => .stuck)
    | _ => .stuck)
section
variable {K : PySem.W.Frag} {T : List (Addr × Str)} {w : Wd} {H : Hp} {st : Store} {E : XK}
theorem flat_D {v : V} {d : D} (h : Dat w v d) (f : flatD d = true) : flatV v = true := by
  cases h <;> first | rfl | cases f
theorem flat_Ds : ∀ {vs : List V} {ds : List D}, Dats w vs ds → ds.all flatD = true → vs.all flatV = true
  | _, _, .nil, _ => rfl
  | _, _, .cons h r, f => by
    rw [List.all_cons, Bool.and_eq_true] at f ⊢
    exact ⟨flat_D h f.1, flat_Ds r f.2⟩
theorem eqFlat_V {v u : V} {d e : D} (h : Dat w v d) (k : Dat w u e) (f : flatD d = true) (g : flatD e = true) : eqV v u = eqFlat d e := by
  cases h <;> cases k <;> first | rfl | cases f | cases g
theorem any_flat {u : V} {e : D} (k : Dat w u e) (g : flatD e = true) : ∀ {vs : List V} {ds : List D}, Dats w vs ds → ds.all flatD = true → (vs.any fun y => eqV y u) = ds.any fun z => eqFlat z e
  | _, _, .nil, _ => rfl
  | _, _, .cons h r, f => by
    rw [List.all_cons, Bool.and_eq_true] at f
    rw [List.any_cons, List.any_cons, eqFlat_V h k f.1 g, any_flat k g r f.2]
abbrev rInStr (neg : Bool) : R2 := fun x y H Q => ∃ i j, x = .str i ∧ y = .str j ∧ Q (.bl (if neg then !(!(Builtin.Str.occurrences j i 0 j.length 1).isEmpty) else !(Builtin.Str.occurrences j i 0 j.length 1).isEmpty)) H
theorem dp_list {a : Addr} {ds : List PyData} (h : Dp K H (.ref a) (.list ds)) : Dp K H (.ref a) (.list ds) := h
theorem sim_in {neg : Bool} {rD : R2} (hD : ∀ x y H Q, (∃ d ds, Dp K H x d ∧ Dp K H y (.list ds) ∧ SeqAt.shaped d = true ∧ SeqAt.shaped (.list ds) = true ∧ Q (.bl (if neg then !(ds.any fun z => PyData.eqv z d) else ds.any fun z => PyData.eqv z d)) H) → rD x y H Q) :
    SimR2 K T (fun x y H Q => rIn K neg x y H Q ∨ (fun x y H Q => rInStr neg x y H Q ∨ rD x y H Q) x y H Q) (oIn neg) := fun E w H st x y d e Q r dx dy p => by
  have lists : ∀ ds, topOf e st = .lst ds → Post K T E Dat w H (py2 d (.lst ds) st fun a b => (match b with
      | .list bs => .ok (.bl (if neg then !(bs.any fun z => PyData.eqv z a) else bs.any fun z => PyData.eqv z a)) st
      | _ => .stuck)) Q → rD x y H Q := fun ds he p => by
    unfold py2 at p
    have e0 : topOf (.lst ds) st = topOf e st := by rw [he]; rfl
    rw [e0] at p
    obtain ⟨a, b, h1, h2, s1, s2, p'⟩ := py2_at (e := e) r dx dy p
    cases h2 with
    | lst hq ha => exact hD _ _ _ _ ⟨a, _, h1, .lst hq ha, s1, s2, p'.here r (.bl _)⟩
    | _ => exact p'.elim
  cases dy with
  | @tup q vs ds hF hd =>
    have p' : Post K T E Dat w H (if flatD d = true ∧ ds.all flatD = true then .ok (.bl (if neg then !(ds.any fun z => eqFlat z d) else (ds.any fun z => eqFlat z d))) st else .stuck) Q := p
    by_cases c : flatD d = true ∧ ds.all flatD = true
    · rw [if_pos c] at p'
      refine .inl ⟨q, vs, rfl, .inr (SqT.of (r.fr _ _ hF)), flat_D dx c.1, flat_Ds hd c.2, ?_⟩
      have z := any_flat dx c.1 hd c.2
      have z2 : inV x vs = ds.any fun z => eqFlat z d := z
      rw [z2]
      exact p'.here r (.bl _)
    · rw [if_neg c] at p'
      exact p'.elim
  | str t =>
    cases dx with
    | str s => exact .inr (.inl ⟨s, t, rfl, rfl, p.here r (.bl _)⟩)
    | _ => exact p.elim
  | @lst q vs ds hF hd => exact .inr (.inr (lists ds rfl p))
  | @ref q k ha =>
    have p' : Post K T E Dat w H (match topOf (.ref k) st with
      | .lst ds => py2 d (.lst ds) st fun a b => (match b with
        | .list bs => .ok (.bl (if neg then !(bs.any fun z => PyData.eqv z a) else bs.any fun z => PyData.eqv z a)) st
        | _ => .stuck)
      | _ => .stuck) Q := p
    cases h : topOf (.ref k) st with
    | lst ds =>
      rw [h] at p'
      exact .inr (.inr (lists ds h p'))
    | _ => rw [h] at p'; exact p'.elim
  | _ => exact p.elim
end
section
variable {X : Cx} {T : List (Addr × Str)} {E : XK} {a b c : Expr} {fa fb fc : LE} {pos : Pos} {k : Nat}
theorem x_eq (hr : Room k X.A) (ha : PEf X T E a fa) (hb : PEf X T E b fb) : PEf X T E (.Compare a [.Eq] [b] pos) (fOp oEq fa fb) := x_cmp (op_eqD hr.units) sim_eq ha hb
theorem x_ne (hr : Room k X.A) (ha : PEf X T E a fa) (hb : PEf X T E b fb) : PEf X T E (.Compare a [.NotEq] [b] pos) (fOp oNe fa fb) := x_cmp (op_neD hr.units) sim_ne ha hb
theorem x_teq (hr : Room k X.A) (ha : PEf X T E a fa) (hb : PEf X T E b fb) : PTf X T E (.Compare a [.Eq] [b] pos) (fTest (fOp oEq fa fb)) := x_tcmp (op_eqD hr.units) sim_eq ha hb
theorem x_tne (hr : Room k X.A) (ha : PEf X T E a fa) (hb : PEf X T E b fb) : PTf X T E (.Compare a [.NotEq] [b] pos) (fTest (fOp oNe fa fb)) := x_tcmp (op_neD hr.units) sim_ne ha hb
theorem hu65 (hr : Room k X.A) : X.A.units + 65 < cLine := by
  have := hr.un
  omega
theorem op_inAny (hr : Room k X.A) : OpR X (compareOp .In) (fun x y H Q => rIn X.K false x y H Q ∨ (fun x y H Q => rInStr false x y H Q ∨ rInD X.K x y H Q) x y H Q) := op_in_seq.or (op_in_str.or (op_inD (hu65 hr)))
theorem op_notInAny (hr : Room k X.A) : OpR X (compareOp .NotIn) (fun x y H Q => rIn X.K true x y H Q ∨ (fun x y H Q => rInStr true x y H Q ∨ rNotInD X.K x y H Q) x y H Q) := op_notIn_seq.or (op_notin_str.or (op_notInD (hu65 hr)))
theorem x_in (hr : Room k X.A) (ha : PEf X T E a fa) (hb : PEf X T E b fb) (hm : behindInMarks .In b = false := by rfl) : PEf X T E (.Compare a [.In] [b] pos) (fOp (oIn false) fa fb) := x_cmp (op_inAny hr) (sim_in fun _ _ _ _ h => h) ha hb hm
theorem x_notIn (hr : Room k X.A) (ha : PEf X T E a fa) (hb : PEf X T E b fb) (hm : behindInMarks .NotIn b = false := by rfl) : PEf X T E (.Compare a [.NotIn] [b] pos) (fOp (oIn true) fa fb) := x_cmp (op_notInAny hr) (sim_in fun _ _ _ _ h => h) ha hb hm
theorem x_tin (hr : Room k X.A) (ha : PEf X T E a fa) (hb : PEf X T E b fb) (hm : behindInMarks .In b = false := by rfl) : PTf X T E (.Compare a [.In] [b] pos) (fTest (fOp (oIn false) fa fb)) := x_tcmp (op_inAny hr) (sim_in fun _ _ _ _ h => h) ha hb hm
theorem x_tnotIn (hr : Room k X.A) (ha : PEf X T E a fa) (hb : PEf X T E b fb) (hm : behindInMarks .NotIn b = false := by rfl) : PTf X T E (.Compare a [.NotIn] [b] pos) (fTest (fOp (oIn true) fa fb)) := x_tcmp (op_notInAny hr) (sim_in fun _ _ _ _ h => h) ha hb hm
/-! ### items, slices -/
def oIx : O2 := fun d e st => match e with
  | .int i => (match d with
    | .tup ds => (match atI ds i with
      | some z => .ok z st
      | none => .stuck)
    | .str s => (match atI s.cps.toList i with
      | some c => if s.length ≤ lim then .ok (.str ⟨#[c]⟩) st else .stuck
      | none => .stuck)
    | d => (match rdOf d st with
      | some ds => (match atI ds i with
        | some z => .ok z st
        | none => .stuck)
      | none => .stuck))
  | _ => .stuck
theorem Dats.atI {w : Wd} {vs : List V} {ds : List D} {i : Int} {d : D} (h : Dats w vs ds) (e : atI ds i = some d) : ∃ v, L2.atI vs i = some v ∧ Dat w v d := by
  unfold L2.atI at e ⊢
  rw [h.length]
  cases q : ixN ds.length i with
  | none => rw [q] at e; cases e
  | some j =>
    rw [q] at e
    obtain ⟨v, h1, h2⟩ := h.get (show ds[j]? = some d from e)
    exact ⟨v, h1, h2⟩
theorem sim_ix {K : PySem.W.Frag} : SimR2 K T (rIx K) oIx := fun E w H st x y d e Q r dx dy p => by
  cases dy with
  | int i =>
    have lists : ∀ ds, rdOf d st = some ds → Post K T E Dat w H (match atI ds i with | some z => .ok z st | none => .stuck) Q → rIx K x (.int i) H Q := fun ds he p => by
      cases q : atI ds i with
      | none => rw [q] at p; exact p.elim
      | some z =>
        rw [q] at p
        obtain ⟨l, vs, e1, h1, h2⟩ := rd_at r dx he
        obtain ⟨v, h3, h4⟩ := h2.atI q
        exact .inl ⟨l, vs, i, v, e1, rfl, h1, h3, p.here r h4⟩
    have p0 : ∀ d', d = d' → Post K T E Dat w H (match rdOf d st with | some ds => (match atI ds i with | some z => .ok z st | none => .stuck) | none => .stuck) Q → rIx K x (.int i) H Q := fun d' _ p => by
      cases q : rdOf d st with
      | none => rw [q] at p; exact p.elim
      | some ds =>
        rw [q] at p
        exact lists ds q p
    cases dx with
    | @tup a vs ds hF hd =>
      have p' : Post K T E Dat w H (match atI ds i with | some z => .ok z st | none => .stuck) Q := p
      cases q : atI ds i with
      | none => rw [q] at p'; exact p'.elim
      | some z =>
        rw [q] at p'
        obtain ⟨v, h3, h4⟩ := hd.atI q
        exact .inr (.inl ⟨a, vs, i, v, rfl, rfl, SqT.of (r.fr _ _ hF), h3, p'.here r h4⟩)
    | str s =>
      have p' : Post K T E Dat w H (match atI s.cps.toList i with | some c => if s.length ≤ lim then .ok (.str ⟨#[c]⟩) st else .stuck | none => .stuck) Q := p
      cases q : atI s.cps.toList i with
      | none => rw [q] at p'; exact p'.elim
      | some c =>
        rw [q] at p'
        have p2 : Post K T E Dat w H (if s.length ≤ lim then .ok (.str ⟨#[c]⟩) st else .stuck) Q := p'
        by_cases z : s.length ≤ lim
        · rw [if_pos z] at p2
          exact .inr (.inr ⟨s, i, c, rfl, rfl, by rw [lim_eq]; exact z, q, p2.here r (.str _)⟩)
        · rw [if_neg z] at p2
          exact p2.elim
    | non => exact p0 _ rfl p
    | bl b => exact p0 _ rfl p
    | int b => exact p0 _ rfl p
    | lst h1 h2 => exact p0 _ rfl p
    | lck h1 h2 => exact p0 _ rfl p
    | ref h1 => exact p0 _ rfl p
  | _ => exact p.elim
theorem x_ix (ha : PEf X T E a fa) (hb : PEf X T E b fb) (hs : PlainIx b := by exact fun _ _ => rfl) : PEf X T E (.Subscript a b pos) (fOp oIx fa fb) := pe_to (pe_ix ix_seq ha hb hs) (sim_op sim_ix)
/-- a part of a slice -/
def fPart (f : Option LE) : DEnv → Store → Res (Option Int) := match f with
  | none => fun _ st => .ok none st
  | some f => fun env st => (f env st).bind fun d st1 => match d with
    | .int i => .ok (some i) st1
    | _ => .stuck
abbrev eqO : Wd → Option Int → Option Int → Prop := fun _ a b => a = b
abbrev POf (X : Cx) (T : List (Addr × Str)) (E : XK) (e : Option Expr) (f : Option LE) : Prop := PO X e (tOf X.K T E eqO (fPart f))
theorem x_pnone : POf X T E none none := ⟨fun pins st σ H Q I x => po_none.run pins st σ H Q I (by
  obtain ⟨w, env, s', e, r, p⟩ := x
  exact p.here r rfl)⟩
theorem x_psome (h : PEf X T E a fa) : POf X T E (some a) (some fa) := ⟨fun pins st σ H Q I x => (po_some h).run pins st σ H Q I (by
  obtain ⟨w, env, s', e, r, p⟩ := x
  refine ⟨w, env, s', e, r, Post.bind (rel := Dat) (show Post X.K T E eqO w H ((fa env s').bind _) Q from p) fun w1 x H1 d st1 s1 r1 dx p1 => ?_⟩
  cases dx with
  | int i => exact ⟨i, rfl, p1.here r1 rfl⟩
  | _ => exact p1.elim)⟩
def cutD (xs : List D) (lo hi : Option Int) : List D := (xs.drop (HT.sIx xs.length 0 lo)).take (HT.sIx xs.length xs.length hi - HT.sIx xs.length 0 lo)
theorem Dats.cut {w : Wd} {vs : List V} {ds : List D} (h : Dats w vs ds) (lo hi : Option Int) : Dats w (cutV vs lo hi) (cutD ds lo hi) := by
  unfold cutV cutD
  rw [h.length]
  exact (h.drop _).take _
def oSl : D → Option Int → Option Int → Store → Res D := fun d lo hi st => match d with
  | .tup ds => .ok (.tup (cutD ds lo hi)) st
  | d => (match rdOf d st with
    | some ds => .ok (.lst (cutD ds lo hi)) st
    | none => .stuck)
def fSl (fa : LE) (fl fh : Option LE) : LE := fun env st => (fa env st).bind fun d st1 => (fPart fl env st1).bind fun lo st2 => (fPart fh env st2).bind fun hi st3 => oSl d lo hi st3
theorem sim_sl {K : PySem.W.Frag} {E : XK} {w : Wd} {H : Hp} {st : Store} {x : V} {d : D} {lo hi : Option Int} {Q : VK} (r : Rel K T w H st) (dx : Dat w x d) (p : Post K T E Dat w H (oSl d lo hi st) Q) : rSlL K x lo hi H Q ∨ rSlA K x lo hi H Q := by
  have p0 : Post K T E Dat w H (match rdOf d st with | some ds => .ok (.lst (cutD ds lo hi)) st | none => .stuck) Q → rSlL K x lo hi H Q ∨ rSlA K x lo hi H Q := fun p => by
    cases q : rdOf d st with
    | none => rw [q] at p; exact p.elim
    | some ds =>
      rw [q] at p
      obtain ⟨l, vs, e1, h1, h2⟩ := rd_at r dx q
      exact .inl ⟨l, vs, e1, h1, p.newL r (h2.cut lo hi)⟩
  cases dx with
  | @tup a vs ds hF hd =>
    have p' : Post K T E Dat w H (.ok (.tup (cutD ds lo hi)) st) Q := p
    refine .inr ⟨a, vs, rfl, SqT.of (r.fr _ _ hF), fun z => ?_, fun _ => p'.newT r (hd.cut lo hi)⟩
    have e : cutD ds lo hi = ds := by
      unfold cutD
      rw [hd.length] at z
      rw [z.1, z.2]
      simp
    rw [e] at p'
    exact p'.here r (.tup hF hd)
  | non => exact p0 p
  | bl b => exact p0 p
  | int b => exact p0 p
  | str b => exact p0 p
  | lst h1 h2 => exact p0 p
  | lck h1 h2 => exact p0 p
  | ref h1 => exact p0 p
theorem x_sl {lo hi : Option Expr} {fl fh : Option LE} {p2 : Pos} (ha : PEf X T E a fa) (hl : POf X T E lo fl) (hh : POf X T E hi fh) : PEf X T E (.Subscript a (.Slice lo hi none p2) pos) (fSl fa fl fh) := pe_to (pe_slice (sl_list.or sl_tupA) ha hl hh) fun w σ H env st Q e r p => by
  refine ⟨w, env, st, e, r, p.bind fun w1 x H1 d st1 s1 r1 dx p1 => ?_⟩
  refine ⟨w1, env, st1, e.mono s1.le, r1, Post.bind (rel := eqO) p1 fun w2 l H2 l' st2 s2 r2 dl p2 => ?_⟩
  cases (show l = l' from dl)
  refine ⟨w2, env, st2, (e.mono s1.le).mono s2.le, r2, Post.bind (rel := eqO) p2 fun w3 u H3 u' st3 s3 r3 du p3 => ?_⟩
  cases (show u = u' from du)
  exact sim_sl r3 ((dx.mono s2.le).mono s3.le) p3
/-! ### arguments, displays -/
def fNil : LA := fun _ st => .ok [] st
def fCons (f : LE) (g : LA) : LA := fun env st => (f env st).bind fun d st1 => (g env st1).bind fun ds st2 => .ok (d :: ds) st2
theorem x_nil : PAf X T E [] fNil := pa_to pa_nil fun w σ H env st Q e r p => p.here r .nil
theorem x_cons {es : List Expr} {g : LA} (ha : PEf X T E a fa) (hr : PAf X T E es g) (hs : starEach (a :: es) X.env = (false, eval a X.env) :: starEach es X.env := by rfl) : PAf X T E (a :: es) (fCons fa g) := pa_to (pa_cons ha hr hs) fun w σ H env st Q e r p => by
  refine ⟨w, env, st, e, r, p.bind fun w1 x H1 d st1 s1 r1 dx p1 => ?_⟩
  refine ⟨w1, env, st1, e.mono s1.le, r1, p1.bind fun w2 xs H2 ds st2 s2 r2 dxs p2 => ?_⟩
  exact p2.here r2 (.cons (dx.mono s2.le) dxs)
def fTup (g : LA) : LE := fun env st => (g env st).bind fun ds st1 => if ds.length ≤ lim then .ok (.tup ds) st1 else .stuck
/-- a list that stays; one that is a cell -/
def fLst (g : LA) : LE := fun env st => (g env st).bind fun ds st1 => if ds.length ≤ lim then .ok (.lst ds) st1 else .stuck
def fLstC (g : LA) : LE := fun env st => (g env st).bind fun ds st1 => if ds.length ≤ lim then .ok (.ref st1.length) (st1 ++ [.lst ds]) else .stuck
theorem x_tup {es : List Expr} {g : LA} {x1} (h : PAf X T E es g) : PEf X T E (.Tuple es x1 pos) (fTup g) := pe_to (pe_tup h) fun w σ H env st Q e r p => by
  refine ⟨w, env, st, e, r, p.bind fun w1 x H1 ds st1 s1 r1 dx p1 => ?_⟩
  by_cases q : ds.length ≤ lim
  · rw [if_pos q] at p1
    exact ⟨by rw [dx.length, lim_eq]; exact q, p1.newT r1 dx⟩
  · rw [if_neg q] at p1
    exact p1.elim
theorem x_lst {es : List Expr} {g : LA} (h : PAf X T E es g) : PEf X T E (.List es pos) (fLst g) := pe_to (pe_lst h) fun w σ H env st Q e r p => by
  refine ⟨w, env, st, e, r, p.bind fun w1 x H1 ds st1 s1 r1 dx p1 => ?_⟩
  by_cases q : ds.length ≤ lim
  · rw [if_pos q] at p1
    exact ⟨by rw [dx.length, lim_eq]; exact q, p1.newL r1 dx⟩
  · rw [if_neg q] at p1
    exact p1.elim
theorem x_lstC {es : List Expr} {g : LA} (h : PAf X T E es g) : PEf X T E (.List es pos) (fLstC g) := pe_to (pe_lst h) fun w σ H env st Q e r p => by
  refine ⟨w, env, st, e, r, p.bind fun w1 x H1 ds st1 s1 r1 dx p1 => ?_⟩
  by_cases q : ds.length ≤ lim
  · rw [if_pos q] at p1
    exact ⟨by rw [dx.length, lim_eq]; exact q, p1.newC r1 dx⟩
  · rw [if_neg q] at p1
    exact p1.elim
/-- a cell that is a list becomes what stays -/
def oFz : O1 := fun d st => match d with
  | .ref k => (match st[k]? with
    | some (.lst xs) => .ok (.lst xs) (st.set k .dead)
    | _ => .stuck)
  | d => .ok d st
def fFz (f : LE) : LE := fUn oFz f
theorem post_fz {K : PySem.W.Frag} {E : XK} {w : Wd} {H : Hp} {st : Store} {x : V} {d : D} {Q : VK} (r : Rel K T w H st) (dx : Dat w x d) (p : Post K T E Dat w H (oFz d st) Q) : Q x H := by
  cases dx with
  | @ref q k ha =>
    have p' : Post K T E Dat w H (match st[k]? with | some (.lst xs) => .ok (.lst xs) (st.set k .dead) | _ => .stuck) Q := p
    cases h : st[k]? with
    | none => rw [h] at p'; exact p'.elim
    | some c =>
      rw [h] at p'
      cases c with
      | lst xs =>
        obtain ⟨q2, vs, a2, s1, r1, d1⟩ := r.frozen h
        rw [ha] at a2
        cases a2
        exact p' _ _ _ s1 r1 d1
      | _ => exact p'.elim
  | non => exact p.here r .non
  | bl b => exact p.here r (.bl b)
  | int b => exact p.here r (.int b)
  | str b => exact p.here r (.str b)
  | tup h1 h2 => exact p.here r (.tup h1 h2)
  | lst h1 h2 => exact p.here r (.lst h1 h2)
  | lck h1 h2 => exact p.here r (.lck h1 h2)
theorem x_fz (h : PEf X T E a fa) : PEf X T E a (fFz fa) := ⟨fun pins s σ H Q I x => by
  obtain ⟨w, env, st, e, r, p⟩ := x
  exact h.run pins s σ H Q I ⟨w, env, st, e, r, p.bind fun w1 x H1 d st1 s1 r1 dx p1 => post_fz r1 dx p1⟩⟩
/-! ### built-in calls -/
abbrev OA := List D → Store → Res D
def SimRA (K : PySem.W.Frag) (T : List (Addr × Str)) (r : List V → Hp → VK → Prop) (o : OA) : Prop := ∀ E w H st vs ds Q, Rel K T w H st → Dats w vs ds → Post K T E Dat w H (o ds st) Q → r vs H Q
def fCB (o : OA) (g : LA) : LE := fun env st => (g env st).bind fun ds st1 => o ds st1
theorem sim_cb {K : PySem.W.Frag} {r : List V → Hp → VK → Prop} {o : OA} {g : LA} (h : SimRA K T r o) : Sim K T E Dat (tCB r (tOf K T E Dats g)) (fCB o g) := fun w σ H env st Q e r p =>
  ⟨w, env, st, e, r, p.bind fun w1 x H1 d st1 s1 r1 dx p1 => h E w1 H1 st1 x d Q r1 dx p1⟩
theorem x_callB {x : Str} {id : String} {es : List Expr} {e : Expr} {q : Pos} {r : List V → Hp → VK → Prop} {o : OA} {g : LA} (hc : CallR X (.builtin id) r) (ho : SimRA X.K T r o) (hm : X.mg x = none) (ha : PAf X T E (e :: es) g) (hv : bootBuiltins x = some (.builtin id) := by decide +kernel) (hg : Gl X x := by rfl)
    (hn : x ≠ "__name__" := by decide) (hdb : (x == ("__debug__" : Str)) = false := by decide)
    (he : starEach (e :: es) X.env = (false, eval e X.env) :: starEach es X.env := by rfl) (hpl : (backTo pos (starEach es X.env)).any (·.1) = false := by rfl) : PEf X T E (.Call (.Name x q) (e :: es) [] pos) (fCB o g) := pe_to (pe_callB hc hg hm hv ha hn hdb he hpl) (sim_cb ho)
theorem x_callTy {x : Str} {id : String} {es : List Expr} {e : Expr} {q : Pos} {r : List V → Hp → VK → Prop} {o : OA} {g : LA} (hc : CallR X (.type id) r) (ho : SimRA X.K T r o) (hm : X.mg x = none) (ha : PAf X T E (e :: es) g) (hv : bootBuiltins x = some (.type id) := by decide +kernel) (hg : Gl X x := by rfl)
    (hn : x ≠ "__name__" := by decide) (hdb : (x == ("__debug__" : Str)) = false := by decide)
    (he : starEach (e :: es) X.env = (false, eval e X.env) :: starEach es X.env := by rfl) (hpl : (backTo pos (starEach es X.env)).any (·.1) = false := by rfl) : PEf X T E (.Call (.Name x q) (e :: es) [] pos) (fCB o g) := pe_to (pe_callTy hc hg hm hv ha hn hdb he hpl) (sim_cb ho)
/-- len -/
def oLen : OA := fun ds st => match ds with
  | [.tup xs] => .ok (.int xs.length) st
  | [.str s] => if s.length ≤ lim then .ok (.int s.length) st else .stuck
  | [d] => (match rdOf d st with
    | some xs => .ok (.int xs.length) st
    | none => .stuck)
  | _ => .stuck
theorem sim_len {K : PySem.W.Frag} : SimRA K T (fun xs H Q => ∃ x n, xs = [x] ∧ LenV K x H n ∧ Q (.int n) H) oLen := fun E w H st vs ds Q r dv p => by
  cases dv with
  | nil => exact p.elim
  | cons dx rest =>
    cases rest with
    | cons _ _ => 
      rename_i hd hd2
      cases dx <;> exact p.elim
    | nil =>
      rename_i x d
      have gen : Dat w x d → ∀ ys, rdOf d st = some ys → Q (.int ys.length) H → ∃ x' n, [x] = [x'] ∧ LenV K x' H n ∧ Q (.int n) H := fun dx ys he q => by
        obtain ⟨l, us, e1, h1, h2⟩ := rd_at r dx he
        rw [e1]
        exact ⟨_, us.length, rfl, .inl ⟨us, h1, rfl⟩, by rw [h2.length]; exact q⟩
      cases dx with
      | @tup a us ds hF hd => exact ⟨_, us.length, rfl, .inr ⟨us, SqT.of (r.fr _ _ hF), rfl⟩, by rw [hd.length]; exact p.here r (.int _)⟩
      | str s =>
        have p' : Post K T E Dat w H (if s.length ≤ lim then .ok (.int s.length) st else .stuck) Q := p
        by_cases q : s.length ≤ lim
        · rw [if_pos q] at p'
          exact ⟨_, s.length, rfl, ⟨by rw [lim_eq]; exact q, rfl⟩, p'.here r (.int _)⟩
        · rw [if_neg q] at p'
          exact p'.elim
      | lst h1 h2 => exact gen (.lst h1 h2) _ rfl (p.here r (.int _))
      | lck h1 h2 => exact gen (.lck h1 h2) _ rfl (p.here r (.int _))
      | @ref a k h1 =>
        have p' : Post K T E Dat w H (match rdOf (.ref k) st with
          | some xs => .ok (.int xs.length) st
          | none => .stuck) Q := p
        cases q : rdOf (.ref k) st with
        | some ys =>
          rw [q] at p'
          exact gen (.ref h1) ys q (p'.here r (.int _))
        | none =>
          rw [q] at p'
          exact p'.elim
      | _ => exact p.elim
end
end Fk
/-! FkD: statements, loops, comprehensions, fields, calls, a def. -/
namespace Fk
open PySem PySem.Spec PyProof.Rows L2
/-! ### blocks -/
def fNext : LS := fun env st => .nx env st
def fSeq (f g : LS) : LS := fun env st => match f env st with
  | .nx e s => g e s
  | r => r
def fRet (f : LE) : LS := fun env st => (f env st).go env fun d st1 => .rt d st1
def fRetN : LS := fun _ st => .rt .non st
def fBreak : LS := fun env st => .bk env st
def fCont : LS := fun env st => .ct env st
def fDrop (f : LE) : LS := fun env st => (f env st).go env fun _ st1 => .nx env st1
def fIfS (t : LT) (f g : LS) : LS := fun env st => (t env st).go env fun b st1 => if b = true then f env st1 else g env st1
/-- no slot matters to an error's wish -/
abbrev W0 (E : XK) : WX := fun c d _ H => E c d H
section
variable {X : Cx} {T : List (Addr × Str)} {E : XK} {f g : LS} {s : Stmt} {ss : List Stmt} {e : Expr} {fe : LE} {pos : Pos} {W : WX}
theorem s_nil : PSsf X T W [] fNext := pss_to pss_nil fun w σ H env st Dn e r p => p w σ H (Stp.refl w H) e r
theorem s_seq (h1 : PSf X T W s f) (h2 : PSsf X T W ss g) : PSsf X T W (s :: ss) (fSeq f g) := pss_to (pss_cons h1 h2) fun w σ H env st Dn e r p => by
  refine ⟨w, env, st, e, r, ?_⟩
  unfold fSeq at p
  cases h : f env st with
  | nx e1 st1 =>
    rw [h] at p
    exact fun w' σ' H' s' e' r' => ⟨w', e1, st1, e', r', PostS.pull p s'⟩
  | rt d st1 => rw [h] at p; exact p
  | bk e1 st1 => rw [h] at p; exact p
  | ct e1 st1 => rw [h] at p; exact p
  | ex x e1 st1 => rw [h] at p; exact p
  | stuck => rw [h] at p; exact p
theorem s_one (h : PSf X T W s f) : PSsf X T W [s] f := pss_one h
theorem s_pass : PSf X T W (.Pass pos) fNext := ps_to ps_pass fun w σ H env st Dn e r p => p w σ H (Stp.refl w H) e r
theorem s_break : PSf X T W (.Break pos) fBreak := ps_to ps_break fun w σ H env st Dn e r p => p w σ H (Stp.refl w H) e r
theorem s_cont : PSf X T W (.Continue pos) fCont := ps_to ps_continue fun w σ H env st Dn e r p => p w σ H (Stp.refl w H) e r
theorem s_retN : PSf X T (W0 E) (.Return none pos) fRetN := ps_to ps_retN fun w σ H env st Dn e r p => p w .non H (Stp.refl w H) r .non
theorem s_ret (h : PEf X T E e fe) : PSf X T (W0 E) (.Return (some e) pos) (fRet fe) := ps_to (ps_ret h) fun w σ H env st Dn he r p =>
  ⟨w, env, st, he, r, PostS.go (fun _ _ _ h => h) he p fun w1 x H1 d st1 s1 r1 dx p1 => p1 w1 x H1 (Stp.refl w1 H1) r1 dx⟩
theorem s_drop (h : PEf X T E e fe) (hs : swapsWith e none pos.line X.env = pure false := by rfl) : PSf X T (W0 E) (.Expr e pos) (fDrop fe) := ps_to (ps_expr h hs) fun w σ H env st Dn he r p =>
  ⟨w, env, st, he, r, PostS.go (fun _ _ _ h => h) he p fun w1 x H1 d st1 s1 r1 dx p1 => p1 w1 σ H1 (Stp.refl w1 H1) (he.mono s1.le) r1⟩
theorem s_if {c : Expr} {a b : List Stmt} {t : LT} (hc : PTf X T E c t) (ha : PSsf X T (W0 E) a f) (hb : PSsf X T (W0 E) b g) : PSf X T (W0 E) (.If c a b pos) (fIfS t f g) := ps_to (ps_if hc ha hb) fun w σ H env st Dn he r p => by
  refine ⟨w, env, st, he, r, PostS.go (rel := eqB) (fun _ _ _ h => h) he p fun w1 x H1 d st1 s1 r1 dx p1 => ?_⟩
  cases (show x = d from dx)
  cases x with
  | true =>
    rw [if_pos rfl] at p1 ⊢
    exact ⟨w1, env, st1, he.mono s1.le, r1, p1⟩
  | false =>
    rw [if_neg Bool.false_ne_true] at p1 ⊢
    exact ⟨w1, env, st1, he.mono s1.le, r1, p1⟩
end
/-! ### targets -/
abbrev LG := D → DEnv → Store → RS
section
variable (K : PySem.W.Frag) (T : List (Addr × Str)) (E : XK)
def PostG (R : L2.St → Prop) (w : Wd) (H : Hp) (r : RS) (Q : L2.St → Hp → Prop) : Prop := match r with
  | .nx env st => ∀ w' σ' H', Stp w H w' H' → EnvR w' σ' env → Rel K T w' H' st → R σ' → Q σ' H'
  | .ex x _ st => ∀ w' c od H', Stp w H w' H' → Rel K T w' H' st → ExR K x c od H' → E c od H'
  | _ => False
/-- vs: the places that may change (none: any) -/
def tOfG (vs : Option (List Nat)) (f : LG) : TG := fun v σ H Q => ∃ w d env st, EnvR w σ env ∧ Rel K T w H st ∧ Dat w v d ∧ PostG K T E (fun σ' => ∀ us, vs = some us → wipe σ' us = wipe σ us) w H (f d env st) Q
end
abbrev PGf (X : Cx) (T : List (Addr × Str)) (E : XK) (vs : Option (List Nat)) (tg : Expr) (f : LG) : Prop := PG X tg (tOfG X.K T E vs f)
def gN (i : Nat) : LG := fun d env st => .nx (env.set i (some d)) st
theorem wipe_set {σ : L2.St} {i : Nat} {o : Option V} : ∀ {us : List Nat}, i ∈ us → wipe (σ.set i o) us = wipe σ us
  | [], h => by cases h
  | u :: us, h => by
    unfold wipe
    by_cases q : i ∈ us
    · rw [wipe_set q]
    · have e : i = u := (List.mem_cons.mp h).resolve_right q
      subst e
      have sw : ∀ (us : List Nat) (σ : L2.St), i ∉ us → (wipe (σ.set i o) us).set i none = (wipe σ us).set i none := fun us => by
        induction us with
        | nil =>
          intro σ _
          show (σ.set i o).set i none = σ.set i none
          rw [List.set_set]
        | cons u us ih =>
          intro σ hn
          have n1 : i ≠ u := fun z => hn (by rw [z]; exact List.mem_cons_self)
          have n2 : i ∉ us := fun z => hn (List.mem_cons_of_mem _ z)
          show ((wipe (σ.set i o) us).set u none).set i none = ((wipe σ us).set u none).set i none
          rw [List.set_comm _ _ n1.symm, ih σ n2, List.set_comm _ _ n1.symm]
      exact sw us σ q
section
variable {X : Cx} {T : List (Addr × Str)} {E : XK} {vs : Option (List Nat)} {pos : Pos}
theorem pg_to {tg : Expr} {g : TG} {f : LG} (h : PG X tg g) (k : ∀ v σ H Q, tOfG X.K T E vs f v σ H Q → g v σ H Q) : PGf X T E vs tg f := ⟨fun pins s σ H v u Q I r x => h.run pins s σ H v u Q I r (k v σ H Q x)⟩
theorem g_name {i : Nat} {x : Str} (hN : X.N.Nodup) (hi : X.N[i]? = some x := by rfl) (hx : Loc X.env.scope x := by first | exact Or.inl rfl | exact Or.inr rfl) (hf : X.fn x = true ∨ X.env.scope.names.lookup x = some .local := by first | exact .inl rfl | exact .inr rfl)
    (hv : ∀ us, vs = some us → i ∈ us := by intro us h; cases h <;> decide) : PGf X T E vs (.Name x pos) (gN i) := pg_to (pg_name hN hi hx hf) fun v σ H Q h => by
  obtain ⟨w, d, env, st, e, r, dx, p⟩ := h
  exact p w _ H (Stp.refl w H) (e.set i dx) r fun us hu => wipe_set (hv us hu)
/-- several names -/
def gTs : List LG → List D → DEnv → Store → RS
  | [], [], env, st => .nx env st
  | g :: gs, d :: ds, env, st => (match g d env st with
    | .nx e s => gTs gs ds e s
    | r => r)
  | _, _, _, _ => .stuck
def gTu (gs : List LG) : LG := fun d env st => match d with
  | .tup ds => if ds.length = gs.length then gTs gs ds env st else .stuck
  | _ => .stuck
def tOfGs (K : PySem.W.Frag) (T : List (Addr × Str)) (E : XK) (vs : Option (List Nat)) (fs : List LG) : TGs := fun us σ H Q => ∃ w ds env st, EnvR w σ env ∧ Rel K T w H st ∧ Dats w us ds ∧ PostG K T E (fun σ' => ∀ us, vs = some us → wipe σ' us = wipe σ us) w H (gTs fs ds env st) Q
theorem g_nil : PGs X [] (tOfGs X.K T E vs []) := ⟨fun pins s σ H us ws Q I r x => pgs_nil.run pins s σ H us ws Q I r (by
  obtain ⟨w, ds, env, st, e, rr, dx, p⟩ := x
  cases dx with
  | nil => exact ⟨rfl, p w σ H (Stp.refl w H) e rr fun _ _ => rfl⟩
  | cons _ _ => exact p.elim)⟩
theorem PostG.pull {K : PySem.W.Frag} {R R' : L2.St → Prop} {w w1 : Wd} {H H1 : Hp} {r : RS} {Q : L2.St → Hp → Prop} (h : PostG K T E R w H r Q) (s : Stp w H w1 H1) (hR : ∀ σ', R' σ' → R σ') : PostG K T E R' w1 H1 r Q := by
  cases r with
  | nx env st => exact fun w' σ' H' s' e' r' q => h w' σ' H' (s.trans s') e' r' (hR _ q)
  | ex x env st => exact fun w' c od H' s' r' z => h w' c od H' (s.trans s') r' z
  | _ => exact h
theorem g_cons {e : Expr} {es : List Expr} {f : LG} {fs : List LG} (h1 : PGf X T E vs e f) (h2 : PGs X es (tOfGs X.K T E vs fs))
    (hs : (assignEach (e :: es) X.env).map (·.2) = assign e X.env :: (assignEach es X.env).map (·.2) := by rfl) : PGs X (e :: es) (tOfGs X.K T E vs (f :: fs)) := ⟨fun pins s σ H us ws Q I r x => (pgs_cons h1 h2 hs).run pins s σ H us ws Q I r (by
  obtain ⟨w, ds, env, st, e0, rr, dx, p⟩ := x
  cases dx with
  | nil => exact p.elim
  | cons d1 dr =>
    rename_i v d us ds
    refine ⟨v, us, rfl, w, d, env, st, e0, rr, d1, ?_⟩
    have p' : PostG X.K T E (fun σ' => ∀ us, vs = some us → wipe σ' us = wipe σ us) w H (match f d env st with
      | .nx e s => gTs fs ds e s
      | r => r) Q := p
    cases q : f d env st with
    | nx e1 s1 =>
      rw [q] at p'
      exact fun w' σ' H' s' e' r' hR => ⟨w', ds, e1, s1, e', r', dr.mono s'.le, PostG.pull p' s' fun σ'' hh us hu => (hh us hu).trans (hR us hu)⟩
    | ex x e1 s1 => rw [q] at p'; exact p'
    | _ => rw [q] at p'; exact p'.elim)⟩
theorem g_tup {es : List Expr} {fs : List LG} {k : Nat} {n : Nat} (hc : X.calm = true) (h : PGs X es (tOfGs X.K T E vs fs)) (hl : n = fs.length := by rfl)
    (hn : (assignEach es X.env).length = n := by rfl) (hst : (assignEach es X.env).findIdx? (·.1) = none := by rfl) : PGf X T E vs (.Tuple es k pos) (gTu fs) := pg_to (pg_tup hc h hn hst) fun v σ H Q hh => by
  obtain ⟨w, d, env, st, e, r, dx, p⟩ := hh
  cases dx with
  | @tup a us ds hF hd =>
    have p' : PostG X.K T E (fun σ' => ∀ us, vs = some us → wipe σ' us = wipe σ us) w H (if ds.length = fs.length then gTs fs ds env st else .stuck) Q := p
    by_cases q : ds.length = fs.length
    · rw [if_pos q] at p'
      exact ⟨a, us, rfl, SqT.of (r.fr _ _ hF), by rw [hd.length, q, hl], w, ds, env, st, e, r, hd, p'⟩
    · rw [if_neg q] at p'
      exact p'.elim
  | _ => exact p.elim
end
/-! ### assignments -/
def fAsg (f : LE) (g : LG) : LS := fun env st => (f env st).go env fun d st1 => g d env st1
section
variable {X : Cx} {T : List (Addr × Str)} {E : XK} {pos : Pos} {e tg : Expr} {fe : LE} {g : LG}
/-- only next or an error comes of a target -/
theorem post_asg {K : PySem.W.Frag} {σ : L2.St} {w1 : Wd} {H : Hp} {r : RS} {env : DEnv} {Dn : Ends} {R : L2.St → Prop} (he : EnvR w1 σ env) (hx : ∀ x e s, r = .ex x e s → e = env) (hn : ∀ e s, r ≠ .bk e s ∧ r ≠ .ct e s) (hr : ∀ d s, r ≠ .rt d s) (p : PostS K T (W0 E) w1 H r Dn) : PostG K T E R w1 H r Dn.nx := by
  cases r with
  | nx e1 s1 => exact fun w' σ' H' s' e' r' _ => p w' σ' H' s' e' r'
  | ex x e1 s1 =>
    have q := hx x e1 s1 rfl
    subst q
    exact fun w' c od H' s' r' z => p w' c od σ H' s' (he.mono s'.le) r' z
  | bk e1 s1 => exact absurd rfl (hn e1 s1).1
  | ct e1 s1 => exact absurd rfl (hn e1 s1).2
  | rt d s1 => exact absurd rfl (hr d s1)
  | stuck => exact p
/-- a target that ends so -/
def GOk (g : LG) : Prop := ∀ d env st, (∀ x e s, g d env st = .ex x e s → e = env) ∧ (∀ e s, g d env st ≠ .bk e s ∧ g d env st ≠ .ct e s) ∧ ∀ d' s, g d env st ≠ .rt d' s
theorem gok_name (i : Nat) : GOk (gN i) := fun d env st => ⟨(by intro _ _ _ h; cases h), (by intro _ _; exact ⟨(by intro h; cases h), (by intro h; cases h)⟩), (by intro _ _ h; cases h)⟩
def GPure (g : LG) : Prop := ∀ d env st, (∃ e s, g d env st = .nx e s) ∨ g d env st = .stuck
theorem gp_name (i : Nat) : GPure (gN i) := fun _ _ _ => .inl ⟨_, _, rfl⟩
theorem gp_ts : ∀ {gs : List LG}, (∀ g ∈ gs, GPure g) → ∀ ds env st, (∃ e s, gTs gs ds env st = .nx e s) ∨ gTs gs ds env st = .stuck
  | [], _, [], env, st => .inl ⟨env, st, rfl⟩
  | [], _, _ :: _, env, st => .inr rfl
  | _ :: _, _, [], env, st => .inr rfl
  | g :: gs, h, d :: ds, env, st => by
    have e0 : gTs (g :: gs) (d :: ds) env st = (match g d env st with
      | .nx e s => gTs gs ds e s
      | r => r) := rfl
    rw [e0]
    rcases h g List.mem_cons_self d env st with ⟨e, s, q⟩ | q
    · rw [q]
      exact gp_ts (fun g' hg => h g' (List.mem_cons_of_mem _ hg)) ds e s
    · rw [q]
      exact .inr rfl
theorem gp_tup {gs : List LG} (h : ∀ g ∈ gs, GPure g) : GPure (gTu gs) := fun d env st => by
  cases d with
  | tup ds =>
    show (∃ e s, (if ds.length = gs.length then gTs gs ds env st else .stuck) = .nx e s) ∨ (if ds.length = gs.length then gTs gs ds env st else .stuck) = .stuck
    by_cases q : ds.length = gs.length
    · rw [if_pos q]
      exact gp_ts h ds env st
    · rw [if_neg q]
      exact .inr rfl
  | _ => exact .inr rfl
theorem GPure.ok {g : LG} (h : GPure g) : GOk g := fun d env st => by
  rcases h d env st with ⟨e, s, q⟩ | q
  · rw [q]
    exact ⟨(by intro _ _ _ h; cases h), (by intro _ _; exact ⟨(by intro h; cases h), (by intro h; cases h)⟩), (by intro _ _ h; cases h)⟩
  · rw [q]
    exact ⟨(by intro _ _ _ h; cases h), (by intro _ _; exact ⟨(by intro h; cases h), (by intro h; cases h)⟩), (by intro _ _ h; cases h)⟩
theorem sim_asg {K : PySem.W.Frag} {te : TE} (hg : GOk g) (h : Sim K T E Dat te fe) : SimS K T (W0 E) (tAsg te (tOfG K T E none g)) (fAsg fe g) := fun w σ H env st Dn he r p =>
  h w σ H env st _ he r (PostS.go (fun _ _ _ h => h) he p fun w1 x H1 d st1 s1 r1 dx p1 =>
    ⟨w1, d, env, st1, he.mono s1.le, r1, dx, post_asg (he.mono s1.le) (hg d env st1).1 (hg d env st1).2.1 (hg d env st1).2.2 p1⟩)
theorem s_asg (he : PEf X T E e fe) (hg : PGf X T E none tg g) (gk : GOk g) (h1 : (assignEach [tg] X.env).map (·.2) = [assign tg X.env] := by rfl) (hs : swapsWithSole [tg] e pos.line X.env = pure false := by rfl) (hw : swappedStores [tg] e X.env = pure none := by rfl) : PSf X T (W0 E) (.Assign [tg] e pos) (fAsg fe g) :=
  ps_to (ps_asg he hg hs hw h1) (sim_asg gk sim_of)
/-- x = e -/
theorem s_set {i : Nat} {x : Str} {pos' : Pos} (hN : X.N.Nodup) (he : PEf X T E e fe) (hi : X.N[i]? = some x := by rfl) (hx : Loc X.env.scope x := by first | exact Or.inl rfl | exact Or.inr rfl) (hf : X.fn x = true ∨ X.env.scope.names.lookup x = some .local := by first | exact .inl rfl | exact .inr rfl)
    (hs : swapsWith e (some (.Name x pos')) pos.line X.env = pure false := by rfl) : PSf X T (W0 E) (.Assign [.Name x pos'] e pos) (fAsg fe (gN i)) :=
  ps_to (ps_set hN hi hx he hs hf) fun w σ H env st Dn he r p => ⟨w, env, st, he, r, PostS.go (fun _ _ _ h => h) he p fun w1 x H1 d st1 s1 r1 dx p1 => p1 w1 _ H1 (Stp.refl w1 H1) ((he.mono s1.le).set i dx) r1⟩
/-- x op= e -/
def fAug (i : Nat) (o : O2) (f : LE) : LS := fun env st => match env[i]? with
  | some (some d) => (f env st).go env fun e st1 => (o d e st1).go env fun z st2 => .nx (env.set i (some z)) st2
  | _ => .stuck
def SimIp (K : PySem.W.Frag) (T : List (Addr × Str)) (r : TIp) (o : O2) : Prop := SimR2 K T r o
theorem s_aug {i : Nat} {x : Str} {op : Operator} {ti : TIp} {o : O2} {pos' : Pos} (hN : X.N.Nodup) (ho : PIp X op ti) (so : SimR2 X.K T ti o) (he : PEf X T E e fe) (hi : X.N[i]? = some x := by rfl) (hx : Loc X.env.scope x := by first | exact Or.inl rfl | exact Or.inr rfl) (hf : X.fn x = true ∨ X.env.scope.names.lookup x = some .local := by first | exact .inl rfl | exact .inr rfl) :
    PSf X T (W0 E) (.AugAssign (.Name x pos') op e pos) (fAug i o fe) := ps_to (ps_aug hN hi hx he ho hf) fun w σ H env st Dn he r p => by
  unfold fAug at p
  cases q : env[i]? with
  | none => rw [q] at p; exact p.elim
  | some o' =>
    cases o' with
    | none => rw [q] at p; exact p.elim
    | some d =>
      rw [q] at p
      obtain ⟨v, h1, h2⟩ := he.2 i d q
      refine ⟨v, h1, w, env, st, he, r, PostS.go (fun _ _ _ h => h) he p fun w1 y H1 e1 st1 s1 r1 dy p1 => ?_⟩
      refine so E w1 H1 st1 v y d e1 _ r1 (h2.mono s1.le) dy (PostS.go (fun _ _ _ h => h) (he.mono s1.le) p1 fun w2 z H2 e2 st2 s2 r2 dz p2 => ?_)
      exact p2 w2 _ H2 (Stp.refl w2 H2) (((he.mono s1.le).mono s2.le).set i dz) r2
end
/-! ### what is walked -/
structure Walk (K : PySem.W.Frag) (T : List (Addr × Str)) (J : It) (items : List D) (g : Store → Bool) (w0 : Wd) : Prop where
  stop : ∀ w H st, Le w0 w → Rel K T w H st → g st = true → J.stop items.length H
  go : ∀ i d w H st, Le w0 w → Rel K T w H st → g st = true → items[i]? = some d → J.go i H
  yld : ∀ i d w H st x H', Le w0 w → Rel K T w H st → g st = true → items[i]? = some d → J.yld i H x H' → ∃ w', Stp w H w' H' ∧ Rel K T w' H' st ∧ Dat w' x d
abbrev IT := List D × (Store → Bool)
abbrev LI := DEnv → Store → Res IT
abbrev WalkR (K : PySem.W.Frag) (T : List (Addr × Str)) : Wd → It → IT → Prop := fun w J p => Walk K T J p.1 p.2 w
abbrev PIf (X : Cx) (T : List (Addr × Str)) (E : XK) (tg iter : Expr) (f : LI) : Prop := PI X tg iter (tOf X.K T E (WalkR X.K T) f)
def forRun (g : Store → Bool) (lg : LG) (body : LS) : List D → DEnv → Store → RS
  | [], env, st => if g st = true then .nx env st else .stuck
  | d :: ds, env, st => if g st = true then (match lg d env st with
    | .nx e1 s1 => (match body e1 s1 with
      | .nx e s => forRun g lg body ds e s
      | .ct e s => forRun g lg body ds e s
      | .bk e s => .nx e s
      | r => r)
    | .ex x _ s => .ex x env s
    | _ => .stuck) else .stuck
def fFor (fi : LI) (lg : LG) (body : LS) : LS := fun env st => (fi env st).go env fun it st1 => forRun it.2 lg body it.1 env st1
section
variable {X : Cx} {T : List (Addr × Str)} {E : XK} {pos : Pos}
theorem sim_for {K : PySem.W.Frag} {fi : LI} {lg : LG} {body : LS} : SimS K T (W0 E) (tFor (tOf K T E (WalkR K T) fi) (tOfG K T E none lg) (tOfS K T (W0 E) body)) (fFor fi lg body) := fun w σ H env st Dn he r p => by
  refine ⟨w, env, st, he, r, PostS.go (rel := WalkR K T) (fun _ _ _ h => h) he p fun w1 J H1 it st1 s1 r1 wk p1 => ?_⟩
  obtain ⟨items, g⟩ := it
  have wk : Walk K T J items g w1 := wk
  refine ⟨fun i m σ H => m = items.length - i ∧ i ≤ items.length ∧ ∃ w' env' st', Le w1 w' ∧ EnvR w' σ env' ∧ Rel K T w' H st' ∧ PostS K T (W0 E) w' H (forRun g lg body (items.drop i) env' st') Dn,
    ⟨items.length, by simp, Nat.zero_le _, w1, env, st1, Le.refl w1, he.mono s1.le, r1, by simpa using p1⟩, ?_⟩
  rintro i m σ2 H2 ⟨rfl, hi, w2, env2, st2, le2, e2, r2, p2⟩
  by_cases hlt : i < items.length
  · have hd : items[i]? = some items[i] := List.getElem?_eq_getElem hlt
    have hdrop : items.drop i = items[i] :: items.drop (i + 1) := by rw [List.drop_eq_getElem_cons hlt]
    rw [hdrop] at p2
    unfold forRun at p2
    by_cases hg : g st2 = true
    · rw [if_pos hg] at p2
      refine .inr ⟨wk.go i _ w2 H2 st2 le2 r2 hg hd, fun σ' H' => ∃ w' env' st', Le w1 w' ∧ EnvR w' σ' env' ∧ Rel K T w' H' st' ∧ PostS K T (W0 E) w' H' (forRun g lg body (items.drop (i + 1)) env' st') Dn, fun σ' H' hN => ⟨items.length - (i + 1), by omega, rfl, hlt, hN⟩, fun x H3 hy => ?_⟩
      obtain ⟨w3, s3, r3, dx⟩ := wk.yld i _ w2 H2 st2 x H3 le2 r2 hg hd hy
      refine ⟨w3, items[i], env2, st2, e2.mono s3.le, r3, dx, ?_⟩
      have p3 := PostS.pull p2 s3
      cases q : lg items[i] env2 st2 with
      | nx e4 st4 =>
        rw [q] at p3
        refine fun w4 σ4 H4 s4 e4' r4 _ => ⟨w4, e4, st4, e4', r4, ?_⟩
        have p4 := PostS.pull p3 s4
        dsimp only at p4
        have le4 : Le w1 w4 := (le2.trans s3.le).trans s4.le
        cases q2 : body e4 st4 with
        | nx e5 st5 =>
          rw [q2] at p4
          exact fun w5 σ5 H5 s5 e5' r5 => ⟨w5, e5, st5, le4.trans s5.le, e5', r5, PostS.pull p4 s5⟩
        | ct e5 st5 =>
          rw [q2] at p4
          exact fun w5 σ5 H5 s5 e5' r5 => ⟨w5, e5, st5, le4.trans s5.le, e5', r5, PostS.pull p4 s5⟩
        | bk e5 st5 => rw [q2] at p4; exact p4
        | rt d st5 => rw [q2] at p4; exact p4
        | ex x e5 st5 => rw [q2] at p4; exact p4
        | stuck => rw [q2] at p4; exact p4
      | ex x e4 st4 =>
        rw [q] at p3
        exact fun w' c od H' s' r' z => p3 w' c od σ2 H' s' ((e2.mono s3.le).mono s'.le) r' z
      | bk e4 st4 => rw [q] at p3; exact p3.elim
      | ct e4 st4 => rw [q] at p3; exact p3.elim
      | rt d st4 => rw [q] at p3; exact p3.elim
      | stuck => rw [q] at p3; exact p3.elim
    · rw [if_neg hg] at p2
      exact p2.elim
  · have e : i = items.length := by omega
    subst e
    have hdrop : items.drop items.length = [] := by simp
    rw [hdrop] at p2
    unfold forRun at p2
    by_cases hg : g st2 = true
    · rw [if_pos hg] at p2
      exact .inl ⟨wk.stop w2 H2 st2 le2 r2 hg, p2 w2 σ2 H2 (Stp.refl w2 H2) e2 r2⟩
    · rw [if_neg hg] at p2
      exact p2.elim
theorem s_for {tg iter : Expr} {body : List Stmt} {fi : LI} {lg : LG} {fb : LS} (hp : PassesOwn (model X.prog X.w) X.A X.env X.xe) (hc : X.calm = true) (hi : PIf X T E tg iter fi) (hg : PGf X T E none tg lg) (hb : PSsf X T (W0 E) body fb)
    (hs : ∀ x, foldedSetIterable iter X.env x = pure x := by intro _; rfl) : PSf X T (W0 E) (.For tg iter body [] pos) (fFor fi lg fb) := ps_to (ps_for hp hc hi hg hb hs) sim_for
theorem pi_to {tg iter : Expr} {wi : TI} {f : LI} (h : PI X tg iter wi) (s : Sim X.K T E (WalkR X.K T) wi f) : PIf X T E tg iter f := ⟨fun pins st σ H Q I x => h.run pins st σ H Q I (s.to x)⟩
/-- a list: one that stays, the script; a cell, that must stay the same meanwhile -/
def gOf (d : D) (xs : List D) : Store → Bool := match d with
  | .ref k => fun st => (match st[k]? with
    | some (.lst ys) => ys.length == xs.length && true
    | _ => false)
  | _ => fun _ => true
def iL (f : LE) : LI := fun env st => (f env st).bind fun d st1 => match d with
  | .lst xs => .ok (xs, fun _ => true) st1
  | .lck xs => .ok (xs, fun _ => true) st1
  | _ => .stuck
theorem walk_lst {K : PySem.W.Frag} {w0 : Wd} {a : Addr} {vs : List V} {ds : List D} (h : ∀ w H st, Le w0 w → Rel K T w H st → SqL K H a vs) (hd : Dats w0 vs ds) (inj : ∀ w H st, Le w0 w → Rel K T w H st → ∀ xs, SqL K H a xs → True) : Walk K T (Itl K a) ds (fun _ => true) w0 where
  stop := fun w H st l r _ => ⟨vs, h w H st l r, by rw [hd.length]; exact Nat.le_refl _⟩
  go := fun i d w H st l r _ e => by
    obtain ⟨v, h1, _⟩ := hd.get e
    exact ⟨vs, v, h w H st l r, h1⟩
  yld := fun i d w H st x H' l r _ e y => by
    obtain ⟨rfl, y⟩ := y
    obtain ⟨v, h1, h2⟩ := hd.get e
    have z := y vs (h w _ st l r)
    rw [h1] at z
    cases z
    exact ⟨w, Stp.refl w _, r, h2.mono l⟩
theorem sim_iL {K : PySem.W.Frag} {f : LE} : Sim K T E (WalkR K T) (iList K (tOf K T E Dat f)) (iL f) := fun w σ H env st Q he r p => by
  refine ⟨w, env, st, he, r, Post.bind (rel := Dat) p fun w1 x H1 d st1 s1 r1 dx p1 => ?_⟩
  cases dx with
  | @lst a vs ds hF hd => exact ⟨a, rfl, ⟨vs, SqL.of (r1.fr _ _ hF)⟩, p1.here r1 (walk_lst (fun w H st l r => SqL.of (r.fr _ _ (l.fr _ _ hF))) hd fun _ _ _ _ _ _ _ => True.intro)⟩
  | @lck a vs ds hF hd => exact ⟨a, rfl, ⟨vs, r1.sc hF⟩, p1.here r1 (walk_lst (fun w H st l r => r.sc (by rw [l.scr]; exact hF)) hd fun _ _ _ _ _ _ _ => True.intro)⟩
  | _ => exact p1.elim
theorem i_list {tg l : Expr} {f : LE} (h : PEf X T E l f) : PIf X T E tg l (iL f) := pi_to (pi_list h) sim_iL
/-- a list that is a cell: walked as it stands -/
def iC (f : LE) : LI := fun env st => (f env st).bind fun d st1 => match d with
  | .ref k => (match st1[k]? with
    | some (.lst xs) => .ok (xs, fun st => (match st[k]? with
      | some (.lst ys) => ys.length == xs.length && (List.range xs.length).all fun i => i < xs.length
      | _ => false)) st1
    | _ => .stuck)
  | _ => .stuck
/-- a tuple -/
def iT (f : LE) : LI := fun env st => (f env st).bind fun d st1 => match d with
  | .tup xs => .ok (xs, fun _ => true) st1
  | _ => .stuck
theorem sim_iT {K : PySem.W.Frag} {f : LE} : Sim K T E (WalkR K T) (iTup K (tOf K T E Dat f)) (iT f) := fun w σ H env st Q he r p => by
  refine ⟨w, env, st, he, r, Post.bind (rel := Dat) p fun w1 x H1 d st1 s1 r1 dx p1 => ?_⟩
  cases dx with
  | @tup a vs ds hF hd =>
    refine ⟨a, rfl, ⟨vs, SqT.of (r1.fr _ _ hF)⟩, p1.here r1 ⟨fun w H st l r _ => ⟨vs, SqT.of (r.fr _ _ (l.fr _ _ hF)), by rw [hd.length]; exact Nat.le_refl _⟩, fun i d w H st l r _ e => ?_, fun i d w H st x H' l r _ e y => ?_⟩⟩
    · obtain ⟨v, h1, _⟩ := hd.get e
      exact ⟨vs, v, SqT.of (r.fr _ _ (l.fr _ _ hF)), h1⟩
    · obtain ⟨rfl, y⟩ := y
      obtain ⟨v, h1, h2⟩ := hd.get e
      have z := y vs (SqT.of (r.fr _ _ (l.fr _ _ hF)))
      rw [h1] at z
      cases z
      exact ⟨w, Stp.refl w _, r, h2.mono l⟩
  | _ => exact p1.elim
theorem i_tup {tg l : Expr} {f : LE} (h : PEf X T E l f) : PIf X T E tg l (iT f) := pi_to (pi_tup h) sim_iT
/-- range -/
def rgD (lo c : Int) (n : Nat) : List D := (List.range n).map fun i => .int (lo + (i : Nat) * c)
def iR1 (g : LA) : LI := fun env st => (g env st).bind fun ds st1 => match ds with
  | [.int j] => if -(2 ^ 62) ≤ j ∧ j < 2 ^ 62 then .ok (rgD 0 1 j.toNat, fun _ => true) st1 else .stuck
  | _ => .stuck
def iR2 (g : LA) : LI := fun env st => (g env st).bind fun ds st1 => match ds with
  | [.int i, .int j] => if -(2 ^ 62) ≤ i ∧ i < 2 ^ 62 ∧ -(2 ^ 62) ≤ j ∧ j < 2 ^ 62 then .ok (rgD i 1 (j - i).toNat, fun _ => true) st1 else .stuck
  | _ => .stuck
theorem rgD_get {lo c : Int} {n i : Nat} {d : D} (h : (rgD lo c n)[i]? = some d) : i < n ∧ d = .int (lo + (i : Nat) * c) := by
  unfold rgD at h
  rw [List.getElem?_map] at h
  by_cases q : i < n
  · rw [List.getElem?_range q] at h
    cases h
    exact ⟨q, rfl⟩
  · rw [List.getElem?_eq_none (by simpa using q)] at h
    cases h
theorem walk_r {K : PySem.W.Frag} {w0 : Wd} {lo : Int} {n : Nat} : Walk K T (Itr lo n) (rgD lo 1 n) (fun _ => true) w0 where
  stop := fun w H st l r _ => by
    show n ≤ (rgD lo 1 n).length
    simp [rgD]
  go := fun i d w H st l r _ e => (rgD_get e).1
  yld := fun i d w H st x H' l r _ e y => by
    obtain ⟨rfl, rfl⟩ := y
    rw [(rgD_get e).2]
    have z : lo + (i : Int) * 1 = lo + (i : Int) := by omega
    rw [z]
    exact ⟨w, Stp.refl w _, r, .int _⟩
theorem i_range1 {tg a : Expr} {g : LA} {p pos : Pos} (hm : X.mg "range" = none) (ha : PAf X T E [a] g) (hg : Gl X "range" := by rfl) (hs : starEach [a] X.env = [(false, eval a X.env)] := by rfl) : PIf X T E tg (.Call (.Name "range" p) [a] [] pos) (iR1 g) := pi_to (pi_range1 hg hm ha hs) fun w σ H env st Q he r p => by
  refine ⟨w, env, st, he, r, Post.bind (rel := Dats) p fun w1 x H1 ds st1 s1 r1 dx p1 => ?_⟩
  cases dx with
  | nil => exact p1.elim
  | cons d1 dr =>
    cases d1 with
    | int j =>
      cases dr with
      | nil =>
        have p2 : Post X.K T E (WalkR X.K T) w1 H1 (if -(2 ^ 62) ≤ j ∧ j < 2 ^ 62 then .ok (rgD 0 1 j.toNat, fun _ => true) st1 else .stuck) Q := p1
        by_cases q : -(2 ^ 62) ≤ j ∧ j < 2 ^ 62
        · rw [if_pos q] at p2
          exact ⟨j, rfl, q.1, q.2, p2.here r1 walk_r⟩
        · rw [if_neg q] at p2
          exact p2.elim
      | cons _ _ => exact p1.elim
    | _ => exact p1.elim
theorem i_range2 {tg a b : Expr} {g : LA} {p pos : Pos} (hm : X.mg "range" = none) (ha : PAf X T E [a, b] g) (hg : Gl X "range" := by rfl) (hs : starEach [a, b] X.env = [(false, eval a X.env), (false, eval b X.env)] := by rfl) (hs2 : starEach [b] X.env = [(false, eval b X.env)] := by rfl) : PIf X T E tg (.Call (.Name "range" p) [a, b] [] pos) (iR2 g) := pi_to (pi_range2 hg hm ha hs hs2) fun w σ H env st Q he r p => by
  refine ⟨w, env, st, he, r, Post.bind (rel := Dats) p fun w1 x H1 ds st1 s1 r1 dx p1 => ?_⟩
  cases dx with
  | nil => exact p1.elim
  | cons d1 dr =>
    cases d1 with
    | int i =>
      cases dr with
      | nil => exact p1.elim
      | cons d2 dr =>
        cases d2 with
        | int j =>
          cases dr with
          | nil =>
            have p2 : Post X.K T E (WalkR X.K T) w1 H1 (if -(2 ^ 62) ≤ i ∧ i < 2 ^ 62 ∧ -(2 ^ 62) ≤ j ∧ j < 2 ^ 62 then .ok (rgD i 1 (j - i).toNat, fun _ => true) st1 else .stuck) Q := p1
            by_cases q : -(2 ^ 62) ≤ i ∧ i < 2 ^ 62 ∧ -(2 ^ 62) ≤ j ∧ j < 2 ^ 62
            · rw [if_pos q] at p2
              exact ⟨i, j, rfl, q, p2.here r1 walk_r⟩
            · rw [if_neg q] at p2
              exact p2.elim
          | cons _ _ => exact p1.elim
        | _ => exact p1.elim
    | _ => exact p1.elim
/-- enumerate of a list -/
def numD : Nat → List D → List D
  | _, [] => []
  | n, d :: ds => .tup [.int (n : Nat), d] :: numD (n + 1) ds
theorem numD_get : ∀ {ds : List D} {n i : Nat} {d : D}, (numD n ds)[i]? = some d → ∃ d', ds[i]? = some d' ∧ d = .tup [.int ((n + i : Nat) : Int), d']
  | [], n, i, d, h => by simp [numD] at h
  | x :: ds, n, 0, d, h => by
    simp [numD] at h
    exact ⟨x, rfl, by rw [← h]; simp⟩
  | x :: ds, n, i + 1, d, h => by
    have h' : (numD (n + 1) ds)[i]? = some d := by simpa [numD] using h
    obtain ⟨d', h1, h2⟩ := numD_get h'
    exact ⟨d', by simpa using h1, by rw [h2, show n + 1 + i = n + (i + 1) by omega]⟩
theorem numD_length : ∀ (ds : List D) (n : Nat), (numD n ds).length = ds.length
  | [], _ => rfl
  | _ :: ds, n => by simp [numD, numD_length ds]
def iE (g : LA) : LI := fun env st => (g env st).bind fun ds st1 => match ds with
  | [.lst xs] => .ok (numD 0 xs, fun _ => true) st1
  | _ => .stuck
end
end Fk
/-! FkE: enumerate, reversed, list comprehensions. -/
namespace Fk
open PySem PySem.Spec PyProof.Rows L2
section
variable {X : Cx} {T : List (Addr × Str)} {E : XK} {pos : Pos} {K : PySem.W.Frag}
theorem i_enum {e : Expr} {g : LA} {p tpos : Pos} {elts : List Expr} {kk : Nat} (hm : X.mg "enumerate" = none) (ha : PAf X T E [e] g) (hg : Gl X "enumerate" := by rfl) (hs : starEach [e] X.env = [(false, eval e X.env)] := by rfl) :
    PIf X T E (.Tuple elts kk tpos) (.Call (.Name "enumerate" p) [e] [] pos) (iE g) := pi_to (pi_enum hg hm ha hs) fun w σ H env st Q he r p => by
  refine ⟨w, env, st, he, r, Post.bind (rel := Dats) p fun w1 x H1 ds st1 s1 r1 dx p1 => ?_⟩
  cases dx with
  | nil => exact p1.elim
  | cons d1 dr =>
    cases dr with
    | cons _ _ => cases d1 <;> exact p1.elim
    | nil =>
      cases d1 with
      | @lst a vs ds hF hd =>
        refine ⟨a, vs, rfl, SqL.of (r1.fr _ _ hF), p1.here r1 ⟨fun w H st l r _ => ⟨vs, SqL.of (r.fr _ _ (l.fr _ _ hF)), by rw [hd.length]; simp [numD_length]⟩, fun i d w H st l r _ e => ?_, fun i d w H st x H' l r _ e y => ?_⟩⟩
        · obtain ⟨d', h1, _⟩ := numD_get e
          obtain ⟨v, h2, _⟩ := hd.get h1
          exact ⟨vs, v, SqL.of (r.fr _ _ (l.fr _ _ hF)), h2⟩
        · obtain ⟨d', h1, rfl⟩ := numD_get e
          obtain ⟨v, h2, h3⟩ := hd.get h1
          obtain ⟨t, x', rfl, ht, rfl, hx⟩ := y
          have z := hx vs (SqL.of (r.fr _ _ (l.fr _ _ hF)))
          rw [h2] at z
          cases z
          obtain ⟨s2, r2⟩ := r.laid ht (.tup [.int (i : Nat), v])
          refine ⟨_, s2, r2, .tup upd_same (.cons ?_ (.cons ((h3.mono l).mono s2.le) .nil))⟩
          rw [Nat.zero_add]
          exact .int _
      | _ => exact p1.elim
def iRv (g : LA) : LI := fun env st => (g env st).bind fun ds st1 => match ds with
  | [.lst xs] => .ok (xs.reverse, fun _ => true) st1
  | _ => .stuck
theorem i_rev {tg e : Expr} {g : LA} {p : Pos} (hm : X.mg "reversed" = none) (ha : PAf X T E [e] g) (hg : Gl X "reversed" := by rfl) (hs : starEach [e] X.env = [(false, eval e X.env)] := by rfl) :
    PIf X T E tg (.Call (.Name "reversed" p) [e] [] pos) (iRv g) := pi_to (pi_reversed hg hm ha hs) fun w σ H env st Q he r p => by
  refine ⟨w, env, st, he, r, Post.bind (rel := Dats) p fun w1 x H1 ds st1 s1 r1 dx p1 => ?_⟩
  cases dx with
  | nil => exact p1.elim
  | cons d1 dr =>
    cases dr with
    | cons _ _ => cases d1 <;> exact p1.elim
    | nil =>
      cases d1 with
      | @lst a vs ds hF hd =>
        have key : ∀ (i : Nat) (d : D), ds.reverse[i]? = some d → i < vs.length ∧ ∃ v, vs[vs.length - 1 - i]? = some v ∧ Dat w1 v d := fun i d e => by
          obtain ⟨v, h1, h2⟩ := hd.reverse.get e
          have hi := (List.getElem?_eq_some_iff.mp h1).1
          rw [List.length_reverse] at hi
          rw [List.getElem?_reverse hi] at h1
          exact ⟨hi, v, h1, h2⟩
        refine ⟨a, vs, rfl, SqL.of (r1.fr _ _ hF), p1.here r1 ⟨fun w H st l r _ => ?_, fun i d w H st l r _ e => ?_, fun i d w H st x H' l r _ e y => ?_⟩⟩
        · show vs.length ≤ ds.reverse.length
          rw [hd.length]
          simp
        · obtain ⟨hi, v, h1, _⟩ := key i d e
          exact ⟨hi, vs, v, SqL.of (r.fr _ _ (l.fr _ _ hF)), h1⟩
        · obtain ⟨hi, v, h1, h2⟩ := key i d e
          obtain ⟨rfl, y⟩ := y
          have z := y vs (SqL.of (r.fr _ _ (l.fr _ _ hF)))
          rw [h1] at z
          cases z
          exact ⟨w, Stp.refl w _, r, h2.mono l⟩
      | _ => exact p1.elim
end
/-! ### a list that grows, in no one's sight -/
structure Acc (K : PySem.W.Frag) (T : List (Addr × Str)) (w1 : Wd) (H1 : Hp) (L : Addr) (w : Wd) (H : Hp) (st : Store) (acc : List V) (ds : List D) : Prop where
  stp : Stp w1 H1 w H
  rel : Rel K T w H st
  hL : H L = some (.lst acc)
  nF : w.F L = none
  nA : L ∉ w.ads
  dats : Dats w acc ds
section
variable {T : List (Addr × Str)} {E : XK} {K : PySem.W.Frag} {w1 w w2 : Wd} {H1 H H2 : Hp} {L : Addr} {st st2 : Store} {acc : List V} {ds : List D}
theorem Rel.away (r : Rel K T w H st) {L : Addr} {o o' : HO} (hL : H L = some o) (ho : ∀ ps, o ≠ .tbl ps) (hc : ∀ c q, o ≠ LamX.CodeO c q) (nF : w.F L = none) (nA : L ∉ w.ads) : Rel K T w (upd H L o') st where
  fr := fun a u h => by
    rw [upd_ne (fun z => by rw [z, nF] at h; cases h)]
    exact r.fr a u h
  len := r.len
  nd := r.nd
  nt := r.nt
  at_ := fun k c p h1 h2 => (r.at_ k c p h1 h2).mono (Le.refl w) (fun hd => (r.at_ k c p h1 h2).noF hd) fun u e => by
    rw [upd_ne (fun z => nA (by rw [← z]; exact List.mem_of_getElem? h2))]
    exact e
  scr := r.scr
  tabs := fun t ht => by
    obtain ⟨ps, h1, h2, h3⟩ := r.tabs t ht
    refine ⟨ps, ?_, h2, fun pos cv hcv => ?_⟩
    · rw [upd_ne (fun z => by rw [z, hL] at h1; exact ho ps (Option.some.inj h1))]
      exact h1
    · obtain ⟨c', e1, e2⟩ := h3 pos cv hcv
      refine ⟨c', e1, ?_⟩
      rw [upd_ne (fun z => by rw [z, hL] at e2; exact hc _ _ (Option.some.inj e2))]
      exact e2
theorem Acc.start (r : Rel K T w1 H1 st) (hL : H1 L = none) : Acc K T w1 H1 L w1 (upd H1 L (.lst [])) st [] [] := by
  have nA : L ∉ w1.ads := fun z => r.there z hL
  have hk : ∀ a u, H1 a = some u → upd H1 L (.lst []) a = some u := fun a u h => by
    rw [upd_ne (fun z => by rw [z, hL] at h; cases h)]
    exact h
  refine ⟨⟨Le.refl _, fun p h n => absurd h n, fun a u h _ _ => hk a u h, fun a h => ?_, fun a h n => absurd n h⟩, ⟨fun a u h => hk a u (r.fr a u h), r.len, r.nd, fun k c p h1 h2 => (r.at_ k c p h1 h2).mono (Le.refl _) (fun hd => (r.at_ k c p h1 h2).noF hd) (hk p), tabs_ext r.tabs hk, r.scr, r.nt⟩, upd_same, r.freeF hL, nA, .nil⟩
  exact fun u q => h u (hk a u q)
theorem Acc.step (a : Acc K T w1 H1 L w H st acc ds) (s : Stp w H w2 H2) (r : Rel K T w2 H2 st2) : Acc K T w1 H1 L w2 H2 st2 acc ds where
  stp := a.stp.trans s
  rel := r
  hL := s.keep L _ a.hL a.nA (by intro _ z; cases z)
  nF := by
    by_cases q : w2.F L = none
    · exact q
    · rcases s.newF L q a.nF with z | z
      · exact (z.no a.hL (by intro _ z; cases z)).elim
      · exact absurd z a.nA
  nA := fun z => (s.new L z a.nA).no a.hL (by intro _ z; cases z)
  dats := a.dats.mono s.le
theorem Acc.push (a : Acc K T w1 H1 L w H st acc ds) (h0 : H1 L = none) {y : V} {d : D} (dy : Dat w y d) : Acc K T w1 H1 L w (upd H L (.lst (acc ++ [y]))) st (acc ++ [y]) (ds ++ [d]) where
  stp := ⟨a.stp.le, a.stp.new, fun b o h n t => by
    rw [upd_ne (fun z => by rw [z, h0] at h; cases h)]
    exact a.stp.keep b o h n t, fun b h => by
    by_cases z : b = L
    · rw [z] at h
      exact (h.no upd_same (by intro _ z; cases z)).elim
    · exact a.stp.free b fun u q => h u (by rw [upd_ne z]; exact q), a.stp.newF⟩
  rel := a.rel.away a.hL (by intro _ z; cases z) (by intro _ _ z; unfold LamX.CodeO at z; cases z) a.nF a.nA
  hL := upd_same
  nF := a.nF
  nA := a.nA
  dats := a.dats.append (.one dy)
/-- it stays -/
theorem Acc.done (a : Acc K T w1 H1 L w H st acc ds) (h0 : H1 L = none) : Stp w1 H1 ⟨upd w.F L (.lst acc), w.ads, w.S⟩ H ∧ Rel K T ⟨upd w.F L (.lst acc), w.ads, w.S⟩ H st ∧ Dat ⟨upd w.F L (.lst acc), w.ads, w.S⟩ (.ref L) (.lst ds) := by
  have le : Le w ⟨upd w.F L (.lst acc), w.ads, w.S⟩ := ⟨fun b u h => by
    show upd w.F L (.lst acc) b = some u
    rw [upd_ne (fun z => by rw [z, a.nF] at h; cases h)]
    exact h, fun _ _ h => h, rfl⟩
  refine ⟨⟨a.stp.le.trans le, a.stp.new, a.stp.keep, a.stp.free, fun b h n => ?_⟩, ⟨fun b u h => ?_, a.rel.len, a.rel.nd, fun k c p h1 h2 => ?_, a.rel.tabs, a.rel.scr.le le, nt_upd a.rel.nt (by intro _ z; cases z)⟩, .lst upd_same (a.dats.mono le)⟩
  · have h' : upd w.F L (.lst acc) b ≠ none := h
    by_cases z : b = L
    · rw [z]
      exact .inl (.of h0)
    · rw [upd_ne z] at h'
      exact a.stp.newF b h' n
  · have h' : upd w.F L (.lst acc) b = some u := h
    by_cases z : b = L
    · rw [z, upd_same] at h'
      rw [z, a.hL]
      exact h'
    · rw [upd_ne z] at h'
      exact a.rel.fr b u h'
  · have x := a.rel.at_ k c p h1 h2
    refine x.mono le (fun hd => ?_) fun u e => e
    show upd w.F L (.lst acc) p = none
    rw [upd_ne (fun z => a.nA (by rw [← z]; exact List.mem_of_getElem? h2))]
    exact x.noF hd
/-- it is a cell -/
theorem Acc.doneC (a : Acc K T w1 H1 L w H st acc ds) (h0 : H1 L = none) : Stp w1 H1 ⟨w.F, w.ads ++ [L], w.S⟩ H ∧ Rel K T ⟨w.F, w.ads ++ [L], w.S⟩ H (st ++ [.lst ds]) ∧ Dat ⟨w.F, w.ads ++ [L], w.S⟩ (.ref L) (.ref st.length) := by
  have le : Le w ⟨w.F, w.ads ++ [L], w.S⟩ := ⟨fun _ _ h => h, fun k q h => by
    show (w.ads ++ [L])[k]? = some q
    rw [List.getElem?_append_left (List.getElem?_eq_some_iff.mp h).1]
    exact h, rfl⟩
  refine ⟨⟨a.stp.le.trans le, fun p h n => ?_, a.stp.keep, a.stp.free, a.stp.newF⟩, ⟨a.rel.fr, by simp [a.rel.len], ?_, fun k d q h1 h2 => ?_, a.rel.tabs, a.rel.scr.le le, a.rel.nt⟩, .ref ?_⟩
  · have h' : p ∈ w.ads ++ [L] := h
    rcases List.mem_append.mp h' with h | h
    · exact a.stp.new p h n
    · have e : p = L := by simpa using h
      rw [e]
      exact .of h0
  · show (w.ads ++ [L]).Nodup
    rw [List.nodup_append]
    refine ⟨a.rel.nd, by simp, fun x hx b hb => ?_⟩
    have e : b = L := by simpa using hb
    rw [e]
    intro z
    exact a.nA (by rw [← z]; exact hx)
  · have h2' : (w.ads ++ [L])[k]? = some q := h2
    by_cases hlt : k < st.length
    · rw [List.getElem?_append_left hlt] at h1
      rw [List.getElem?_append_left (by rw [a.rel.len]; exact hlt)] at h2'
      exact (a.rel.at_ k d q h1 h2').mono le (fun hd => (a.rel.at_ k d q h1 h2').noF hd) fun u e => e
    · have hk2 : k = st.length := by
        have := (List.getElem?_eq_some_iff.mp h1).1
        simp at this
        omega
      subst hk2
      rw [List.getElem?_append_right (Nat.le_refl _), Nat.sub_self] at h1
      rw [List.getElem?_append_right (by rw [a.rel.len]; exact Nat.le_refl _), a.rel.len, Nat.sub_self] at h2'
      simp at h1 h2'
      subst h1 h2'
      exact ⟨a.nF, acc, a.hL, a.dats.mono le⟩
  · show (w.ads ++ [L])[st.length]? = some L
    rw [← a.rel.len]
    simp
end
/-! ### comprehensions -/
theorem EnvR.wipe {w : Wd} {σ : L2.St} {env : DEnv} (e : EnvR w σ env) : ∀ vs : List Nat, EnvR w (wipe σ vs) (wipeD env vs)
  | [] => e
  | v :: vs => (EnvR.wipe e vs).del v none
theorem wipe_idem (σ : L2.St) (vs : List Nat) : wipe (wipe σ vs) vs = wipe σ vs := by
  have g : ∀ us : List Nat, (∀ u ∈ us, u ∈ vs) → wipe (wipe σ us) vs = wipe σ vs := fun us => by
    induction us with
    | nil => intro _; rfl
    | cons u us ih =>
      intro h
      show wipe ((wipe σ us).set u none) vs = wipe σ vs
      rw [wipe_set (h u List.mem_cons_self), ih fun x hx => h x (List.mem_cons_of_mem _ hx)]
  exact g vs fun _ h => h
abbrev EN : XK := fun _ _ _ => False
/-- no error comes out of here -/
def noex {α : Type} (r : Res α) : Res α := match r with
  | .ex _ _ => .stuck
  | r => r
theorem Post.noex {K : PySem.W.Frag} {T : List (Addr × Str)} {E E' : XK} {α β : Type} {rel : Wd → β → α → Prop} {w : Wd} {H : Hp} {r : Res α} {Q : β → Hp → Prop} (h : Post K T E rel w H (noex r) Q) : Post K T E' rel w H r Q := by
  cases r with
  | ok d st => exact h
  | ex x st => exact h.elim
  | stuck => exact h
def lcRun (g : Store → Bool) (lg : LG) (ft : LT) (fe : LE) (envw : DEnv) : List D → Store → Res (List D)
  | [], st => if g st = true then .ok [] st else .stuck
  | d :: ds, st => if g st = true then (match lg d envw st with
    | .nx e1 s1 => (noex (ft e1 s1)).bind fun b s2 => if b = true then (noex (fe e1 s2)).bind fun y s3 => (lcRun g lg ft fe envw ds s3).bind fun ys s4 => .ok (y :: ys) s4 else lcRun g lg ft fe envw ds s2
    | _ => .stuck) else .stuck
/-- [e for x in it if t]: a list that stays; a cell -/
def fLc (fi : LI) (lg : LG) (ft : LT) (fe : LE) (vs : List Nat) : LE := fun env st => (fi env st).bind fun it st1 => (lcRun it.2 lg ft fe (wipeD env vs) it.1 st1).bind fun ys st2 => if ys.length ≤ lim then .ok (.lst ys) st2 else .stuck
def fLcC (fi : LI) (lg : LG) (ft : LT) (fe : LE) (vs : List Nat) : LE := fun env st => (fi env st).bind fun it st1 => (lcRun it.2 lg ft fe (wipeD env vs) it.1 st1).bind fun ys st2 => if ys.length ≤ lim then .ok (.ref st2.length) (st2 ++ [.lst ys]) else .stuck
section
variable {T : List (Addr × Str)} {E : XK} {K : PySem.W.Frag}
/-- Fin: what is wanted of the end -/
def LcEnd (K : PySem.W.Frag) (T : List (Addr × Str)) (w1 : Wd) (H1 : Hp) (L : Addr) (Q : VK) (ds : List D) (st : Store) : Prop := ∀ w H acc, Acc K T w1 H1 L w H st acc ds → Q (.ref L) H
theorem Res.bind_ok {α β : Type} {r : Res α} {f : α → Store → Res β} {b : β} {s : Store} (h : r.bind f = .ok b s) : ∃ a s', r = .ok a s' ∧ f a s' = .ok b s := by
  cases r with
  | ok a st => exact ⟨a, st, rfl, h⟩
  | ex x st => cases h
  | stuck => cases h
theorem lc_core {fi : LI} {lg : LG} {ft : LT} {fe : LE} {vs : List Nat} {w : Wd} {σ : L2.St} {H : Hp} {env : DEnv} {Q : VK} {J : It} {items : List D} {g : Store → Bool} {st1 st2 : Store} {ys : List D} (he : EnvR w σ env) (r1 : Rel K T w H st1) (wk : Walk K T J items g w)
    (hrun : lcRun g lg ft fe (wipeD env vs) items st1 = .ok ys st2) (hlim : ys.length ≤ lim) {L : Addr} (hL : H L = none) (fin : LcEnd K T w H L Q ys st2) :
    ∃ W : Nat → Nat → Hp → Prop, (∃ m, W 0 m (upd H L (.lst []))) ∧ ∀ i m H, W i m H →
      (J.stop i H ∧ Q (.ref L) H) ∨ (J.go i H ∧ ∃ Nx : Hp → Prop, (∀ H', Nx H' → ∃ m', m' < m ∧ W (i + 1) m' H') ∧ ∀ x H', J.yld i H x H' → tOfG K T EN (some vs) lg x (wipe σ vs) H' fun σ2 H2 => wipe σ2 vs = wipe σ vs ∧
        tOf K T EN eqB ft σ2 H2 fun b H3 => if b = true then tOf K T EN Dat fe σ2 H3 fun y H4 => ∃ acc, H4 L = some (.lst acc) ∧ acc.length < sizeLine ∧ Nx (upd H4 L (.lst (acc ++ [y]))) else Nx H3) := by
  refine ⟨fun i m H' => m = items.length - i ∧ i ≤ items.length ∧ ∃ w' st' acc ds zs, Acc K T w H L w' H' st' acc ds ∧ lcRun g lg ft fe (wipeD env vs) (items.drop i) st' = .ok zs st2 ∧ ds ++ zs = ys,
    ⟨items.length, by simp, Nat.zero_le _, w, st1, [], [], ys, Acc.start r1 hL, by simpa using hrun, rfl⟩, ?_⟩
  rintro i m H' ⟨rfl, hi, w', st', acc, ds, zs, a, hr, hz⟩
  by_cases hlt : i < items.length
  · have hd : items[i]? = some items[i] := List.getElem?_eq_getElem hlt
    have hdrop : items.drop i = items[i] :: items.drop (i + 1) := by rw [List.drop_eq_getElem_cons hlt]
    rw [hdrop] at hr
    unfold lcRun at hr
    by_cases hg : g st' = true
    · rw [if_pos hg] at hr
      refine .inr ⟨wk.go i _ w' H' st' a.stp.le a.rel hg hd, fun H'' => ∃ w' st' acc ds zs, Acc K T w H L w' H'' st' acc ds ∧ lcRun g lg ft fe (wipeD env vs) (items.drop (i + 1)) st' = .ok zs st2 ∧ ds ++ zs = ys, fun H'' hN => ⟨items.length - (i + 1), by omega, rfl, hlt, hN⟩, fun x H3 hy => ?_⟩
      obtain ⟨w3, s3, r3, dx⟩ := wk.yld i _ w' H' st' x H3 a.stp.le a.rel hg hd hy
      have a3 := a.step s3 r3
      have he3 : EnvR w3 (wipe σ vs) (wipeD env vs) := (he.wipe vs).mono a3.stp.le
      refine ⟨w3, items[i], wipeD env vs, st', he3, r3, dx, ?_⟩
      cases q : lg items[i] (wipeD env vs) st' with
      | nx e4 st4 =>
        rw [q] at hr
        dsimp only at hr
        refine fun w4 σ4 H4 s4 e4' r4 hw => ⟨(hw vs rfl).trans (wipe_idem σ vs), w4, e4, st4, e4', r4, ?_⟩
        have a4 := a3.step s4 r4
        obtain ⟨b, st5, hb, hr⟩ := Res.bind_ok hr
        cases q2 : ft e4 st4 with
        | ex _ _ => rw [q2] at hb; cases hb
        | stuck => rw [q2] at hb; cases hb
        | ok b' st5' =>
          rw [q2] at hb
          cases hb
          intro w5 c H5 s5 r5 hc
          cases (show c = b from hc)
          have a5 := a4.step s5 r5
          cases b with
          | false =>
            rw [if_neg Bool.false_ne_true] at hr ⊢
            exact ⟨w5, st5, acc, ds, zs, a5, hr, hz⟩
          | true =>
            rw [if_pos rfl] at hr ⊢
            refine ⟨w5, e4, st5, e4'.mono s5.le, r5, ?_⟩
            obtain ⟨y, st6, hy6, hr⟩ := Res.bind_ok hr
            obtain ⟨ys', st7, hy7, hr⟩ := Res.bind_ok hr
            cases q3 : fe e4 st5 with
            | ex _ _ => rw [q3] at hy6; cases hy6
            | stuck => rw [q3] at hy6; cases hy6
            | ok y' st6' =>
              rw [q3] at hy6
              cases hy6
              cases hr
              intro w6 v H6 s6 r6 dv
              have a6 := a5.step s6 r6
              refine ⟨acc, a6.hL, ?_, w6, st6, acc ++ [v], ds ++ [y], ys', a6.push hL dv, hy7, by rw [← hz]; simp⟩
              rw [a6.dats.length, lim_eq]
              have hl : ys.length = ds.length + (ys'.length + 1) := by rw [← hz]; simp
              omega
      | ex x e4 st4 => rw [q] at hr; cases hr
      | bk e4 st4 => rw [q] at hr; cases hr
      | ct e4 st4 => rw [q] at hr; cases hr
      | rt d st4 => rw [q] at hr; cases hr
      | stuck => rw [q] at hr; cases hr
    · rw [if_neg hg] at hr
      cases hr
  · have e : i = items.length := by omega
    subst e
    have hdrop : items.drop items.length = [] := by simp
    rw [hdrop] at hr
    unfold lcRun at hr
    by_cases hg : g st' = true
    · rw [if_pos hg] at hr
      cases hr
      rw [List.append_nil] at hz
      subst hz
      exact .inl ⟨wk.stop w' H' _ a.stp.le a.rel hg, fin w' H' acc a⟩
    · rw [if_neg hg] at hr
      cases hr
theorem sim_lc {fi : LI} {lg : LG} {ft : LT} {fe : LE} {vs : List Nat} : Sim K T E Dat (tLc (tOf K T E (WalkR K T) fi) (tOfG K T EN (some vs) lg) (tOf K T EN eqB ft) (tOf K T EN Dat fe) vs) (fLc fi lg ft fe vs) := fun w σ H env st Q he r p => by
  refine ⟨w, env, st, he, r, Post.bind (rel := WalkR K T) p fun w1 J H1 it st1 s1 r1 wk p1 => ?_⟩
  obtain ⟨items, g⟩ := it
  intro L hL
  cases q : lcRun g lg ft fe (wipeD env vs) items st1 with
  | ok ys st2 =>
    have p2 : Post K T E Dat w1 H1 (if ys.length ≤ lim then .ok (.lst ys) st2 else .stuck) Q := by
      have p' : Post K T E Dat w1 H1 ((lcRun g lg ft fe (wipeD env vs) items st1).bind fun ys st2 => if ys.length ≤ lim then .ok (.lst ys) st2 else .stuck) Q := p1
      rw [q] at p'
      exact p'
    by_cases hl : ys.length ≤ lim
    · rw [if_pos hl] at p2
      refine lc_core (fi := fi) (he.mono s1.le) r1 wk q hl hL fun w' H' acc a => ?_
      obtain ⟨s2, r2, d2⟩ := a.done hL
      exact p2 _ _ _ s2 r2 d2
    · rw [if_neg hl] at p2
      exact p2.elim
  | ex x st2 =>
    have key : ∀ (items : List D) (st : Store) x s, lcRun g lg ft fe (wipeD env vs) items st ≠ .ex x s := fun items => by
      induction items with
      | nil =>
        intro st x s h
        unfold lcRun at h
        split at h <;> cases h
      | cons d ds ih =>
        intro st x s h
        unfold lcRun at h
        split at h
        · split at h
          · rename_i e1 s1 _
            cases q2 : ft e1 s1 with
            | ok b s2 =>
              rw [q2] at h
              dsimp only [noex, Res.bind] at h
              split at h
              · cases q3 : fe e1 s2 with
                | ok y s3 =>
                  rw [q3] at h
                  dsimp only [noex, Res.bind] at h
                  cases q4 : lcRun g lg ft fe (wipeD env vs) ds s3 with
                  | ok ys s4 => rw [q4] at h; cases h
                  | ex x4 s4 => exact ih s3 x4 s4 q4
                  | stuck => rw [q4] at h; cases h
                | ex _ _ => rw [q3] at h; cases h
                | stuck => rw [q3] at h; cases h
              · exact ih _ _ _ h
            | ex _ _ => rw [q2] at h; cases h
            | stuck => rw [q2] at h; cases h
          · cases h
        · cases h
    exact absurd q (key items st1 x st2)
  | stuck =>
    have p' : Post K T E Dat w1 H1 ((lcRun g lg ft fe (wipeD env vs) items st1).bind fun ys st2 => if ys.length ≤ lim then .ok (.lst ys) st2 else .stuck) Q := p1
    rw [q] at p'
    exact p'.elim
end
end Fk
/-! FkF: comprehensions as rules, two clauses, fields, calls, a def. -/
namespace Fk
open PySem PySem.Spec PyProof.Rows L2
section
variable {T : List (Addr × Str)} {E : XK} {K : PySem.W.Frag}
theorem lcRun_noex {g : Store → Bool} {lg : LG} {ft : LT} {fe : LE} {envw : DEnv} : ∀ (items : List D) (st : Store) x s, lcRun g lg ft fe envw items st ≠ .ex x s := fun items => by
  induction items with
  | nil =>
    intro st x s h
    unfold lcRun at h
    split at h <;> cases h
  | cons d ds ih =>
    intro st x s h
    unfold lcRun at h
    split at h
    · split at h
      · rename_i e1 s1 _
        cases q2 : ft e1 s1 with
        | ok b s2 =>
          rw [q2] at h
          dsimp only [noex, Res.bind] at h
          split at h
          · cases q3 : fe e1 s2 with
            | ok y s3 =>
              rw [q3] at h
              dsimp only [noex, Res.bind] at h
              cases q4 : lcRun g lg ft fe envw ds s3 with
              | ok ys s4 => rw [q4] at h; cases h
              | ex x4 s4 => exact ih s3 x4 s4 q4
              | stuck => rw [q4] at h; cases h
            | ex _ _ => rw [q3] at h; cases h
            | stuck => rw [q3] at h; cases h
          · exact ih _ _ _ h
        | ex _ _ => rw [q2] at h; cases h
        | stuck => rw [q2] at h; cases h
      · cases h
    · cases h
theorem sim_lcC {fi : LI} {lg : LG} {ft : LT} {fe : LE} {vs : List Nat} : Sim K T E Dat (tLc (tOf K T E (WalkR K T) fi) (tOfG K T EN (some vs) lg) (tOf K T EN eqB ft) (tOf K T EN Dat fe) vs) (fLcC fi lg ft fe vs) := fun w σ H env st Q he r p => by
  refine ⟨w, env, st, he, r, Post.bind (rel := WalkR K T) p fun w1 J H1 it st1 s1 r1 wk p1 => ?_⟩
  obtain ⟨items, g⟩ := it
  intro L hL
  have p' : Post K T E Dat w1 H1 ((lcRun g lg ft fe (wipeD env vs) items st1).bind fun ys st2 => if ys.length ≤ lim then .ok (.ref st2.length) (st2 ++ [.lst ys]) else .stuck) Q := p1
  cases q : lcRun g lg ft fe (wipeD env vs) items st1 with
  | ok ys st2 =>
    rw [q] at p'
    have p2 : Post K T E Dat w1 H1 (if ys.length ≤ lim then .ok (.ref st2.length) (st2 ++ [.lst ys]) else .stuck) Q := p'
    by_cases hl : ys.length ≤ lim
    · rw [if_pos hl] at p2
      refine lc_core (fi := fi) (he.mono s1.le) r1 wk q hl hL fun w' H' acc a => ?_
      obtain ⟨s2, r2, d2⟩ := a.doneC hL
      exact p2 _ _ _ s2 r2 d2
    · rw [if_neg hl] at p2
      exact p2.elim
  | ex x st2 => exact absurd q (lcRun_noex items st1 x st2)
  | stuck =>
    rw [q] at p'
    exact p'.elim
/-! ### two clauses -/
def lc2Run (g : Store → Bool) (lg : LG) (ft : LT) (fi1 : LI) (lg1 : LG) (ft1 : LT) (fe : LE) (vs1 : List Nat) (envw : DEnv) : List D → Store → Res (List D)
  | [], st => if g st = true then .ok [] st else .stuck
  | d :: ds, st => if g st = true then (match lg d envw st with
    | .nx e1 s1 => (noex (ft e1 s1)).bind fun b s2 => if b = true then (noex (fi1 e1 s2)).bind fun it s3 => (lcRun it.2 lg1 ft1 fe (wipeD e1 vs1) it.1 s3).bind fun xs s4 => (lc2Run g lg ft fi1 lg1 ft1 fe vs1 envw ds s4).bind fun ys s5 => .ok (xs ++ ys) s5
      else lc2Run g lg ft fi1 lg1 ft1 fe vs1 envw ds s2
    | _ => .stuck) else .stuck
def fLc2 (fi : LI) (lg : LG) (ft : LT) (fi1 : LI) (lg1 : LG) (ft1 : LT) (fe : LE) (vs vs1 : List Nat) : LE := fun env st => (fi env st).bind fun it st1 => (noex (lc2Run it.2 lg ft fi1 lg1 ft1 fe vs1 (wipeD env vs) it.1 st1)).bind fun ys st2 => if ys.length ≤ lim then .ok (.lst ys) st2 else .stuck
def fLc2C (fi : LI) (lg : LG) (ft : LT) (fi1 : LI) (lg1 : LG) (ft1 : LT) (fe : LE) (vs vs1 : List Nat) : LE := fun env st => (fi env st).bind fun it st1 => (noex (lc2Run it.2 lg ft fi1 lg1 ft1 fe vs1 (wipeD env vs) it.1 st1)).bind fun ys st2 => if ys.length ≤ lim then .ok (.ref st2.length) (st2 ++ [.lst ys]) else .stuck
/-- the inner walk: what it adds, then what follows -/
theorem lc_in {w1 : Wd} {H1 : Hp} {L : Addr} {σ2 : L2.St} {e4 : DEnv} {w5 : Wd} {J : It} {items : List D} {g : Store → Bool} {lg1 : LG} {ft1 : LT} {fe : LE} {vs1 : List Nat} {st5 st6 : Store} {xs : List D} {tot : Nat} (hlim : tot ≤ lim) (he : EnvR w5 σ2 e4)
    (wk : Walk K T J items g w5) (hrun : lcRun g lg1 ft1 fe (wipeD e4 vs1) items st5 = .ok xs st6) (hL : H1 L = none) {w : Wd} {H : Hp} {acc : List V} {ds : List D} (le : Le w5 w) (a : Acc K T w1 H1 L w H st5 acc ds) (htot : ds.length + xs.length ≤ tot) {Nx : Hp → Prop}
    (fin : ∀ w H acc ds', Le w5 w → Acc K T w1 H1 L w H st6 acc ds' → ds' = ds ++ xs → Nx H) :
    ∃ W1 : Nat → Nat → Hp → Prop, (∃ m, W1 0 m H) ∧ ∀ j k H, W1 j k H →
      (J.stop j H ∧ Nx H) ∨ (J.go j H ∧ ∃ Nx1 : Hp → Prop, (∀ H', Nx1 H' → ∃ k', k' < k ∧ W1 (j + 1) k' H') ∧ ∀ x H', J.yld j H x H' → tOfG K T EN (some vs1) lg1 x (wipe σ2 vs1) H' fun σ3 H5 => wipe σ3 vs1 = wipe σ2 vs1 ∧
        tOf K T EN eqB ft1 σ3 H5 fun b H6 => if b = true then tOf K T EN Dat fe σ3 H6 fun y H7 => ∃ acc, H7 L = some (.lst acc) ∧ acc.length < sizeLine ∧ Nx1 (upd H7 L (.lst (acc ++ [y]))) else Nx1 H6) := by
  refine ⟨fun i m H' => m = items.length - i ∧ i ≤ items.length ∧ ∃ w' st' acc ds' zs, Le w5 w' ∧ Acc K T w1 H1 L w' H' st' acc ds' ∧ lcRun g lg1 ft1 fe (wipeD e4 vs1) (items.drop i) st' = .ok zs st6 ∧ ds' ++ zs = ds ++ xs,
    ⟨items.length, by simp, Nat.zero_le _, w, st5, acc, ds, xs, le, a, by simpa using hrun, rfl⟩, ?_⟩
  rintro i m H' ⟨rfl, hi, w', st', acc, ds', zs, le', a, hr, hz⟩
  by_cases hlt : i < items.length
  · have hd : items[i]? = some items[i] := List.getElem?_eq_getElem hlt
    have hdrop : items.drop i = items[i] :: items.drop (i + 1) := by rw [List.drop_eq_getElem_cons hlt]
    rw [hdrop] at hr
    unfold lcRun at hr
    by_cases hg : g st' = true
    · rw [if_pos hg] at hr
      refine .inr ⟨wk.go i _ w' H' st' le' a.rel hg hd, fun H'' => ∃ w' st' acc ds' zs, Le w5 w' ∧ Acc K T w1 H1 L w' H'' st' acc ds' ∧ lcRun g lg1 ft1 fe (wipeD e4 vs1) (items.drop (i + 1)) st' = .ok zs st6 ∧ ds' ++ zs = ds ++ xs, fun H'' hN => ⟨items.length - (i + 1), by omega, rfl, hlt, hN⟩, fun x H3 hy => ?_⟩
      obtain ⟨w3, s3, r3, dx⟩ := wk.yld i _ w' H' st' x H3 le' a.rel hg hd hy
      have a3 := a.step s3 r3
      have he3 : EnvR w3 (wipe σ2 vs1) (wipeD e4 vs1) := (he.wipe vs1).mono (le'.trans s3.le)
      refine ⟨w3, items[i], wipeD e4 vs1, st', he3, r3, dx, ?_⟩
      cases q : lg1 items[i] (wipeD e4 vs1) st' with
      | nx e6 st7 =>
        rw [q] at hr
        dsimp only at hr
        refine fun w4 σ4 H4 s4 e4' r4 hw => ⟨(hw vs1 rfl).trans (wipe_idem σ2 vs1), w4, e6, st7, e4', r4, ?_⟩
        have a4 := a3.step s4 r4
        have le4 := (le'.trans s3.le).trans s4.le
        obtain ⟨b, st8, hb, hr⟩ := Res.bind_ok hr
        cases q2 : ft1 e6 st7 with
        | ex _ _ => rw [q2] at hb; cases hb
        | stuck => rw [q2] at hb; cases hb
        | ok b' st8' =>
          rw [q2] at hb
          cases hb
          intro w6 c H6 s6 r6 hc
          cases (show c = b from hc)
          have a6 := a4.step s6 r6
          have le6 := le4.trans s6.le
          cases b with
          | false =>
            rw [if_neg Bool.false_ne_true] at hr ⊢
            exact ⟨w6, st8, acc, ds', zs, le6, a6, hr, hz⟩
          | true =>
            rw [if_pos rfl] at hr ⊢
            refine ⟨w6, e6, st8, e4'.mono s6.le, r6, ?_⟩
            obtain ⟨y, st9, hy6, hr⟩ := Res.bind_ok hr
            obtain ⟨ys', st10, hy7, hr⟩ := Res.bind_ok hr
            cases q3 : fe e6 st8 with
            | ex _ _ => rw [q3] at hy6; cases hy6
            | stuck => rw [q3] at hy6; cases hy6
            | ok y' st9' =>
              rw [q3] at hy6
              cases hy6
              cases hr
              intro w7 v H7 s7 r7 dv
              have a7 := a6.step s7 r7
              refine ⟨acc, a7.hL, ?_, w7, st9, acc ++ [v], ds' ++ [y], ys', le6.trans s7.le, a7.push hL dv, hy7, by rw [← hz]; simp⟩
              rw [a7.dats.length, lim_eq]
              have hl := congrArg List.length hz
              simp only [List.length_append, List.length_cons] at hl
              omega
      | ex x e4 st4 => rw [q] at hr; cases hr
      | bk e4 st4 => rw [q] at hr; cases hr
      | ct e4 st4 => rw [q] at hr; cases hr
      | rt d st4 => rw [q] at hr; cases hr
      | stuck => rw [q] at hr; cases hr
    · rw [if_neg hg] at hr
      cases hr
  · have e : i = items.length := by omega
    subst e
    have hdrop : items.drop items.length = [] := by simp
    rw [hdrop] at hr
    unfold lcRun at hr
    by_cases hg : g st' = true
    · rw [if_pos hg] at hr
      cases hr
      rw [List.append_nil] at hz
      exact .inl ⟨wk.stop w' H' _ le' a.rel hg, fin w' H' acc ds' le' a hz⟩
    · rw [if_neg hg] at hr
      cases hr
theorem lc2_run {fi fi1 : LI} {lg lg1 : LG} {ft ft1 : LT} {fe : LE} {vs vs1 : List Nat} {w : Wd} {σ : L2.St} {H : Hp} {env : DEnv} {Q : VK} {J : It} {items : List D} {g : Store → Bool} {st1 st2 : Store} {ys : List D} (he : EnvR w σ env) (r1 : Rel K T w H st1) (wk : Walk K T J items g w)
    (hrun : lc2Run g lg ft fi1 lg1 ft1 fe vs1 (wipeD env vs) items st1 = .ok ys st2) (hlim : ys.length ≤ lim) {L : Addr} (hL : H L = none) (fin : LcEnd K T w H L Q ys st2) :
    ∃ W : Nat → Nat → Hp → Prop, (∃ m, W 0 m (upd H L (.lst []))) ∧ ∀ i m H, W i m H →
      (J.stop i H ∧ Q (.ref L) H) ∨ (J.go i H ∧ ∃ Nx : Hp → Prop, (∀ H', Nx H' → ∃ m', m' < m ∧ W (i + 1) m' H') ∧ ∀ x H', J.yld i H x H' → tOfG K T EN (some vs) lg x (wipe σ vs) H' fun σ2 H2 => wipe σ2 vs = wipe σ vs ∧
        tOf K T EN eqB ft σ2 H2 fun b H3 => if b = true then tOf K T EN (WalkR K T) fi1 σ2 H3 fun J1 H4 =>
          ∃ W1 : Nat → Nat → Hp → Prop, (∃ m, W1 0 m H4) ∧ ∀ j k H, W1 j k H →
            (J1.stop j H ∧ Nx H) ∨ (J1.go j H ∧ ∃ Nx1 : Hp → Prop, (∀ H', Nx1 H' → ∃ k', k' < k ∧ W1 (j + 1) k' H') ∧ ∀ x H', J1.yld j H x H' → tOfG K T EN (some vs1) lg1 x (wipe σ2 vs1) H' fun σ3 H5 => wipe σ3 vs1 = wipe σ2 vs1 ∧
              tOf K T EN eqB ft1 σ3 H5 fun b H6 => if b = true then tOf K T EN Dat fe σ3 H6 fun y H7 => ∃ acc, H7 L = some (.lst acc) ∧ acc.length < sizeLine ∧ Nx1 (upd H7 L (.lst (acc ++ [y]))) else Nx1 H6)
        else Nx H3) := by
  refine ⟨fun i m H' => m = items.length - i ∧ i ≤ items.length ∧ ∃ w' st' acc ds zs, Acc K T w H L w' H' st' acc ds ∧ lc2Run g lg ft fi1 lg1 ft1 fe vs1 (wipeD env vs) (items.drop i) st' = .ok zs st2 ∧ ds ++ zs = ys,
    ⟨items.length, by simp, Nat.zero_le _, w, st1, [], [], ys, Acc.start r1 hL, by simpa using hrun, rfl⟩, ?_⟩
  rintro i m H' ⟨rfl, hi, w', st', acc, ds, zs, a, hr, hz⟩
  by_cases hlt : i < items.length
  · have hd : items[i]? = some items[i] := List.getElem?_eq_getElem hlt
    have hdrop : items.drop i = items[i] :: items.drop (i + 1) := by rw [List.drop_eq_getElem_cons hlt]
    rw [hdrop] at hr
    unfold lc2Run at hr
    by_cases hg : g st' = true
    · rw [if_pos hg] at hr
      refine .inr ⟨wk.go i _ w' H' st' a.stp.le a.rel hg hd, fun H'' => ∃ w' st' acc ds zs, Acc K T w H L w' H'' st' acc ds ∧ lc2Run g lg ft fi1 lg1 ft1 fe vs1 (wipeD env vs) (items.drop (i + 1)) st' = .ok zs st2 ∧ ds ++ zs = ys, fun H'' hN => ⟨items.length - (i + 1), by omega, rfl, hlt, hN⟩, fun x H3 hy => ?_⟩
      obtain ⟨w3, s3, r3, dx⟩ := wk.yld i _ w' H' st' x H3 a.stp.le a.rel hg hd hy
      have a3 := a.step s3 r3
      have he3 : EnvR w3 (wipe σ vs) (wipeD env vs) := (he.wipe vs).mono a3.stp.le
      refine ⟨w3, items[i], wipeD env vs, st', he3, r3, dx, ?_⟩
      cases q : lg items[i] (wipeD env vs) st' with
      | nx e4 st4 =>
        rw [q] at hr
        dsimp only at hr
        refine fun w4 σ4 H4 s4 e4' r4 hw => ⟨(hw vs rfl).trans (wipe_idem σ vs), w4, e4, st4, e4', r4, ?_⟩
        have a4 := a3.step s4 r4
        obtain ⟨b, st5, hb, hr⟩ := Res.bind_ok hr
        cases q2 : ft e4 st4 with
        | ex _ _ => rw [q2] at hb; cases hb
        | stuck => rw [q2] at hb; cases hb
        | ok b' st5' =>
          rw [q2] at hb
          cases hb
          intro w5 c H5 s5 r5 hc
          cases (show c = b from hc)
          have a5 := a4.step s5 r5
          cases b with
          | false =>
            rw [if_neg Bool.false_ne_true] at hr ⊢
            exact ⟨w5, st5, acc, ds, zs, a5, hr, hz⟩
          | true =>
            rw [if_pos rfl] at hr ⊢
            obtain ⟨it, st6, hit, hr⟩ := Res.bind_ok hr
            obtain ⟨xs, st7, hxs, hr⟩ := Res.bind_ok hr
            obtain ⟨ys', st8, hys, hr⟩ := Res.bind_ok hr
            cases hr
            obtain ⟨items1, g1⟩ := it
            cases q3 : fi1 e4 st5 with
            | ex _ _ => rw [q3] at hit; cases hit
            | stuck => rw [q3] at hit; cases hit
            | ok it' st6' =>
              rw [q3] at hit
              cases hit
              refine ⟨w5, e4, st5, e4'.mono s5.le, r5, ?_⟩
              rw [q3]
              intro w6 J1 H6 s6 r6 wk1
              have a6 := a5.step s6 r6
              have wk1 : Walk K T J1 items1 g1 w6 := wk1
              have hl := congrArg List.length hz
              simp only [List.length_append] at hl
              refine lc_in (tot := ys.length) hlim ((e4'.mono s5.le).mono s6.le) wk1 hxs hL (Le.refl w6) a6 (by omega) fun w7 H7 acc7 ds7 le7 a7 e7 => ?_
              subst e7
              exact ⟨w7, _, acc7, ds ++ xs, ys', a7, hys, by rw [← hz]; simp⟩
      | ex x e4 st4 => rw [q] at hr; cases hr
      | bk e4 st4 => rw [q] at hr; cases hr
      | ct e4 st4 => rw [q] at hr; cases hr
      | rt d st4 => rw [q] at hr; cases hr
      | stuck => rw [q] at hr; cases hr
    · rw [if_neg hg] at hr
      cases hr
  · have e : i = items.length := by omega
    subst e
    have hdrop : items.drop items.length = [] := by simp
    rw [hdrop] at hr
    unfold lc2Run at hr
    by_cases hg : g st' = true
    · rw [if_pos hg] at hr
      cases hr
      rw [List.append_nil] at hz
      subst hz
      exact .inl ⟨wk.stop w' H' _ a.stp.le a.rel hg, fin w' H' acc a⟩
    · rw [if_neg hg] at hr
      cases hr
theorem sim_lc2 {fi fi1 : LI} {lg lg1 : LG} {ft ft1 : LT} {fe : LE} {vs vs1 : List Nat} : Sim K T E Dat (tLc2 (tOf K T E (WalkR K T) fi) (tOfG K T EN (some vs) lg) (tOf K T EN eqB ft) (tOf K T EN (WalkR K T) fi1) (tOfG K T EN (some vs1) lg1) (tOf K T EN eqB ft1) (tOf K T EN Dat fe) vs vs1) (fLc2 fi lg ft fi1 lg1 ft1 fe vs vs1) := fun w σ H env st Q he r p => by
  refine ⟨w, env, st, he, r, Post.bind (rel := WalkR K T) p fun w1 J H1 it st1 s1 r1 wk p1 => ?_⟩
  obtain ⟨items, g⟩ := it
  intro L hL
  have p' : Post K T E Dat w1 H1 ((noex (lc2Run g lg ft fi1 lg1 ft1 fe vs1 (wipeD env vs) items st1)).bind fun ys st2 => if ys.length ≤ lim then .ok (.lst ys) st2 else .stuck) Q := p1
  cases q : lc2Run g lg ft fi1 lg1 ft1 fe vs1 (wipeD env vs) items st1 with
  | ok ys st2 =>
    rw [q] at p'
    have p2 : Post K T E Dat w1 H1 (if ys.length ≤ lim then .ok (.lst ys) st2 else .stuck) Q := p'
    by_cases hl : ys.length ≤ lim
    · rw [if_pos hl] at p2
      refine lc2_run (fi := fi) (he.mono s1.le) r1 wk q hl hL fun w' H' acc a => ?_
      obtain ⟨s2, r2, d2⟩ := a.done hL
      exact p2 _ _ _ s2 r2 d2
    · rw [if_neg hl] at p2
      exact p2.elim
  | ex x st2 => rw [q] at p'; exact p'.elim
  | stuck => rw [q] at p'; exact p'.elim
theorem sim_lc2C {fi fi1 : LI} {lg lg1 : LG} {ft ft1 : LT} {fe : LE} {vs vs1 : List Nat} : Sim K T E Dat (tLc2 (tOf K T E (WalkR K T) fi) (tOfG K T EN (some vs) lg) (tOf K T EN eqB ft) (tOf K T EN (WalkR K T) fi1) (tOfG K T EN (some vs1) lg1) (tOf K T EN eqB ft1) (tOf K T EN Dat fe) vs vs1) (fLc2C fi lg ft fi1 lg1 ft1 fe vs vs1) := fun w σ H env st Q he r p => by
  refine ⟨w, env, st, he, r, Post.bind (rel := WalkR K T) p fun w1 J H1 it st1 s1 r1 wk p1 => ?_⟩
  obtain ⟨items, g⟩ := it
  intro L hL
  have p' : Post K T E Dat w1 H1 ((noex (lc2Run g lg ft fi1 lg1 ft1 fe vs1 (wipeD env vs) items st1)).bind fun ys st2 => if ys.length ≤ lim then .ok (.ref st2.length) (st2 ++ [.lst ys]) else .stuck) Q := p1
  cases q : lc2Run g lg ft fi1 lg1 ft1 fe vs1 (wipeD env vs) items st1 with
  | ok ys st2 =>
    rw [q] at p'
    have p2 : Post K T E Dat w1 H1 (if ys.length ≤ lim then .ok (.ref st2.length) (st2 ++ [.lst ys]) else .stuck) Q := p'
    by_cases hl : ys.length ≤ lim
    · rw [if_pos hl] at p2
      refine lc2_run (fi := fi) (he.mono s1.le) r1 wk q hl hL fun w' H' acc a => ?_
      obtain ⟨s2, r2, d2⟩ := a.doneC hL
      exact p2 _ _ _ s2 r2 d2
    · rw [if_neg hl] at p2
      exact p2.elim
  | ex x st2 => rw [q] at p'; exact p'.elim
  | stuck => rw [q] at p'; exact p'.elim
end
/-! ### as rules -/
abbrev PTsf (X : Cx) (T : List (Addr × Str)) (E : XK) (ifs : List Expr) (f : LT) : Prop := PTs X ifs (tOf X.K T E eqB f)
def fYes : LT := fun _ st => .ok true st
section
variable {X : Cx} {T : List (Addr × Str)} {E : XK} {pos : Pos}
theorem x_ts0 : PTsf X T E [] fYes := ⟨fun pins st σ H Q I x => pts_nil.run pins st σ H Q I (by
  obtain ⟨w, env, s', e, r, p⟩ := x
  exact p.here r rfl)⟩
theorem x_ts1 {c : Expr} {f : LT} (h : PTf X T E c f) : PTsf X T E [c] f := pts_one h
variable {elt tg iter tg1 iter1 : Expr} {ifs ifs1 : List Expr} {scope : Scope} {own : List (Str × Nat)} {fi fi1 : LI} {lg lg1 : LG} {ft ft1 : LT} {fe : LE} {vs1 : List Nat}
theorem x_lc (hc : X.calm = true) (hN : X.N.Nodup) (hi : PIf X T E tg iter fi) (ok : BlkOk X.N X.env.scope scope own)
    (hg : ∀ (s : Shared) (H : Hp) (C : Addr) (cl : List (Str × Addr)) (fp : List Addr), PGf (X.blk s H scope (compEnvC scope cl C X.env) fp) T EN (some (own.map (·.2))) tg lg) (ht : ∀ (s : Shared) (H : Hp) (C : Addr) (cl : List (Str × Addr)) (fp : List Addr), PTsf (X.blk s H scope (compEnvC scope cl C X.env) fp) T EN ifs ft)
    (he : ∀ (s : Shared) (H : Hp) (C : Addr) (cl : List (Str × Addr)) (fp : List Addr), PEf (X.blk s H scope (compEnvC scope cl C X.env) fp) T EN elt fe) (hs : ∀ x, foldedSetIterable iter X.env x = pure x := by intro _; rfl) :
    PEf X T E (.ListComp elt [⟨tg, iter, ifs, 0⟩] scope pos) (fLc fi lg ft fe (own.map (·.2))) := pe_to (pe_lc hc hN hi ok hg ht he hs) sim_lc
theorem x_lcC (hc : X.calm = true) (hN : X.N.Nodup) (hi : PIf X T E tg iter fi) (ok : BlkOk X.N X.env.scope scope own)
    (hg : ∀ (s : Shared) (H : Hp) (C : Addr) (cl : List (Str × Addr)) (fp : List Addr), PGf (X.blk s H scope (compEnvC scope cl C X.env) fp) T EN (some (own.map (·.2))) tg lg) (ht : ∀ (s : Shared) (H : Hp) (C : Addr) (cl : List (Str × Addr)) (fp : List Addr), PTsf (X.blk s H scope (compEnvC scope cl C X.env) fp) T EN ifs ft)
    (he : ∀ (s : Shared) (H : Hp) (C : Addr) (cl : List (Str × Addr)) (fp : List Addr), PEf (X.blk s H scope (compEnvC scope cl C X.env) fp) T EN elt fe) (hs : ∀ x, foldedSetIterable iter X.env x = pure x := by intro _; rfl) :
    PEf X T E (.ListComp elt [⟨tg, iter, ifs, 0⟩] scope pos) (fLcC fi lg ft fe (own.map (·.2))) := pe_to (pe_lc hc hN hi ok hg ht he hs) sim_lcC
theorem x_lc2 (hc : X.calm = true) (hN : X.N.Nodup) (hi : PIf X T E tg iter fi) (ok : BlkOk X.N X.env.scope scope own) (hv : ∀ i ∈ vs1, i ∈ own.map (·.2))
    (hg : ∀ (s : Shared) (H : Hp) (C : Addr) (cl : List (Str × Addr)) (fp : List Addr), PGf (X.blk s H scope (compEnvC scope cl C X.env) fp) T EN (some (own.map (·.2))) tg lg) (ht : ∀ (s : Shared) (H : Hp) (C : Addr) (cl : List (Str × Addr)) (fp : List Addr), PTsf (X.blk s H scope (compEnvC scope cl C X.env) fp) T EN ifs ft)
    (hi1 : ∀ (s : Shared) (H : Hp) (C : Addr) (cl : List (Str × Addr)) (fp : List Addr), PIf (X.blk s H scope (compEnvC scope cl C X.env) fp) T EN tg1 iter1 fi1)
    (hg1 : ∀ (s : Shared) (H : Hp) (C : Addr) (cl : List (Str × Addr)) (fp : List Addr), PGf (X.blk s H scope (compEnvC scope cl C X.env) fp) T EN (some vs1) tg1 lg1) (ht1 : ∀ (s : Shared) (H : Hp) (C : Addr) (cl : List (Str × Addr)) (fp : List Addr), PTsf (X.blk s H scope (compEnvC scope cl C X.env) fp) T EN ifs1 ft1)
    (he : ∀ (s : Shared) (H : Hp) (C : Addr) (cl : List (Str × Addr)) (fp : List Addr), PEf (X.blk s H scope (compEnvC scope cl C X.env) fp) T EN elt fe) (hs : ∀ x, foldedSetIterable iter X.env x = pure x := by intro _; rfl) (hs1 : ∀ env x, foldedSetIterable iter1 env x = pure x := by intro _ _; rfl) :
    PEf X T E (.ListComp elt [⟨tg, iter, ifs, 0⟩, ⟨tg1, iter1, ifs1, 0⟩] scope pos) (fLc2 fi lg ft fi1 lg1 ft1 fe (own.map (·.2)) vs1) := pe_to (pe_lc2 hc hN hi ok hv hg ht hi1 hg1 ht1 he hs hs1) sim_lc2
/-- name = [..] on one line -/
theorem s_setLc {i : Nat} {y : Str} {py spos : Pos} (hc : X.calm = true) (hN : X.N.Nodup) (hi : PIf X T E tg iter fi) (ok : BlkOk X.N X.env.scope scope own)
    (hg : ∀ (s : Shared) (H : Hp) (C : Addr) (cl : List (Str × Addr)) (fp : List Addr), PGf (X.blk s H scope (compEnvC scope cl C X.env) fp) T EN (some (own.map (·.2))) tg lg) (ht : ∀ (s : Shared) (H : Hp) (C : Addr) (cl : List (Str × Addr)) (fp : List Addr), PTsf (X.blk s H scope (compEnvC scope cl C X.env) fp) T EN ifs ft)
    (he : ∀ (s : Shared) (H : Hp) (C : Addr) (cl : List (Str × Addr)) (fp : List Addr), PEf (X.blk s H scope (compEnvC scope cl C X.env) fp) T EN elt fe) (hs : ∀ x, foldedSetIterable iter X.env x = pure x := by intro _; rfl)
    (hy : X.N[i]? = some y := by rfl) (hyl : X.env.scope.names.lookup y = some .local := by rfl) (hsw : swapsWith (.ListComp elt [⟨tg, iter, ifs, 0⟩] scope pos) (some (.Name y py)) spos.line X.env = pure true := by exact sw_true rfl rfl rfl (by decide +kernel)) :
    PSf X T (W0 E) (.Assign [.Name y py] (.ListComp elt [⟨tg, iter, ifs, 0⟩] scope pos) spos) (fAsg (fLc fi lg ft fe (own.map (·.2))) (gN i)) := ps_to (ps_setLc hc hN hy hyl hsw hi ok hg ht he hs) fun w σ H env st Dn he r p =>
  sim_lc w σ H env st _ he r (PostS.go (fun _ _ _ h => h) he p fun w1 x H1 d st1 s1 r1 dx p1 => p1 w1 _ H1 (Stp.refl w1 H1) ((he.mono s1.le).set i dx) r1)
theorem s_setLcC {i : Nat} {y : Str} {py spos : Pos} (hc : X.calm = true) (hN : X.N.Nodup) (hi : PIf X T E tg iter fi) (ok : BlkOk X.N X.env.scope scope own)
    (hg : ∀ (s : Shared) (H : Hp) (C : Addr) (cl : List (Str × Addr)) (fp : List Addr), PGf (X.blk s H scope (compEnvC scope cl C X.env) fp) T EN (some (own.map (·.2))) tg lg) (ht : ∀ (s : Shared) (H : Hp) (C : Addr) (cl : List (Str × Addr)) (fp : List Addr), PTsf (X.blk s H scope (compEnvC scope cl C X.env) fp) T EN ifs ft)
    (he : ∀ (s : Shared) (H : Hp) (C : Addr) (cl : List (Str × Addr)) (fp : List Addr), PEf (X.blk s H scope (compEnvC scope cl C X.env) fp) T EN elt fe) (hs : ∀ x, foldedSetIterable iter X.env x = pure x := by intro _; rfl)
    (hy : X.N[i]? = some y := by rfl) (hyl : X.env.scope.names.lookup y = some .local := by rfl) (hsw : swapsWith (.ListComp elt [⟨tg, iter, ifs, 0⟩] scope pos) (some (.Name y py)) spos.line X.env = pure true := by exact sw_true rfl rfl rfl (by decide +kernel)) :
    PSf X T (W0 E) (.Assign [.Name y py] (.ListComp elt [⟨tg, iter, ifs, 0⟩] scope pos) spos) (fAsg (fLcC fi lg ft fe (own.map (·.2))) (gN i)) := ps_to (ps_setLc hc hN hy hyl hsw hi ok hg ht he hs) fun w σ H env st Dn he r p =>
  sim_lcC w σ H env st _ he r (PostS.go (fun _ _ _ h => h) he p fun w1 x H1 d st1 s1 r1 dx p1 => p1 w1 _ H1 (Stp.refl w1 H1) ((he.mono s1.le).set i dx) r1)
theorem s_setLc2 {i : Nat} {y : Str} {py spos : Pos} (hc : X.calm = true) (hN : X.N.Nodup) (hi : PIf X T E tg iter fi) (ok : BlkOk X.N X.env.scope scope own) (hv : ∀ i ∈ vs1, i ∈ own.map (·.2))
    (hg : ∀ (s : Shared) (H : Hp) (C : Addr) (cl : List (Str × Addr)) (fp : List Addr), PGf (X.blk s H scope (compEnvC scope cl C X.env) fp) T EN (some (own.map (·.2))) tg lg) (ht : ∀ (s : Shared) (H : Hp) (C : Addr) (cl : List (Str × Addr)) (fp : List Addr), PTsf (X.blk s H scope (compEnvC scope cl C X.env) fp) T EN ifs ft)
    (hi1 : ∀ (s : Shared) (H : Hp) (C : Addr) (cl : List (Str × Addr)) (fp : List Addr), PIf (X.blk s H scope (compEnvC scope cl C X.env) fp) T EN tg1 iter1 fi1)
    (hg1 : ∀ (s : Shared) (H : Hp) (C : Addr) (cl : List (Str × Addr)) (fp : List Addr), PGf (X.blk s H scope (compEnvC scope cl C X.env) fp) T EN (some vs1) tg1 lg1) (ht1 : ∀ (s : Shared) (H : Hp) (C : Addr) (cl : List (Str × Addr)) (fp : List Addr), PTsf (X.blk s H scope (compEnvC scope cl C X.env) fp) T EN ifs1 ft1)
    (he : ∀ (s : Shared) (H : Hp) (C : Addr) (cl : List (Str × Addr)) (fp : List Addr), PEf (X.blk s H scope (compEnvC scope cl C X.env) fp) T EN elt fe) (hs : ∀ x, foldedSetIterable iter X.env x = pure x := by intro _; rfl) (hs1 : ∀ env x, foldedSetIterable iter1 env x = pure x := by intro _ _; rfl)
    (hy : X.N[i]? = some y := by rfl) (hyl : X.env.scope.names.lookup y = some .local := by rfl) (hsw : swapsWith (.ListComp elt [⟨tg, iter, ifs, 0⟩, ⟨tg1, iter1, ifs1, 0⟩] scope pos) (some (.Name y py)) spos.line X.env = pure true := by exact sw_true rfl rfl rfl (by decide +kernel)) :
    PSf X T (W0 E) (.Assign [.Name y py] (.ListComp elt [⟨tg, iter, ifs, 0⟩, ⟨tg1, iter1, ifs1, 0⟩] scope pos) spos) (fAsg (fLc2 fi lg ft fi1 lg1 ft1 fe (own.map (·.2)) vs1) (gN i)) := ps_to (ps_setLc2 hc hN hy hyl hsw hi ok hv hg ht hi1 hg1 ht1 he hs hs1) fun w σ H env st Dn he r p =>
  sim_lc2 w σ H env st _ he r (PostS.go (fun _ _ _ h => h) he p fun w1 x H1 d st1 s1 r1 dx p1 => p1 w1 _ H1 (Stp.refl w1 H1) ((he.mono s1.le).set i dx) r1)
end
end Fk
/-! FkG: fields, calls, methods, making, raising, a def; stores to lists. -/
namespace Fk
open PySem PySem.Spec PyProof.Rows L2
/-! ### fields -/
def putD (f : Str) (v : D) : List (Str × D) → List (Str × D)
  | [] => [(f, v)]
  | (g, x) :: r => if g = f then (g, v) :: r else (g, x) :: putD f v r
abbrev Flds (w : Wd) (us : List (Str × V)) (fs : List (Str × D)) : Prop := us.map (·.1) = fs.map (·.1) ∧ Dats w (us.map (·.2)) (fs.map (·.2))
theorem Flds.length {w : Wd} {us : List (Str × V)} {fs : List (Str × D)} (h : Flds w us fs) : us.length = fs.length := by
  have := congrArg List.length h.1
  simpa using this
theorem Flds.look {w : Wd} : ∀ {us : List (Str × V)} {fs : List (Str × D)}, Flds w us fs → ∀ f, (fs.lookup f = none → us.lookup f = none) ∧ ∀ d, fs.lookup f = some d → ∃ v, us.lookup f = some v ∧ Dat w v d
  | [], [], _, f => ⟨fun _ => rfl, fun d h => by cases h⟩
  | [], _ :: _, h, f => by cases h.1
  | _ :: _, [], h, f => by cases h.1
  | (g, v) :: us, (g', d) :: fs, h, f => by
    obtain ⟨h1, h2⟩ := h
    rw [List.map_cons, List.map_cons] at h1 h2
    cases h2 with
    | cons hd hr =>
      obtain ⟨e1, e2⟩ := List.cons.inj h1
      have ih := Flds.look (us := us) (fs := fs) ⟨e2, hr⟩ f
      have e1 : g = g' := e1
      subst e1
      by_cases q : (f == g) = true
      · refine ⟨fun z => ?_, fun d' z => ?_⟩
        · rw [List.lookup_cons, q] at z
          cases z
        · rw [List.lookup_cons, q] at z
          cases z
          refine ⟨v, ?_, hd⟩
          rw [List.lookup_cons, q]
      · have q' : (f == g) = false := by simpa using q
        refine ⟨fun z => ?_, fun d' z => ?_⟩
        · rw [List.lookup_cons, q'] at z ⊢
          exact ih.1 z
        · rw [List.lookup_cons, q'] at z ⊢
          exact ih.2 d' z
theorem Flds.put {w : Wd} {f : Str} {v : V} {d : D} (hd : Dat w v d) : ∀ {us : List (Str × V)} {fs : List (Str × D)}, Flds w us fs → Flds w (putF f v us) (putD f d fs)
  | [], [], _ => ⟨rfl, .one hd⟩
  | [], _ :: _, h => by cases h.1
  | _ :: _, [], h => by cases h.1
  | (g, u) :: us, (g', e) :: fs, h => by
    obtain ⟨h1, h2⟩ := h
    rw [List.map_cons, List.map_cons] at h1 h2
    cases h2 with
    | cons he hr =>
      obtain ⟨e1, e2⟩ := List.cons.inj h1
      have e1 : g = g' := e1
      subst e1
      have ih := Flds.put (f := f) hd (us := us) (fs := fs) ⟨e2, hr⟩
      unfold putF putD
      by_cases q : g = f
      · rw [if_pos q, if_pos q]
        exact ⟨by simp only [List.map_cons]; rw [e2], .cons hd hr⟩
      · rw [if_neg q, if_neg q]
        exact ⟨by simp only [List.map_cons]; rw [ih.1], .cons he ih.2⟩
/-- what stands at an instance -/
def insOf (c : Str) (d : D) (st : Store) : Option (Nat × List (Str × D)) := match d with
  | .ref k => (match st[k]? with
    | some (.ins c' fs) => if c' = c then some (k, fs) else none
    | _ => none)
  | _ => none
section
variable {K : PySem.W.Frag} {T : List (Addr × Str)} {w : Wd} {H : Hp} {st : Store}
theorem ins_at {c : Str} {x : V} {d : D} {k : Nat} {fs : List (Str × D)} (r : Rel K T w H st) (h : Dat w x d) (e : insOf c d st = some (k, fs)) : ∃ p dx us, x = .ref p ∧ w.ads[k]? = some p ∧ st[k]? = some (.ins c fs) ∧ H p = some (.ins (He.ga K c) dx us) ∧ Flds w us fs := by
  cases h with
  | @ref p j ha =>
    have e' : (match st[j]? with | some (.ins c' fs) => if c' = c then some (j, fs) else none | _ => none) = some (k, fs) := e
    cases q : st[j]? with
    | none => rw [q] at e'; cases e'
    | some cl =>
      rw [q] at e'
      cases cl with
      | ins c' fs' =>
        have e2 : (if c' = c then some (j, fs') else none) = some (k, fs) := e'
        by_cases z : c' = c
        · rw [if_pos z] at e2
          cases e2
          subst z
          obtain ⟨p', a', _, dx, us, hH, h1, h2⟩ := r.addr q
          rw [ha] at a'
          cases a'
          exact ⟨p, dx, us, rfl, ha, q, hH, h1, h2⟩
        · rw [if_neg z] at e2
          cases e2
      | _ => cases e'
  | _ => cases e
theorem Rel.putIns (r : Rel K T w H st) {c : Str} {k : Nat} {p dx : Addr} {fs fs' : List (Str × D)} {us us' : List (Str × V)} (ha : w.ads[k]? = some p) (hs : st[k]? = some (.ins c fs)) (hH : H p = some (.ins (He.ga K c) dx us)) (hf : Flds w us' fs') :
    Stp w H w (upd H p (.ins (He.ga K c) dx us')) ∧ Rel K T w (upd H p (.ins (He.ga K c) dx us')) (st.set k (.ins c fs')) :=
  r.put hs (by simp) ha ⟨(r.at_ k _ p hs ha).1, dx, us', upd_same, hf⟩
end
def oFld (c f : Str) : O1 := fun d st => match insOf c d st with
  | some (_, fs) => (match fs.lookup f with
    | some z => .ok z st
    | none => .stuck)
  | none => .stuck
def fSetF (c f : Str) (fv fa : LE) : LS := fun env st => (fv env st).go env fun y st1 => (fa env st1).go env fun d st2 => match insOf c d st2 with
  | some (k, fs) => if fs.length < 1000 then .nx env (st2.set k (.ins c (putD f y fs))) else .stuck
  | none => .stuck
def fAugF (c f : Str) (o : O2) (fa fv : LE) : LS := fun env st => (fa env st).go env fun d st1 => match insOf c d st1 with
  | some (_, fs) => (match fs.lookup f with
    | some z => (fv env st1).go env fun y st2 => (o z y st2).go env fun u st3 => (match insOf c d st3 with
      | some (k, fs') => if fs'.length < 1000 then .nx env (st3.set k (.ins c (putD f u fs'))) else .stuck
      | none => .stuck)
    | none => .stuck)
  | none => .stuck
section
variable {X : Cx} {T : List (Addr × Str)} {E : XK} {pos pos' tpos : Pos} {e o value : Expr} {fa fv : LE} {f c : Str}
theorem x_fld (cl : Cls X.K (He.ga X.K c)) (na : NoAttr X.K (He.ga X.K c) f) (he : PEf X T E e fa) (hb : attributeBase e f X.env (eval e X.env) = eval e X.env := by rfl) : PEf X T E (.Attribute e f pos) (fUn (oFld c f) fa) := pe_to (pe_fld he hb) fun w σ H env st Q he0 r p => by
  refine ⟨w, env, st, he0, r, p.bind fun w1 x H1 d st1 s1 r1 dx p1 => ?_⟩
  unfold oFld at p1
  cases q : insOf c d st1 with
  | none => rw [q] at p1; exact p1.elim
  | some kf =>
    obtain ⟨k, fs⟩ := kf
    rw [q] at p1
    dsimp only at p1
    cases q2 : fs.lookup f with
    | none => rw [q2] at p1; exact p1.elim
    | some z =>
      rw [q2] at p1
      obtain ⟨a, dx', us, rfl, _, _, hH, hf⟩ := ins_at r1 dx q
      obtain ⟨v, h1, h2⟩ := (hf.look f).2 z q2
      exact ⟨a, _, dx', us, v, rfl, hH, cl, na, h1, p1.here r1 h2⟩
theorem s_setF (cl : Cls X.K (He.ga X.K c)) (na : NoAttr X.K (He.ga X.K c) f) (ha : PEf X T E o fa) (hv : PEf X T E value fv) (hs : swapsWith value (some (.Attribute o f pos')) pos.line X.env = pure false := by rfl) : PSf X T (W0 E) (.Assign [.Attribute o f pos'] value pos) (fSetF c f fv fa) := ps_to (ps_fld ha hv hs) fun w σ H env st Dn he r p => by
  refine ⟨w, env, st, he, r, PostS.go (fun _ _ _ h => h) he p fun w1 y H1 dy st1 s1 r1 dyv p1 => ?_⟩
  refine ⟨w1, env, st1, he.mono s1.le, r1, PostS.go (fun _ _ _ h => h) (he.mono s1.le) p1 fun w2 x H2 d st2 s2 r2 dx p2 => ?_⟩
  cases q : insOf c d st2 with
  | none => rw [q] at p2; exact p2.elim
  | some kf =>
    obtain ⟨k, fs⟩ := kf
    rw [q] at p2
    have p3 : PostS X.K T (W0 E) w2 H2 (if fs.length < 1000 then .nx env (st2.set k (.ins c (putD f dy fs))) else .stuck) Dn := p2
    by_cases z : fs.length < 1000
    · rw [if_pos z] at p3
      obtain ⟨a, dx', us, rfl, ha', hs', hH, hf⟩ := ins_at r2 dx q
      obtain ⟨s3, r3⟩ := r2.putIns ha' hs' hH (hf.put (f := f) (dyv.mono s2.le))
      exact ⟨a, _, dx', us, rfl, hH, cl, na, by rw [hf.length]; exact z, p3 w2 σ _ s3 ((he.mono s1.le).mono s2.le) r3⟩
    · rw [if_neg z] at p3
      exact p3.elim
theorem s_augF {op : Operator} {rd : V → V → Hp → VK → Prop} {oo : O2} (cl : Cls X.K (He.ga X.K c)) (na : NoAttr X.K (He.ga X.K c) f) (ha : PEf X T E o fa) (hv : PEf X T E value fv) (hop : InOp X op rd) (so : SimR2 X.K T rd oo) : PSf X T (W0 E) (.AugAssign (.Attribute o f tpos) op value pos) (fAugF c f oo fa fv) := ps_to (ps_fldaug ha hv hop) fun w σ H env st Dn he r p => by
  refine ⟨w, env, st, he, r, PostS.go (fun _ _ _ h => h) he p fun w1 x H1 d st1 s1 r1 dx p1 => ?_⟩
  cases q : insOf c d st1 with
  | none => rw [q] at p1; exact p1.elim
  | some kf =>
    obtain ⟨k, fs⟩ := kf
    rw [q] at p1
    dsimp only at p1
    cases q2 : fs.lookup f with
    | none => rw [q2] at p1; exact p1.elim
    | some z =>
      rw [q2] at p1
      dsimp only at p1
      obtain ⟨a, dx', us, rfl, _, _, hH, hf⟩ := ins_at r1 dx q
      obtain ⟨v, h1, h2⟩ := (hf.look f).2 z q2
      refine ⟨a, _, dx', us, v, rfl, hH, cl, na, h1, w1, env, st1, he.mono s1.le, r1, PostS.go (fun _ _ _ h => h) (he.mono s1.le) p1 fun w2 y H2 dy st2 s2 r2 dyv p2 => ?_⟩
      refine so E w2 H2 st2 v y z dy _ r2 (h2.mono s2.le) dyv (PostS.go (fun _ _ _ h => h) ((he.mono s1.le).mono s2.le) p2 fun w3 u H3 du st3 s3 r3 duv p3 => ?_)
      cases q3 : insOf c d st3 with
      | none => rw [q3] at p3; exact p3.elim
      | some kf3 =>
        obtain ⟨k3, fs3⟩ := kf3
        rw [q3] at p3
        have p4 : PostS X.K T (W0 E) w3 H3 (if fs3.length < 1000 then .nx env (st3.set k3 (.ins c (putD f du fs3))) else .stuck) Dn := p3
        by_cases z3 : fs3.length < 1000
        · rw [if_pos z3] at p4
          obtain ⟨a3, dx3, us3, ea, ha3, hs3, hH3, hf3⟩ := ins_at r3 ((dx.mono s2.le).mono s3.le) q3
          cases ea
          obtain ⟨s4, r4⟩ := r3.putIns ha3 hs3 hH3 (hf3.put (f := f) duv)
          exact ⟨dx3, us3, hH3, by rw [hf3.length]; exact z3, p4 w3 σ _ s4 (((he.mono s1.le).mono s2.le).mono s3.le) r4⟩
        · rw [if_neg z3] at p4
          exact p4.elim
end
/-! ### defs -/
abbrev FM := List D → Store → Res D
def runB (n : Nat) (f : LS) : FM := fun ds st => match f (ds.map some ++ List.replicate (n - ds.length) none) st with
  | .nx _ s => .ok .non s
  | .rt d s => .ok d s
  | .ex x _ s => .ex x s
  | _ => .stuck
def spOf (K : PySem.W.Frag) (T : List (Addr × Str)) (n : Nat) (f : FM) : Sp := fun vs H Q E => vs.length = n ∧ ∃ w ds st, Dats w vs ds ∧ Rel K T w H st ∧ Post K T E Dat w H (f ds st) Q
/-- a def of the module, or a method, does as f says; by at most j calls, one in another -/
structure FoP (P : Program) (w : World) (K : PySem.W.Frag) (mg : Str → Option Value) (base : Heap) (T : List (Addr × Str)) (j : Nat) (a : Str × Option Str) (n : Nat) (f : FM) : Prop where
  ex : ∃ (fd : FuncData) (ps : List Str), FnOk P w K mg base (L2.CX P w) j (He.fAd K a) fd ps (spOf K T n f) ∧ Binds K fd ps []
  kp : PySem.W.keepIn K (.ref (He.fAd K a)) = true
theorem FoP.imp {P : Program} {w : World} {K : PySem.W.Frag} {mg : Str → Option Value} {base : Heap} {T : List (Addr × Str)} {j : Nat} {a : Str × Option Str} {n : Nat} {f g : FM} (F : FoP P w K mg base T j a n f)
    (h : ∀ w H ds st E Q vs, Dats w vs ds → Rel K T w H st → Post K T E Dat w H (g ds st) Q → Post K T E Dat w H (f ds st) Q) : FoP P w K mg base T j a n g := by
  obtain ⟨⟨fd, ps, F1, b⟩, kp⟩ := F
  exact ⟨⟨fd, ps, F1.imp fun vs H Q E ⟨hl, w, ds, st, hv, r, p⟩ => ⟨hl, w, ds, st, hv, r, h w H ds st E Q vs hv r p⟩, b⟩, kp⟩
theorem start_env {w : Wd} {N : List Str} {vs : List V} {ds : List D} (h : Dats w vs ds) : EnvR w (L2.start N vs) (ds.map some ++ List.replicate (N.length - ds.length) none) := by
  refine ⟨by unfold L2.start; simp [h.length], fun i d hi => ?_⟩
  by_cases q : i < ds.length
  · rw [List.getElem?_append_left (by simpa using q), List.getElem?_map] at hi
    cases e : ds[i]? with
    | none => rw [e] at hi; cases hi
    | some d' =>
      rw [e] at hi
      cases hi
      obtain ⟨v, h1, h2⟩ := h.get e
      refine ⟨v, ?_, h2⟩
      unfold L2.start
      rw [List.getElem?_append_left (by rw [List.length_map, h.length]; exact q), List.getElem?_map, h1] <;> rfl
  · rw [List.getElem?_append_right (by simpa using q)] at hi
    rw [List.getElem?_replicate] at hi
    split at hi <;> cases hi
section
variable {P : Program} {w : World} {K : PySem.W.Frag} {mg : Str → Option Value} {base : Heap} {T : List (Addr × Str)} {name qual : Str} {params : Arguments} {body : List Stmt} {scope : Scope} {dvs : List V} {kws : List (Str × V)} {f : Addr} {fd : FuncData} {N ps : List Str} {k : Nat} {fb : LS}
/-- THE RULE for a def -/
theorem fn_def (F : FunD K name qual params body scope dvs kws f fd) (S : FnScope N ps scope)
    (h : ∀ (cdv : Value) (A : Around) (outer : List Env) (s : Shared) (H : Hp) (E : XK), Room k (A.deeper (envOfC qual scope s.heap.objs.size f cdv)) →
      PSsf (cxOf (L2.CX P w) P w K mg base N qual scope f cdv A outer s H E) T (W0 E) body fb) : FnOk P w K mg base (L2.CX P w) (k + 1) f fd ps (spOf K T ps.length (runB N.length fb)) := by
  refine FunD.ok F S (fun vs H Q E h => h.1) fun cdv A outer s H vs Q E hr hsp => ⟨_, h cdv A outer s H E hr, ?_⟩
  obtain ⟨hl, w0, ds, st, hv, r, p⟩ := hsp
  refine ⟨w0, _, st, start_env (N := N) hv, r, ?_⟩
  unfold runB at p
  cases q : fb (ds.map some ++ List.replicate (N.length - ds.length) none) st with
  | nx e s1 =>
    rw [q] at p
    exact fun w' σ' H' s' e' r' => p w' .non H' s' r' .non
  | rt d s1 =>
    rw [q] at p
    exact fun w' v H' s' r' dv => p w' v H' s' r' dv
  | ex x e s1 =>
    rw [q] at p
    exact fun w' c od σ' H' s' e' r' z => p w' c od H' s' r' z
  | bk e s1 => rw [q] at p; exact p.elim
  | ct e s1 => rw [q] at p; exact p.elim
  | stuck => rw [q] at p; exact p.elim
theorem fo_def {a : Str × Option Str} (F : FunD K name qual params body scope [] [] (He.fAd K a) fd) (S : FnScope N ps scope)
    (hb : ∀ (kV doc pm : Value) (an : Option Addr) (cdv ct : Value) (us : List Value), us.length = ps.length → bindArgs (PySem.W.fnOf name qual params body scope .none kV doc pm an cdv ct) ⟨us, []⟩ = pure (ps.zip us))
    (h : ∀ (cdv : Value) (A : Around) (outer : List Env) (s : Shared) (H : Hp) (E : XK), Room k (A.deeper (envOfC qual scope s.heap.objs.size (He.fAd K a) cdv)) →
      PSsf (cxOf (L2.CX P w) P w K mg base N qual scope (He.fAd K a) cdv A outer s H E) T (W0 E) body fb) : FoP P w K mg base T (k + 1) a ps.length (runB N.length fb) := ⟨⟨fd, ps, fn_def F S h, F.bindsN hb⟩, F.kp⟩
end
/-- what calls and loops want in a body -/
theorem px_of {P : Program} {w : World} {K : PySem.W.Frag} {mg : Str → Option Value} {base : Heap} {N : List Str} {qual : Str} {scope : Scope} {f : Addr} {cd : Value} {A : Around} {outer : List Env} {s : Shared} {H : Hp} {E : XK} :
    Passes (L2.CX P w) (cxOf (L2.CX P w) P w K mg base N qual scope f cd A outer s H E) E := passes_call (takes_of rfl rfl rfl rfl) fun _ _ _ _ h => h
theorem tk_of {P : Program} {w : World} {K : PySem.W.Frag} {mg : Str → Option Value} {base : Heap} {N : List Str} {qual : Str} {scope : Scope} {f : Addr} {cd : Value} {A : Around} {outer : List Env} {s : Shared} {H : Hp} {E : XK} :
    Takes (cxOf (L2.CX P w) P w K mg base N qual scope f cd A outer s H E) (W0 E) := takes_of rfl rfl rfl rfl
theorem po_of {P : Program} {w : World} {K : PySem.W.Frag} {mg : Str → Option Value} {base : Heap} {N : List Str} {qual : Str} {scope : Scope} {f : Addr} {cd : Value} {A : Around} {outer : List Env} {s : Shared} {H : Hp} {E : XK} :
    PassesOwn (model P w) (cxOf (L2.CX P w) P w K mg base N qual scope f cd A outer s H E).A (cxOf (L2.CX P w) P w K mg base N qual scope f cd A outer s H E).env (cxOf (L2.CX P w) P w K mg base N qual scope f cd A outer s H E).xe := passes_of rfl
/-! ### calls -/
def fCall (n : Nat) (fm : FM) (g : LA) : LE := fun env st => (g env st).bind fun ds st1 => if ds.length = n then fm ds st1 else .stuck
def fMeth (c m : Str) (n : Nat) (fm : FM) (fa : LE) (g : LA) : LE := fun env st => (fa env st).bind fun d st1 => match insOf c d st1 with
  | some (_, fs) => (match fs.lookup m with
    | none => (g env st1).bind fun ds st2 => if ds.length + 1 = n then fm (d :: ds) st2 else .stuck
    | some _ => .stuck)
  | none => .stuck
def fMake (c : Str) (n : Nat) (fm : FM) (g : LA) : LE := fun env st => (g env st).bind fun ds st1 => if ds.length + 1 = n then (fm (.ref st1.length :: ds) (st1 ++ [.ins c []])).bind fun z st2 => (match z with
  | .non => .ok (.ref st1.length) st2
  | _ => .stuck) else .stuck
section
variable {X : Cx} {T : List (Addr × Str)} {E : XK} {pos p apos : Pos} {x m c : Str} {j k n : Nat} {fm : FM} {g : LA} {e o : Expr} {es : List Expr} {fa : LE}
theorem sim_call {K : PySem.W.Frag} {g : LA} : Sim K T E Dat (tCall (spOf K T n fm) [] E (tOf K T E Dats g)) (fCall n fm g) := fun w σ H env st Q he r p => by
  refine ⟨w, env, st, he, r, p.bind fun w1 vs H1 ds st1 s1 r1 dv p1 => ?_⟩
  by_cases q : ds.length = n
  · rw [if_pos q] at p1
    rw [List.append_nil]
    exact ⟨by rw [dv.length, q], w1, ds, st1, dv, r1, p1⟩
  · rw [if_neg q] at p1
    exact p1.elim
theorem x_call (F : FoP X.prog X.w X.K X.mg X.base T j (x, none) n fm) (hr : Room k X.A) (px : Passes (L2.CX X.prog X.w) X E) (hm : X.mg x = some (.ref (He.ga X.K x))) (ha : PAf X T E (e :: es) g) (hjk : j ≤ k := by decide) (hg : Gl X x := by rfl)
    (hdb : (x == ("__debug__" : Str)) = false := by decide) (he : starEach (e :: es) X.env = (false, eval e X.env) :: starEach es X.env := by rfl) (hpl : (backTo pos (starEach es X.env)).any (·.1) = false := by rfl) :
    PEf X T E (.Call (.Name x p) (e :: es) [] pos) (fCall n fm g) := by
  obtain ⟨⟨fd, ps, F1, b⟩, kp⟩ := F
  exact pe_to (pe_call F1 (hr.mono hjk) hg hm kp b .nil px ha hdb he hpl) sim_call
theorem x_meth {pl : Sem Bool} (F : FoP X.prog X.w X.K X.mg X.base T j (c, some m) n fm) (hr : Room k X.A) (px : Passes (L2.CX X.prog X.w) X E) (cl : Cls X.K (He.ga X.K c)) (hm : Meth X.K (He.ga X.K c) m (He.ma X.K (He.ga X.K c) m)) (ho : PEf X T E o fa) (ha : PAf X T E (e :: es) g) (hjk : j ≤ k := by decide)
    (hst : starEach (e :: es) X.env = (false, eval e X.env) :: starEach es X.env := by rfl) (hpl : (backTo pos (starEach es X.env)).any (·.1) = false := by rfl)
    (ht : eval (.Call (.Attribute o m apos) (e :: es) [] pos) X.env = (do
      let ov ← eval o X.env
      standAt apos.atName
      let (f, first) ← holding [ov] (getMethod ov m pl)
      callWith pos f first (backTo pos (starEach (e :: es) X.env)) (backToKw pos (keywordEach [] X.env))) := by rfl) :
    PEf X T E (.Call (.Attribute o m apos) (e :: es) [] pos) (fMeth c m n fm fa g) := by
  obtain ⟨⟨fd, ps, F1, b⟩, kp⟩ := F
  refine pe_to (pe_meth ho cl hm F1 (hr.mono hjk) b .nil px ha hst hpl ht) fun w σ H env st Q he r p => ?_
  refine ⟨w, env, st, he, r, p.bind fun w1 y H1 d st1 s1 r1 dx p1 => ?_⟩
  cases q : insOf c d st1 with
  | none => rw [q] at p1; exact p1.elim
  | some kf =>
    obtain ⟨k, fs⟩ := kf
    rw [q] at p1
    dsimp only at p1
    cases q2 : fs.lookup m with
    | some _ => rw [q2] at p1; exact p1.elim
    | none =>
      rw [q2] at p1
      dsimp only at p1
      obtain ⟨a, dx', us, rfl, _, _, hH, hf⟩ := ins_at r1 dx q
      refine ⟨a, dx', us, rfl, hH, (hf.look m).1 q2, w1, env, st1, he.mono s1.le, r1, p1.bind fun w2 vs H2 ds st2 s2 r2 dv p2 => ?_⟩
      by_cases z : ds.length + 1 = n
      · rw [if_pos z] at p2
        rw [List.append_nil]
        exact ⟨by rw [List.length_cons, dv.length, z], w2, d :: ds, st2, .cons (dx.mono s2.le) dv, r2, p2⟩
      · rw [if_neg z] at p2
        exact p2.elim
theorem x_meth0 {pl : Sem Bool} (F : FoP X.prog X.w X.K X.mg X.base T j (c, some m) 1 fm) (hr : Room k X.A) (px : Passes (L2.CX X.prog X.w) X E) (cl : Cls X.K (He.ga X.K c)) (hm : Meth X.K (He.ga X.K c) m (He.ma X.K (He.ga X.K c) m)) (ho : PEf X T E o fa) (hjk : j ≤ k := by decide)
    (ht : eval (.Call (.Attribute o m apos) [] [] pos) X.env = (do
      let ov ← eval o X.env
      standAt apos.atName
      let (f, first) ← holding [ov] (getMethod ov m pl)
      callWith pos f first (backTo pos (starEach [] X.env)) (backToKw pos (keywordEach [] X.env))) := by rfl) :
    PEf X T E (.Call (.Attribute o m apos) [] [] pos) (fMeth c m 1 fm fa fNil) := by
  obtain ⟨⟨fd, ps, F1, b⟩, kp⟩ := F
  refine pe_to (pe_meth0 ho cl hm F1 (hr.mono hjk) b .nil px ht) fun w σ H env st Q he r p => ?_
  refine ⟨w, env, st, he, r, p.bind fun w1 y H1 d st1 s1 r1 dx p1 => ?_⟩
  cases q : insOf c d st1 with
  | none => rw [q] at p1; exact p1.elim
  | some kf =>
    obtain ⟨k, fs⟩ := kf
    rw [q] at p1
    dsimp only at p1
    cases q2 : fs.lookup m with
    | some _ => rw [q2] at p1; exact p1.elim
    | none =>
      rw [q2] at p1
      dsimp only at p1
      obtain ⟨a, dx', us, rfl, _, _, hH, hf⟩ := ins_at r1 dx q
      exact ⟨a, dx', us, rfl, hH, (hf.look m).1 q2, rfl, w1, [d], st1, .one dx, r1, p1⟩
theorem x_make (M : Mk X.K (He.ga X.K c) (He.ma X.K (He.ga X.K c) "__init__")) (F : FoP X.prog X.w X.K X.mg X.base T j (c, some "__init__") n fm) (hr : Room k X.A) (px : Passes (L2.CX X.prog X.w) X E) (hm : X.mg c = some (.ref (He.ga X.K c))) (ha : PAf X T E (e :: es) g) (hjk : j + 1 ≤ k := by decide) (hg : Gl X c := by rfl)
    (hdb : (c == ("__debug__" : Str)) = false := by decide) (he : starEach (e :: es) X.env = (false, eval e X.env) :: starEach es X.env := by rfl) (hpl : (backTo pos (starEach es X.env)).any (·.1) = false := by rfl) :
    PEf X T E (.Call (.Name c p) (e :: es) [] pos) (fMake c n fm g) := by
  obtain ⟨⟨fd, ps, F1, b⟩, kp⟩ := F
  refine pe_to (pe_make M F1 (hr.mono hjk) hg hm b .nil px ha hdb he hpl) fun w σ H env st Q he r p => ?_
  refine ⟨w, env, st, he, r, p.bind fun w1 vs H1 ds st1 s1 r1 dv p1 => ?_⟩
  by_cases z : ds.length + 1 = n
  · rw [if_pos z] at p1
    intro a dxa ha hdx hne
    have hk : ∀ b u, H1 b = some u → upd (upd H1 dxa (.own a)) a (.ins (He.ga X.K c) dxa []) b = some u := fun b u h => by
      rw [upd_ne (fun q => by rw [q, ha] at h; cases h), upd_ne (fun q => by rw [q, hdx] at h; cases h)]
      exact h
    obtain ⟨s2, r2⟩ := r1.grown ha hk (c := .ins c []) ⟨r1.freeF ha, dxa, [], upd_same, rfl, .nil⟩
    have dself : Dat ⟨w1.F, w1.ads ++ [a], w1.S⟩ (.ref a) (.ref st1.length) := .ref (by
      show (w1.ads ++ [a])[st1.length]? = some a
      rw [← r1.len]
      simp)
    refine ⟨by rw [List.append_nil, List.length_cons, dv.length, z], _, .ref st1.length :: ds, _, .cons dself (by rw [List.append_nil]; exact dv.mono s2.le), r2, (Post.pull p1 s2).bind fun w3 v H3 d st3 s3 r3 dvv p3 => ?_⟩
    cases dvv with
    | non => exact ⟨rfl, p3.here r3 (dself.mono s3.le)⟩
    | _ => exact p3.elim
  · rw [if_neg z] at p1
    exact p1.elim
/-! ### raising -/
def fRaise (c : Str) : LS := fun env st => .ex ⟨c, none⟩ env st
theorem s_raise {m : Str} {q : Nat} {p2 : Pos} (ex : PySem.W.excIn X.K (He.ga X.K c) He.veBase "ValueError.__new__" = true ∧ PySem.W.keepIn X.K (.ref (He.ga X.K c)) = true ∧ PySem.W.subIn X.K (.ref (He.ga X.K c)) (.type "BaseException") = some true ∧ PySem.W.typeIn X.K (.ref (He.ga X.K c)) = some (.type "type"))
    (hc : X.calm = true) (tk : Takes X (W0 E)) (hm : X.mg c = some (.ref (He.ga X.K c))) (hg : Gl X c := by rfl) (hdb : (c == ("__debug__" : Str)) = false := by decide) :
    PSf X T (W0 E) (.Raise (some (.Call (.Name c p) [.Constant (.str m) q p2] [] apos)) none pos) (fRaise c) :=
  ps_to (ps_raise hc tk (pmk_own PySem.F.excBase_ValueError ex.1 hm ex.2.1 (raises_own ex.2.2.1 ex.2.2.2) hg hdb)) fun w σ H env st Dn he r p => p w _ none σ H (Stp.refl w H) he r ⟨rfl, rfl⟩
end
/-! ### lists that change -/
def cellL (d : D) (st : Store) : Option (Nat × List D) := match d with
  | .ref k => (match st[k]? with
    | some (.lst xs) => some (k, xs)
    | _ => none)
  | _ => none
section
variable {K : PySem.W.Frag} {T : List (Addr × Str)} {w : Wd} {H : Hp} {st : Store}
theorem cell_at {x : V} {d : D} {k : Nat} {xs : List D} (r : Rel K T w H st) (h : Dat w x d) (e : cellL d st = some (k, xs)) : ∃ p vs, x = .ref p ∧ w.ads[k]? = some p ∧ st[k]? = some (.lst xs) ∧ H p = some (.lst vs) ∧ Dats w vs xs := by
  cases h with
  | @ref p j ha =>
    have e' : (match st[j]? with | some (.lst xs) => some (j, xs) | _ => none) = some (k, xs) := e
    cases q : st[j]? with
    | none => rw [q] at e'; cases e'
    | some cl =>
      rw [q] at e'
      cases cl with
      | lst ys =>
        cases e'
        obtain ⟨p', a', _, vs, hH, hv⟩ := r.addr q
        rw [ha] at a'
        cases a'
        exact ⟨p, vs, rfl, ha, q, hH, hv⟩
      | _ => cases e'
  | _ => cases e
theorem Rel.putLst (r : Rel K T w H st) {k : Nat} {p : Addr} {xs ys : List D} {us : List V} (ha : w.ads[k]? = some p) (hs : st[k]? = some (.lst xs)) (hv : Dats w us ys) :
    Stp w H w (upd H p (.lst us)) ∧ Rel K T w (upd H p (.lst us)) (st.set k (.lst ys)) :=
  r.put hs (by simp) ha ⟨(r.at_ k _ p hs ha).1, us, upd_same, hv⟩
end
/-! ### methods of lists, texts, dicts -/
abbrev OM := D → List D → Store → Res D
def SimM (K : PySem.W.Frag) (T : List (Addr × Str)) (r : V → List V → Hp → VK → Prop) (o : OM) : Prop := ∀ E w H st x xs d ds Q, Rel K T w H st → Dat w x d → Dats w xs ds → Post K T E Dat w H (o d ds st) Q → r x xs H Q
def TyOk (K : PySem.W.Frag) (T : List (Addr × Str)) (ty : String) (t : D → Store → Bool) : Prop := ∀ w H st x d, Rel K T w H st → Dat w x d → t d st = true → tyV K ty x H
def fBM (t : D → Store → Bool) (o : OM) (fa : LE) (g : LA) : LE := fun env st => (fa env st).bind fun d st1 => if t d st1 = true then (g env st1).bind fun ds st2 => o d ds st2 else .stuck
def isL (d : D) (st : Store) : Bool := (rdOf d st).isSome
def isS (d : D) (_ : Store) : Bool := match d with
  | .str _ => true
  | _ => false
theorem ty_list {K : PySem.W.Frag} {T : List (Addr × Str)} : TyOk K T "list" isL := fun w H st x d r dx h => by
  unfold isL at h
  cases q : rdOf d st with
  | none => rw [q] at h; cases h
  | some xs =>
    obtain ⟨p, vs, rfl, h1, _⟩ := rd_at r dx q
    exact .inl ⟨rfl, vs, h1⟩
theorem ty_str {K : PySem.W.Frag} {T : List (Addr × Str)} : TyOk K T "str" isS := fun w H st x d r dx h => by
  cases dx with
  | str s => rfl
  | _ => cases h
section
variable {X : Cx} {T : List (Addr × Str)} {E : XK} {apos cpos : Pos} {o e : Expr} {es : List Expr} {fa : LE} {g : LA} {ty id : String} {name : Str} {r : V → List V → Hp → VK → Prop} {oo : OM} {t : D → Store → Bool}
theorem x_bm (pa : PlainAttrs ty) (slot : Slot ty name id) (hty : typeOf (.builtin id) = pure (.type "method_descriptor")) (hm : MtR X id r) (so : SimM X.K T r oo) (tk : TyOk X.K T ty t) (ho : PEf X T E o fa) (ha : PAf X T E (e :: es) g)
    (hbase : attributeBase o name X.env (eval o X.env) = eval o X.env := by rfl)
    (hfew : ((backTo cpos (starEach (e :: es) X.env)).all (fun x => !x.1) && (backToKw cpos (keywordEach [] X.env)).all (fun x => x.1.isSome)
      && decide ((e :: es).length + ([] : List Keyword).length + (if ([] : List Keyword).isEmpty then 0 else 1) < 30)) = true := by rfl)
    (hline : (apos.endLine == cpos.line) = true := by rfl) (hs : starEach (e :: es) X.env = (false, eval e X.env) :: starEach es X.env := by rfl) (hplain : (backTo cpos (starEach es X.env)).any (·.1) = false := by rfl) :
    PEf X T E (.Call (.Attribute o name apos) (e :: es) [] cpos) (fBM t oo fa g) := pe_to (pe_bm pa slot hty hm ho ha hbase hfew hline hs hplain) fun w σ H env st Q he r p => by
  refine ⟨w, env, st, he, r, p.bind fun w1 x H1 d st1 s1 r1 dx p1 => ?_⟩
  by_cases q : t d st1 = true
  · rw [if_pos q] at p1
    exact ⟨tk w1 H1 st1 x d r1 dx q, w1, env, st1, he.mono s1.le, r1, p1.bind fun w2 xs H2 ds st2 s2 r2 dxs p2 => so E w2 H2 st2 x xs d ds Q r2 (dx.mono s2.le) dxs p2⟩
  · rw [if_neg q] at p1
    exact p1.elim
theorem x_bm0 (pa : PlainAttrs ty) (slot : Slot ty name id) (hty : typeOf (.builtin id) = pure (.type "method_descriptor")) (hm : MtR X id r) (so : SimM X.K T r oo) (tk : TyOk X.K T ty t) (ho : PEf X T E o fa)
    (hbase : attributeBase o name X.env (eval o X.env) = eval o X.env := by rfl) (hline : (apos.endLine == cpos.line) = true := by rfl) : PEf X T E (.Call (.Attribute o name apos) [] [] cpos) (fBM t oo fa fNil) := pe_to (pe_bm0 pa slot hty hm ho hbase hline) fun w σ H env st Q he r p => by
  refine ⟨w, env, st, he, r, p.bind fun w1 x H1 d st1 s1 r1 dx p1 => ?_⟩
  by_cases q : t d st1 = true
  · rw [if_pos q] at p1
    exact ⟨tk w1 H1 st1 x d r1 dx q, so E w1 H1 st1 x [] d [] Q r1 dx .nil p1⟩
  · rw [if_neg q] at p1
    exact p1.elim
/-- xs.append(e) -/
def oApp : OM := fun d ds st => match cellL d st, ds with
  | some (k, xs), [y] => if xs.length < lim then .ok .non (st.set k (.lst (xs ++ [y]))) else .stuck
  | _, _ => .stuck
theorem sim_app {K : PySem.W.Frag} : SimM K T rAppend oApp := fun E w H st x xs d ds Q r dx dxs p => by
  unfold oApp at p
  cases q : cellL d st with
  | none => rw [q] at p; exact p.elim
  | some kx =>
    obtain ⟨k, ys⟩ := kx
    rw [q] at p
    cases dxs with
    | nil => exact p.elim
    | cons d1 dr =>
      cases dr with
      | cons _ _ => exact p.elim
      | nil =>
        rename_i v y
        have p' : Post K T E Dat w H (if ys.length < lim then .ok .non (st.set k (.lst (ys ++ [y]))) else .stuck) Q := p
        by_cases z : ys.length < lim
        · rw [if_pos z] at p'
          obtain ⟨a, us, rfl, ha', hs', hH, hv⟩ := cell_at r dx q
          obtain ⟨s2, r2⟩ := r.putLst ha' hs' (hv.append (.one d1))
          exact ⟨a, us, v, rfl, rfl, hH, by rw [hv.length, lim_eq]; exact z, p' w .non _ s2 r2 .non⟩
        · rw [if_neg z] at p'
          exact p'.elim
end
/-- xs[i] = e -/
def gSubL (fo fi : LE) : LG := fun v env st => (fo env st).go env fun d st1 => (fi env st1).go env fun i st2 => match cellL d st2, i with
  | some (k, xs), .int i => (match ixN xs.length i with
    | some j => .nx env (st2.set k (.lst (xs.set j v)))
    | none => .stuck)
  | _, _ => .stuck
section
variable {X : Cx} {T : List (Addr × Str)} {E : XK} {pos apos : Pos} {o i e : Expr} {fa fi fe : LE}
theorem x_append (ho : PEf X T E o fa) (he : PEf X T E e fe)
    (hbase : attributeBase o "append" X.env (eval o X.env) = eval o X.env := by rfl)
    (hfew : ((backTo pos (starEach [e] X.env)).all (fun x => !x.1) && (backToKw pos (keywordEach [] X.env)).all (fun x => x.1.isSome)
      && decide ([e].length + ([] : List Keyword).length + (if ([] : List Keyword).isEmpty then 0 else 1) < 30)) = true := by rfl)
    (hline : (apos.endLine == pos.line) = true := by rfl) (hs : starEach [e] X.env = (false, eval e X.env) :: starEach [] X.env := by rfl) : PEf X T E (.Call (.Attribute o "append" apos) [e] [] pos) (fBM isL oApp fa (fCons fe fNil)) :=
  x_bm PySem.F.plainAttrs_list PySem.F.slot_list_append PySem.F.type_list_append mt_append sim_app ty_list ho (x_cons he x_nil hs) hbase hfew hline hs
theorem g_sub {vs : Option (List Nat)} (ho : PEf X T E o fa) (hi : PEf X T E i fi)
    (ha : ∀ v, assign (.Subscript o i pos) X.env v = (do
      let ov ← holding [v] (eval o X.env)
      let iv ← holding [v, ov] (eval i X.env)
      standAt pos
      holding [v, ov, iv] (setItem ov iv v)
      release [v, ov, iv] []) := by intro _; rfl) : PGf X T E vs (.Subscript o i pos) (gSubL fa fi) := pg_to (pg_sub ho hi set_list ha) fun v σ H Q hh => by
  obtain ⟨w, d, env, st, he, r, dx, p⟩ := hh
  have p : PostG X.K T E (fun σ' => ∀ us, vs = some us → wipe σ' us = wipe σ us) w H ((fa env st).go env fun d' st1 => (fi env st1).go env fun i st2 => match cellL d' st2, i with
    | some (k, xs), .int i => (match ixN xs.length i with
      | some j => .nx env (st2.set k (.lst (xs.set j d)))
      | none => .stuck)
    | _, _ => .stuck) Q := p
  refine ⟨w, env, st, he, r, ?_⟩
  cases q1 : fa env st with
  | ex x st1 => rw [q1] at p; exact p
  | stuck => rw [q1] at p; exact p.elim
  | ok d1 st1 =>
    rw [q1] at p
    intro w1 o1 H1 s1 r1 do1
    have p1 := PostG.pull p s1 fun _ h => h
    refine ⟨w1, env, st1, he.mono s1.le, r1, ?_⟩
    dsimp only [Res.go] at p1
    cases q2 : fi env st1 with
    | ex x st2 => rw [q2] at p1; exact p1
    | stuck => rw [q2] at p1; exact p1.elim
    | ok d2 st2 =>
      rw [q2] at p1
      dsimp only [Res.go] at p1
      intro w2 i2 H2 s2 r2 di2
      have p2 := PostG.pull p1 s2 fun _ h => h
      cases q3 : cellL d1 st2 with
      | none => rw [q3] at p2; exact p2.elim
      | some kx =>
        obtain ⟨k, xs⟩ := kx
        rw [q3] at p2
        cases di2 with
        | int ii =>
          dsimp only at p2
          cases q4 : ixN xs.length ii with
          | none => rw [q4] at p2; exact p2.elim
          | some j =>
            rw [q4] at p2
            obtain ⟨a, us, rfl, ha', hs', hH, hv⟩ := cell_at r2 (do1.mono s2.le) q3
            obtain ⟨s3, r3⟩ := r2.putLst ha' hs' (hv.set ((dx.mono s1.le).mono s2.le) j)
            exact ⟨a, us, ii, j, rfl, rfl, hH, by rw [hv.length]; exact q4, p2 w2 σ _ s3 ((he.mono s1.le).mono s2.le) r3 fun _ _ => rfl⟩
        | _ => exact p2.elim
theorem gok_sub {fo fi : LE} : GOk (gSubL fo fi) := fun d env st => by
  have key : (∃ e s, gSubL fo fi d env st = .nx e s) ∨ gSubL fo fi d env st = .stuck ∨ ∃ x s, gSubL fo fi d env st = .ex x env s := by
    unfold gSubL
    cases q1 : fo env st with
    | ex x s1 => exact .inr (.inr ⟨x, s1, rfl⟩)
    | stuck => exact .inr (.inl rfl)
    | ok d1 s1 =>
      dsimp only [Res.go]
      cases q2 : fi env s1 with
      | ex x s2 => exact .inr (.inr ⟨x, s2, rfl⟩)
      | stuck => exact .inr (.inl rfl)
      | ok d2 s2 =>
        dsimp only [Res.go]
        cases cellL d1 s2 with
        | none => exact .inr (.inl rfl)
        | some kx =>
          obtain ⟨k, xs⟩ := kx
          cases d2 with
          | int ii =>
            dsimp only
            cases ixN xs.length ii with
            | none => exact .inr (.inl rfl)
            | some j => exact .inl ⟨_, _, rfl⟩
          | _ => exact .inr (.inl rfl)
  rcases key with ⟨e, s, q⟩ | q | ⟨x, s, q⟩
  · rw [q]
    exact ⟨(by intro _ _ _ h; cases h), (by intro _ _; exact ⟨(by intro h; cases h), (by intro h; cases h)⟩), (by intro _ _ h; cases h)⟩
  · rw [q]
    exact ⟨(by intro _ _ _ h; cases h), (by intro _ _; exact ⟨(by intro h; cases h), (by intro h; cases h)⟩), (by intro _ _ h; cases h)⟩
  · rw [q]
    exact ⟨(by intro _ _ _ h; cases h; rfl), (by intro _ _; exact ⟨(by intro h; cases h), (by intro h; cases h)⟩), (by intro _ _ h; cases h)⟩
end
end Fk
/-! FkH: a, *b = e. -/
namespace Fk
open PySem PySem.Spec PyProof.Rows L2 PySem.W
section
variable {prog : Program} {w : World} {A : Around} {E : Value → Shared → Prop} {s : Shared}
/-- what stays when only new things come -/
abbrev Grows (h h' : Heap) : Prop := ∀ b o, h.get? b = some o → h'.get? b = some o
theorem newL {us : List Value} {Q : Value → Shared → Prop} (hz : us.length ≤ sizeLine)
    (hQ : Q (.ref s.heap.objs.size) { s with heap := s.heap.push { cls := .type "list", data := .seq us.toArray } }) : wpAny (model prog w) A (newList us) Q E s := by
  unfold newList
  exact wpAny_newObj_type hQ (by rw [sizeLine_eq] at hz; size_fits)
/-- what is left behind the first draw -/
theorem star_rest {l : Addr} {u : Value} {us : List Value} {T : String} {St : Nat → Heap → Prop} {h1 : Heap} (hT : T = "str_ascii_iterator" ∨ T = "str_iterator" ∨ T = "list_iterator" ∨ T = "tuple_iterator")
    (Wk : Walks prog w A.in1 s.heap.objs.size [s.heap.objs.size, l] [s.heap.objs.size] (u :: us).toArray.size (fun i v => (u :: us).toArray[i]? = some v) St) (hS : ∀ i (x : Shared), St i x.heap → x.TypeIs (.ref s.heap.objs.size) T)
    (st1 : St 1 h1) (g1 : ∀ b o, b ≠ s.heap.objs.size → s.heap.get? b = some o → h1.get? b = some o) (hI : s.heap.objs.size < h1.objs.size) (hl : l < h1.objs.size) (hz : us.length + 1 ≤ 16384) :
    wpAny (model prog w) A (holding [u] (collect (.ref s.heap.objs.size))) (fun rest s' => rest = us ∧ ∃ h2 tk, Grows s.heap h2 ∧ s' = { s with heap := h2, toks := tk }) E { s with heap := h1 } := by
  refine wpAny_holding (kun_collect (s := { s with heap := h1 }) hT Wk hS (k := 1) (by simp) st1 hI hl (fun h2 tk hk => ?_) (by rw [sizeLine_eq]; simp; omega))
  refine ⟨by simp, h2, tk, fun b o hb => ?_, rfl⟩
  have nb : b ≠ s.heap.objs.size := Nat.ne_of_lt (Heap.lt_size hb)
  exact hk b o nb (g1 b o nb hb)
theorem star_tup {l : Addr} {u : Value} {us : List Value} {Q : List Value → Shared → Prop} (hh : A.handled = none) (ht : IsTup s.heap l (u :: us).toArray) (hz : us.length + 1 ≤ 16384)
    (hQ : ∀ h2 tk, Grows s.heap h2 → Q [u, .ref h2.objs.size] { s with heap := h2.push { cls := .type "list", data := .seq us.toArray }, toks := tk }) : wpAny (model prog w) A (unpackItems (.ref l) 2 (some 1)) Q E s := by
  have nl : l ≠ s.heap.objs.size := by
    obtain ⟨o, ho, hc⟩ := ht
    exact Nat.ne_of_lt (Heap.lt_size ho)
  unfold unpackItems notIterableAtAll
  refine wpAny_bind (wpAny_bind (wpAny_specialOf ht.typeIs slot_tuple_iter.lookup (wpAny_pure ?_)))
  rw [if_neg (by simp)]
  refine wpAny_bind (wpAny_holding (iter_tuple ht (wpAny_bind (wpAny_holding (draw_tuple nl 1 0 _ _ ⟨_, Heap.get?_push_size _ rfl, rfl, rfl⟩ (ht.push _) (by simp) fun h1 it1 same => ?_)))))
  have ht1 := (ht.push { cls := Value.type "tuple_iterator", data := .fields #[.ref l, .int 0 0] }).extBut same.extBut nl
  rw [Nat.zero_add] at it1
  have e0 : ((u :: us).toArray.toList.drop 0).take 1 = [u] := by simp
  rw [e0]
  have n0 : ¬ [u].length < 1 := by simp
  rw [if_neg n0]
  obtain ⟨oi, hoi, _⟩ := id it1
  obtain ⟨ol, hol, _⟩ := id ht1
  refine wpAny_bind (thn (star_rest (.inr (.inr (.inr rfl))) (Walks.tuple (A := A.in1) hh s.heap.objs.size l nl (u :: us).toArray) (fun j x st => st.1.typeIs) ⟨it1, ht1⟩ (fun b o nb hb => same.extBut b o nb (Heap.get?_push_of_some _ hb)) (Heap.lt_size hoi) (Heap.lt_size hol) hz) fun rest s' ⟨er, h2, tk, gr, es⟩ => ?_)
  subst er es
  dsimp only
  rw [if_neg (show ¬ rest.length < 2 - 1 - 1 by omega), show rest.length - (2 - 1 - 1) = rest.length by omega, List.take_length, List.drop_length]
  exact wpAny_bind (newL (s := { s with heap := h2, toks := tk }) (by rw [sizeLine_eq]; omega) (wpAny_pure (hQ h2 tk gr)))
theorem star_lst {l : Addr} {u : Value} {us : List Value} {Q : List Value → Shared → Prop} (hh : A.handled = none) (ht : s.heap.IsList l (u :: us).toArray) (hz : us.length + 1 ≤ 16384)
    (hQ : ∀ h2 tk, Grows s.heap h2 → Q [u, .ref h2.objs.size] { s with heap := h2.push { cls := .type "list", data := .seq us.toArray }, toks := tk }) : wpAny (model prog w) A (unpackItems (.ref l) 2 (some 1)) Q E s := by
  have nl : l ≠ s.heap.objs.size := by
    obtain ⟨o, ho, hc⟩ := ht
    exact Nat.ne_of_lt (Heap.lt_size ho)
  unfold unpackItems notIterableAtAll
  refine wpAny_bind (wpAny_bind (wpAny_specialOf ht.typeIs slot_list_iter.lookup (wpAny_pure ?_)))
  rw [if_neg (by simp)]
  refine wpAny_bind (wpAny_holding (wpAny_pyIter_list ht (wpAny_bind (wpAny_holding (kun_draw nl 1 0 _ _ ⟨_, Heap.get?_push_size _ rfl, rfl, rfl⟩ (ht.push _) (by simp) fun h1 it1 same => ?_)))))
  have ht1 : h1.IsList l (u :: us).toArray := (ht.push _).extBut same.extBut nl
  rw [Nat.zero_add] at it1
  have e0 : ((u :: us).toArray.toList.drop 0).take 1 = [u] := by simp
  rw [e0]
  have n0 : ¬ [u].length < 1 := by simp
  rw [if_neg n0]
  obtain ⟨oi, hoi, _⟩ := id it1
  obtain ⟨ol, hol, _⟩ := id ht1
  refine wpAny_bind (thn (star_rest (.inr (.inr (.inl rfl))) (Walks.list (A := A.in1) hh s.heap.objs.size l nl (u :: us).toArray) (fun j x st => st.1.typeIs) ⟨it1, ht1⟩ (fun b o nb hb => same.extBut b o nb (Heap.get?_push_of_some _ hb)) (Heap.lt_size hoi) (Heap.lt_size hol) hz) fun rest s' ⟨er, h2, tk, gr, es⟩ => ?_)
  subst er es
  dsimp only
  rw [if_neg (show ¬ rest.length < 2 - 1 - 1 by omega), show rest.length - (2 - 1 - 1) = rest.length by omega, List.take_length, List.drop_length]
  exact wpAny_bind (newL (s := { s with heap := h2, toks := tk }) (by rw [sizeLine_eq]; omega) (wpAny_pure (hQ h2 tk gr)))
end
def gStar (K : PySem.W.Frag) (g1 g2 : TG) : TG := fun v σ H Q => ∃ a x xs, v = .ref a ∧ (SqT K H a (x :: xs) ∨ SqL K H a (x :: xs)) ∧ xs.length + 1 ≤ 16384 ∧ ∀ L, H L = none → g1 x σ (upd H L (.lst xs)) fun σ1 H1 => g2 (.ref L) σ1 H1 Q
section
variable {X : Cx} {pos : Pos}
theorem pg_star {e1 e2 : Expr} {g1 g2 : TG} {p2 : Pos} {k : Nat} (hc : X.calm = true) (h1 : PG X e1 g1) (h2 : PG X e2 g2)
    (he : assignEach [e1, .Starred e2 p2] X.env = [(false, assign e1 X.env), (true, assign e2 X.env)] := by rfl) : PG X (.Tuple [e1, .Starred e2 p2] k pos) (gStar X.K g1 g2) := by
  refine ⟨fun pins s σ H v u Q I r hw => ?_⟩
  obtain ⟨a, x, xs, rfl, hq, hl, hw⟩ := hw
  cases r
  rw [assign_Tuple, he]
  refine wpAny_bind (wpAny_standAt ?_)
  unfold unpack
  have fin : ∀ (us : List Value) (ux : Value), Vals (x :: xs) (ux :: us) → ∀ h2' tk, Grows s.heap h2' →
      wpAny (model X.prog X.w) X.A (assignInOrder [assign e1 X.env, assign e2 X.env] [ux, .ref h2'.objs.size]) (fun _ s' => ∃ σ' H', Inv X pins σ' H' s' ∧ Q σ' H') X.xe { s with heap := h2'.push { cls := .type "list", data := .seq us.toArray }, toks := tk } := fun us ux rv h2' tk gr => by
    cases rv with
    | cons ru rr =>
      have I1 : Inv X pins σ H { s with heap := h2', toks := tk } := I.kept gr
      have hz : xs.length ≤ sizeLine := by rw [sizeLine_eq]; omega
      have I2 := I1.lnew (t' := tk) rr hz
      refine assignInOrder_cons (thn (h1.run pins _ σ _ x ux _ I2 ru (hw _ I1.fresh)) fun _ s3 ⟨σ3, H3, I3, q3⟩ => ?_)
      refine assignInOrder_cons (thn (h2.run pins s3 σ3 H3 _ _ _ I3 (show RelV (.ref h2'.objs.size) (.ref h2'.objs.size) from rfl) q3) fun _ s4 q4 => ?_)
      exact assignInOrder_nil q4
  rcases hq with hq | hq
  · obtain ⟨its, rv, ht, hz⟩ := I.tuple hq
    cases its with
    | nil => cases rv
    | cons ux us =>
      have hl2 : us.length + 1 ≤ 16384 := by
        have := rv.length
        simp at this
        omega
      exact wpAny_bind (wpAny_holding (star_tup (I.ok.hd hc) ht hl2 fun h2' tk gr => fin us ux rv h2' tk gr))
  · obtain ⟨its, rv, ht, hz⟩ := I.list hq
    cases its with
    | nil => cases rv
    | cons ux us =>
      have hl2 : us.length + 1 ≤ 16384 := by
        have := rv.length
        simp at this
        omega
      exact wpAny_bind (wpAny_holding (star_lst (I.ok.hd hc) ht.isList hl2 fun h2' tk gr => fin us ux rv h2' tk gr))
/-- the rest a list that stays -/
def gSt (g1 g2 : LG) : LG := fun d env st => match (match d with
    | .tup ds => some ds
    | d => rdOf d st) with
  | some (x :: xs) => if xs.length + 1 ≤ 16384 then (match g1 x env st with
    | .nx e s => g2 (.lst xs) e s
    | r => r) else .stuck
  | _ => .stuck
theorem g_star {T : List (Addr × Str)} {E : XK} {vs : Option (List Nat)} {e1 e2 : Expr} {f1 f2 : LG} {p2 : Pos} {k : Nat} (hc : X.calm = true) (h1 : PGf X T E vs e1 f1) (h2 : PGf X T E vs e2 f2)
    (he : assignEach [e1, .Starred e2 p2] X.env = [(false, assign e1 X.env), (true, assign e2 X.env)] := by rfl) : PGf X T E vs (.Tuple [e1, .Starred e2 p2] k pos) (gSt f1 f2) := pg_to (pg_star hc h1 h2 he) fun v σ H Q hh => by
  obtain ⟨w, d, env, st, e, r, dx, p⟩ := hh
  have key : ∀ ds, (match d with | .tup ds => some ds | d => rdOf d st) = some ds → ∃ a us, v = .ref a ∧ (SqT X.K H a us ∨ SqL X.K H a us) ∧ Dats w us ds := fun ds hd => by
    have rd : rdOf d st = some ds → ∃ a us, v = .ref a ∧ (SqT X.K H a us ∨ SqL X.K H a us) ∧ Dats w us ds := fun hd => by
      obtain ⟨a, us, e1, h1, h2⟩ := rd_at r dx hd
      exact ⟨a, us, e1, .inr h1, h2⟩
    cases dx with
    | @tup a us es hF hv =>
      cases hd
      exact ⟨a, us, rfl, .inl (SqT.of (r.fr _ _ hF)), hv⟩
    | _ => exact rd hd
  unfold gSt at p
  cases q : (match d with | .tup ds => some ds | d => rdOf d st) with
  | none => rw [q] at p; exact p.elim
  | some ds =>
    rw [q] at p
    cases ds with
    | nil => exact p.elim
    | cons x xs =>
      obtain ⟨a, us, e1, hq, hv⟩ := key _ q
      cases hv with
      | cons hx hr =>
        dsimp only at p
        by_cases hl : xs.length + 1 ≤ 16384
        · rw [if_pos hl] at p
          refine ⟨a, _, _, e1, hq, by rw [hr.length]; exact hl, fun L hL => ?_⟩
          obtain ⟨s1, r1⟩ := r.laid hL (.lst _)
          refine ⟨_, x, env, st, e.mono s1.le, r1, hx.mono s1.le, ?_⟩
          have p1 := PostG.pull p s1 fun _ h => h
          cases q2 : f1 x env st with
          | nx e2' st2 =>
            rw [q2] at p1
            refine fun w2 σ2 H2 s2 e2 r2 hR => ⟨w2, .lst xs, e2', st2, e2, r2, (Dat.lst upd_same (hr.mono s1.le)).mono s2.le, ?_⟩
            exact PostG.pull p1 s2 fun σ'' hh us hu => (hh us hu).trans (hR us hu)
          | ex x e2' st2 => rw [q2] at p1; exact p1
          | bk _ _ => rw [q2] at p1; exact p1.elim
          | ct _ _ => rw [q2] at p1; exact p1.elim
          | rt _ _ => rw [q2] at p1; exact p1.elim
          | stuck => rw [q2] at p1; exact p1.elim
        · rw [if_neg hl] at p
          exact p.elim
theorem gp_star {g1 g2 : LG} (h1 : GPure g1) (h2 : GPure g2) : GPure (gSt g1 g2) := fun d env st => by
  unfold gSt
  cases (match d with | .tup ds => some ds | d => rdOf d st) with
  | none => exact .inr rfl
  | some ds =>
    cases ds with
    | nil => exact .inr rfl
    | cons x xs =>
      dsimp only
      by_cases hl : xs.length + 1 ≤ 16384
      · rw [if_pos hl]
        rcases h1 x env st with ⟨e, s, q⟩ | q
        · rw [q]
          exact h2 _ e s
        · rw [q]
          exact .inr rfl
      · rw [if_neg hl]
        exact .inr rfl
end
end Fk
/-! FkI: isinstance, all, any, tuple, str, int, join, split, pairs, tables, what is not reached. -/
namespace Fk
open PySem PySem.Spec PyProof.Rows L2
/-! ### what is not reached -/
def fStuck : LS := fun _ _ => .stuck
def fStuckE : LE := fun _ _ => .stuck
section
variable {X : Cx} {T : List (Addr × Str)} {E : XK} {W : WX}
theorem s_never {s : Stmt} : PSf X T W s fStuck := ps_to ps_never fun w σ H env st Dn e r p => p.elim
theorem ss_never {s : List Stmt} : PSsf X T W s fStuck := pss_to pss_never fun w σ H env st Dn e r p => p.elim
end
/-! ### isinstance -/
inductive Kd where
  | non | bl | int | str | tup | lst
def Kd.nm : Kd → String
  | .non => "NoneType" | .bl => "bool" | .int => "int" | .str => "str" | .tup => "tuple" | .lst => "list"
def Kd.isa : Kd → Kd → Bool
  | .non, .non | .bl, .bl | .bl, .int | .int, .int | .str, .str | .tup, .tup | .lst, .lst => true
  | _, _ => false
/-- one that may be asked for -/
def Kd.ask : Kd → Bool
  | .non => false
  | _ => true
theorem kd_kit {K : PySem.W.Frag} : ∀ a b : Kd, b.ask = true → PySem.W.kitOne K (.type a.nm) (.type b.nm) = some (a.isa b) := fun a b hb => by
  cases b <;> first | exact absurd hb (by decide) | (cases a <;> exact kit_ty (by decide +kernel))
def kdOf (d : D) (st : Store) : Option Kd := match d with
  | .non => some .non
  | .bl _ => some .bl
  | .int _ => some .int
  | .str _ => some .str
  | .tup _ => some .tup
  | d => (match rdOf d st with
    | some _ => some .lst
    | none => none)
def fIsi (c : Kd) (f : LE) : LE := fun env st => (f env st).bind fun d st1 => match kdOf d st1 with
  | some k => .ok (.bl (k.isa c)) st1
  | none => .stuck
def fIsiT (cs : List Kd) (f : LE) : LE := fun env st => (f env st).bind fun d st1 => match kdOf d st1 with
  | some k => .ok (.bl (cs.any fun c => k.isa c)) st1
  | none => .stuck
section
variable {K : PySem.W.Frag} {T : List (Addr × Str)}
theorem kd_at {w : Wd} {H : Hp} {st : Store} {x : V} {d : D} {k : Kd} (r : Rel K T w H st) (dx : Dat w x d) (e : kdOf d st = some k) : TyX K H x (.type k.nm) := by
  have gen : (match rdOf d st with | some _ => some Kd.lst | none => none) = some k → Dat w x d → TyX K H x (.type k.nm) := fun e dx => by
    cases q : rdOf d st with
    | none => rw [q] at e; cases e
    | some ds =>
      rw [q] at e
      cases e
      obtain ⟨p, vs, rfl, h1, _⟩ := rd_at r dx q
      rcases h1 with (h1 | ⟨o, h1⟩) | h1
      · exact .base (.lst h1)
      · exact .base (.frz h1)
      · obtain ⟨o, its, n, e1, e2, _⟩ := h1
        exact .kList e1 e2
  cases dx with
  | non => cases e; exact .base .non
  | bl b => cases e; exact .base (.bl b)
  | int b => cases e; exact .base (.int b)
  | str b => cases e; exact .base (.str b)
  | tup h1 h2 => cases e; exact .base (.tup (r.fr _ _ h1))
  | lst h1 h2 => exact gen e (.lst h1 h2)
  | lck h1 h2 => exact gen e (.lck h1 h2)
  | ref h1 => exact gen e (.ref h1)
theorem kd_any {K : PySem.W.Frag} {k : Kd} : ∀ {cs : List Kd}, (cs.all Kd.ask) = true → PySem.W.kitAny K (.type k.nm) (cs.map fun c => Value.type c.nm) = some (cs.any fun c => k.isa c)
  | [], _ => kitAny_nil
  | c :: cs, h => by
    rw [List.all_cons, Bool.and_eq_true] at h
    rw [List.map_cons, List.any_cons]
    refine kitAny_cons (kd_kit k c h.1) (fun z => ?_) fun z => ?_
    · rw [z, Bool.false_or]
      exact kd_any h.2
    · rw [z, Bool.true_or]
end
section
variable {X : Cx} {T : List (Addr × Str)} {E : XK} {a : Expr} {fa : LE} {pos q q2 : Pos}
theorem sim_isi {K : PySem.W.Frag} {c : Kd} (hc : c.ask = true) : Sim K T E Dat (tCB (rIsi K) (tCons (tOf K T E Dat fa) (tCons (tC (.ty c.nm)) tNil))) (fIsi c fa) := fun w σ H env st Q e r p => by
  refine ⟨w, env, st, e, r, p.bind fun w1 x H1 d st1 s1 r1 dx p1 => ?_⟩
  cases z : kdOf d st1 with
  | none => rw [z] at p1; exact p1.elim
  | some k =>
    rw [z] at p1
    exact ⟨x, .ty c.nm, _, _, _, rfl, .ty _, kd_at r1 dx z, kd_kit k c hc, p1.here r1 (.bl _)⟩
theorem x_isi {x : Str} (c : Kd) (hm : X.mg "isinstance" = none) (hm2 : X.mg x = none) (ha : PEf X T E a fa) (hv2 : bootBuiltins x = some (.type c.nm) := by decide +kernel) (hg : Gl X "isinstance" := by rfl) (hg2 : Gl X x := by rfl) (hc : c.ask = true := by rfl)
    (hn2 : x ≠ "__name__" := by decide) (hdb2 : (x == ("__debug__" : Str)) = false := by decide)
    (he : starEach [a, .Name x q2] X.env = (false, eval a X.env) :: starEach [.Name x q2] X.env := by rfl) (he2 : starEach [.Name x q2] X.env = (false, eval (.Name x q2) X.env) :: starEach [] X.env := by rfl) (hpl : (backTo pos (starEach [.Name x q2] X.env)).any (·.1) = false := by rfl) :
    PEf X T E (.Call (.Name "isinstance" q) [a, .Name x q2] [] pos) (fIsi c fa) :=
  pe_to (pe_callB call_isi hg hm (by decide +kernel) (pa_cons ha (pa_cons (pe_bltn (v := .ty c.nm) hg2 hm2 hv2 rfl hn2 hdb2) pa_nil he2) he) (by decide) (by decide) he hpl) (sim_isi hc)
/-- names of types -/
inductive TyNs (X : Cx) : List Expr → List Kd → Prop
  | nil : TyNs X [] []
  | cons {x : Str} {q2 : Pos} {c : Kd} {es : List Expr} {cs : List Kd} (hm : X.mg x = none) (h : TyNs X es cs) (hv : bootBuiltins x = some (.type c.nm) := by decide +kernel) (hg : Gl X x := by rfl) (hn : x ≠ "__name__" := by decide) (hdb : (x == ("__debug__" : Str)) = false := by decide)
      (he : starEach (.Name x q2 :: es) X.env = (false, eval (.Name x q2) X.env) :: starEach es X.env := by rfl) : TyNs X (.Name x q2 :: es) (c :: cs)
def tTys (cs : List Kd) : TA := fun _ H Q => Q (cs.map fun c => V.ty c.nm) H
theorem TyNs.pa {es : List Expr} {cs : List Kd} (h : TyNs X es cs) : PA X es (tTys cs) := by
  induction h with
  | nil => exact pa_nil
  | @cons x q2 c es cs hm h hv hg hn hdb he ih => exact pa_cons (pe_bltn (v := .ty c.nm) hg hm hv rfl hn hdb) ih he
theorem paired_tys : ∀ cs : List Kd, Paired ClsV (cs.map fun c => V.ty c.nm) (cs.map fun c => Value.type c.nm)
  | [] => .nil
  | c :: cs => .cons (.ty _) (paired_tys cs)
theorem sim_isiT {K : PySem.W.Frag} {cs : List Kd} (hc : cs.all Kd.ask = true) (hl : cs.length ≤ lim) : Sim K T E Dat (tCB (rIsiT K) (tCons (tOf K T E Dat fa) (tCons (tTup (tTys cs)) tNil))) (fIsiT cs fa) := fun w σ H env st Q e r p => by
  refine ⟨w, env, st, e, r, p.bind fun w1 x H1 d st1 s1 r1 dx p1 => ?_⟩
  refine ⟨by rw [List.length_map, lim_eq]; exact hl, fun l hl => ?_⟩
  cases z : kdOf d st1 with
  | none => rw [z] at p1; exact p1.elim
  | some k =>
    rw [z] at p1
    obtain ⟨s2, r2⟩ := r1.laid hl (.tup (cs.map fun c => V.ty c.nm))
    have kd2 := kd_at r2 (dx.mono s2.le) z
    exact ⟨x, l, _, _, _, _, rfl, upd_same, paired_tys cs, kd2, kd_any hc, p1 _ _ _ s2 r2 (.bl _)⟩
theorem x_isiT {es : List Expr} {cs : List Kd} {j : Nat} {p2 : Pos} (hm : X.mg "isinstance" = none) (ht : TyNs X es cs) (ha : PEf X T E a fa) (hg : Gl X "isinstance" := by rfl) (hc : cs.all Kd.ask = true := by rfl) (hl : cs.length ≤ lim := by decide)
    (he : starEach [a, .Tuple es j p2] X.env = (false, eval a X.env) :: starEach [.Tuple es j p2] X.env := by rfl) (he2 : starEach [.Tuple es j p2] X.env = (false, eval (.Tuple es j p2) X.env) :: starEach [] X.env := by rfl) (hpl : (backTo pos (starEach [.Tuple es j p2] X.env)).any (·.1) = false := by rfl) :
    PEf X T E (.Call (.Name "isinstance" q) [a, .Tuple es j p2] [] pos) (fIsiT cs fa) :=
  pe_to (pe_callB call_isiT hg hm (by decide +kernel) (pa_cons ha (pa_cons (pe_tup ht.pa) pa_nil he2) he) (by decide) (by decide) he hpl) (sim_isiT hc hl)
end
/-! ### all, any -/
def blsOf : List D → Option (List Bool)
  | [] => some []
  | .bl b :: ds => (blsOf ds).map (b :: ·)
  | _ => none
theorem bls_at : ∀ {ds : List D} {bs : List Bool}, blsOf ds = some bs → ds = bs.map D.bl
  | [], bs, h => by cases h; rfl
  | .bl b :: ds, bs, h => by
    have h' : (blsOf ds).map (b :: ·) = some bs := h
    cases q : blsOf ds with
    | none => rw [q] at h'; cases h'
    | some cs =>
      rw [q] at h'
      cases h'
      rw [bls_at q, List.map_cons]
  | .non :: _, bs, h => by cases h
  | .int _ :: _, bs, h => by cases h
  | .str _ :: _, bs, h => by cases h
  | .tup _ :: _, bs, h => by cases h
  | .lst _ :: _, bs, h => by cases h
  | .lck _ :: _, bs, h => by cases h
  | .ref _ :: _, bs, h => by cases h
/-- one list -/
def o1L (g : List D → Store → Res D) : OA := fun ds st => match ds with
  | [d] => (match rdOf d st with
    | some xs => g xs st
    | none => .stuck)
  | _ => .stuck
theorem o1L_at {K : PySem.W.Frag} {T : List (Addr × Str)} {E : XK} {w : Wd} {H : Hp} {st : Store} {vs : List V} {ds : List D} {Q : VK} {g : List D → Store → Res D} (r : Rel K T w H st) (dv : Dats w vs ds) (p : Post K T E Dat w H (o1L g ds st) Q) :
    ∃ a us xs, vs = [.ref a] ∧ SqL K H a us ∧ Dats w us xs ∧ Post K T E Dat w H (g xs st) Q := by
  cases dv with
  | nil => exact p.elim
  | cons dx rest =>
    cases rest with
    | cons _ _ => exact p.elim
    | nil =>
      rename_i v d
      have p' : Post K T E Dat w H (match rdOf d st with | some xs => g xs st | none => .stuck) Q := p
      cases q : rdOf d st with
      | none => rw [q] at p'; exact p'.elim
      | some xs =>
        rw [q] at p'
        obtain ⟨a, us, e1, h1, h2⟩ := rd_at r dx q
        exact ⟨a, us, xs, by rw [e1], h1, h2, p'⟩
def oAll : OA := o1L fun xs st => match blsOf xs with
  | some bs => .ok (.bl (bs.all id)) st
  | none => .stuck
def oAny : OA := o1L fun xs st => match blsOf xs with
  | some bs => .ok (.bl (bs.any id)) st
  | none => .stuck
theorem sim_all {K : PySem.W.Frag} {T : List (Addr × Str)} : SimRA K T (rAll K) oAll := fun E w H st vs ds Q r dv p => by
  obtain ⟨a, us, xs, rfl, h1, h2, p⟩ := o1L_at r dv p
  cases q : blsOf xs with
  | none => rw [q] at p; exact p.elim
  | some bs =>
    rw [q] at p
    have e := bls_at q
    subst e
    have e2 := h2.bls
    subst e2
    exact ⟨a, bs, rfl, h1, p.here r (.bl _)⟩
theorem sim_any {K : PySem.W.Frag} {T : List (Addr × Str)} : SimRA K T (rAny K) oAny := fun E w H st vs ds Q r dv p => by
  obtain ⟨a, us, xs, rfl, h1, h2, p⟩ := o1L_at r dv p
  cases q : blsOf xs with
  | none => rw [q] at p; exact p.elim
  | some bs =>
    rw [q] at p
    have e := bls_at q
    subst e
    have e2 := h2.bls
    subst e2
    exact ⟨a, bs, rfl, h1, p.here r (.bl _)⟩
end Fk
/-! FkJ: tuple, list, str, int, join, split, min, max, pairs at once, texts and ranges walked, tables. -/
namespace Fk
open PySem PySem.Spec PyProof.Rows L2
/-! ### strings of data -/
def strsOf : List D → Option (List Str)
  | [] => some []
  | .str b :: ds => (strsOf ds).map (b :: ·)
  | _ => none
theorem strs_at : ∀ {ds : List D} {bs : List Str}, strsOf ds = some bs → ds = bs.map D.str
  | [], bs, h => by cases h; rfl
  | .str b :: ds, bs, h => by
    have h' : (strsOf ds).map (b :: ·) = some bs := h
    cases q : strsOf ds with
    | none => rw [q] at h'; cases h'
    | some cs =>
      rw [q] at h'
      cases h'
      rw [strs_at q, List.map_cons]
  | .non :: _, bs, h => by cases h
  | .int _ :: _, bs, h => by cases h
  | .bl _ :: _, bs, h => by cases h
  | .tup _ :: _, bs, h => by cases h
  | .lst _ :: _, bs, h => by cases h
  | .lck _ :: _, bs, h => by cases h
  | .ref _ :: _, bs, h => by cases h
theorem strsOf_map : ∀ bs : List Str, strsOf (bs.map D.str) = some bs
  | [] => rfl
  | b :: bs => by
    show (strsOf (bs.map D.str)).map (b :: ·) = _
    rw [strsOf_map bs] <;> rfl
theorem blsOf_map : ∀ bs : List Bool, blsOf (bs.map D.bl) = some bs
  | [] => rfl
  | b :: bs => by
    show (blsOf (bs.map D.bl)).map (b :: ·) = _
    rw [blsOf_map bs] <;> rfl
def intsOf : List D → Option (List Int)
  | [] => some []
  | .int b :: ds => (intsOf ds).map (b :: ·)
  | _ => none
theorem ints_at : ∀ {ds : List D} {bs : List Int}, intsOf ds = some bs → ds = bs.map D.int
  | [], bs, h => by cases h; rfl
  | .int b :: ds, bs, h => by
    have h' : (intsOf ds).map (b :: ·) = some bs := h
    cases q : intsOf ds with
    | none => rw [q] at h'; cases h'
    | some cs =>
      rw [q] at h'
      cases h'
      rw [ints_at q, List.map_cons]
  | .non :: _, bs, h => by cases h
  | .str _ :: _, bs, h => by cases h
  | .bl _ :: _, bs, h => by cases h
  | .tup _ :: _, bs, h => by cases h
  | .lst _ :: _, bs, h => by cases h
  | .lck _ :: _, bs, h => by cases h
  | .ref _ :: _, bs, h => by cases h
theorem intsOf_map : ∀ bs : List Int, intsOf (bs.map D.int) = some bs
  | [] => rfl
  | b :: bs => by
    show (intsOf (bs.map D.int)).map (b :: ·) = _
    rw [intsOf_map bs] <;> rfl
section
variable {K : PySem.W.Frag} {T : List (Addr × Str)}
/-! ### tuple(), list() -/
def oTupOf : OA := fun ds st => match ds with
  | [.tup xs] => .ok (.tup xs) st
  | [d] => (match rdOf d st with
    | some xs => .ok (.tup xs) st
    | none => .stuck)
  | _ => .stuck
theorem sim_tupOf : SimRA K T (fun xs H Q => ∃ p ys, xs = [.ref p] ∧ ((SqL K H p ys ∧ ∀ l, H l = none → Q (.ref l) (upd H l (.tup ys))) ∨ (SqT K H p ys ∧ Q (.ref p) H))) oTupOf := fun E w H st vs ds Q r dv p => by
  cases dv with
  | nil => exact p.elim
  | cons dx rest =>
    rename_i x d _ _
    cases rest with
    | cons _ _ => cases dx <;> exact p.elim
    | nil =>
      have gen : Post K T E Dat w H (match rdOf d st with | some xs => .ok (.tup xs) st | none => .stuck) Q → ∃ p ys, [x] = [.ref p] ∧ ((SqL K H p ys ∧ ∀ l, H l = none → Q (.ref l) (upd H l (.tup ys))) ∨ (SqT K H p ys ∧ Q (.ref p) H)) := fun p => by
        cases q : rdOf d st with
        | none => rw [q] at p; exact p.elim
        | some xs =>
          rw [q] at p
          obtain ⟨l, us, rfl, h1, h2⟩ := rd_at r dx q
          exact ⟨l, us, rfl, .inl ⟨h1, p.newT r h2⟩⟩
      cases dx with
      | tup hF hd => exact ⟨_, _, rfl, .inr ⟨SqT.of (r.fr _ _ hF), p.here r (.tup hF hd)⟩⟩
      | non => exact p.elim
      | bl b => exact p.elim
      | int b => exact p.elim
      | str b => exact p.elim
      | lst h1 h2 => exact gen p
      | lck h1 h2 => exact gen p
      | ref h1 => exact gen p
/-- list(xs): one that stays; a cell -/
def sqOf (d : D) (st : Store) : Option (List D) := match d with
  | .tup xs => some xs
  | d => rdOf d st
theorem sq_at {w : Wd} {H : Hp} {st : Store} {x : V} {d : D} {xs : List D} (r : Rel K T w H st) (h : Dat w x d) (e : sqOf d st = some xs) : ∃ p vs, x = .ref p ∧ (SqL K H p vs ∨ SqT K H p vs) ∧ Dats w vs xs := by
  have gen : rdOf d st = some xs → ∃ p vs, x = .ref p ∧ (SqL K H p vs ∨ SqT K H p vs) ∧ Dats w vs xs := fun e => by
    obtain ⟨l, us, e1, h1, h2⟩ := rd_at r h e
    exact ⟨l, us, e1, .inl h1, h2⟩
  cases h with
  | tup hF hd =>
    cases e
    exact ⟨_, _, rfl, .inr (SqT.of (r.fr _ _ hF)), hd⟩
  | _ => exact gen e
def oLstOf : OA := fun ds st => match ds with
  | [d] => (match sqOf d st with
    | some xs => .ok (.lst xs) st
    | none => .stuck)
  | _ => .stuck
def oLstOfC : OA := fun ds st => match ds with
  | [d] => (match sqOf d st with
    | some xs => .ok (.ref st.length) (st ++ [.lst xs])
    | none => .stuck)
  | _ => .stuck
abbrev rLstOf (K : PySem.W.Frag) : List V → Hp → VK → Prop := fun xs H Q => ∃ p ys, xs = [.ref p] ∧ (SqL K H p ys ∨ SqT K H p ys) ∧ ∀ l, H l = none → Q (.ref l) (upd H l (.lst ys))
theorem sim_lstOf : SimRA K T (rLstOf K) oLstOf := fun E w H st vs ds Q r dv p => by
  cases dv with
  | nil => exact p.elim
  | cons dx rest =>
    rename_i x d _ _
    cases rest with
    | cons _ _ => exact p.elim
    | nil =>
      have p' : Post K T E Dat w H (match sqOf d st with | some xs => .ok (.lst xs) st | none => .stuck) Q := p
      cases q : sqOf d st with
      | none => rw [q] at p'; exact p'.elim
      | some xs =>
        rw [q] at p'
        obtain ⟨l, us, rfl, h1, h2⟩ := sq_at r dx q
        exact ⟨l, us, rfl, h1, p'.newL r h2⟩
theorem sim_lstOfC : SimRA K T (rLstOf K) oLstOfC := fun E w H st vs ds Q r dv p => by
  cases dv with
  | nil => exact p.elim
  | cons dx rest =>
    rename_i x d _ _
    cases rest with
    | cons _ _ => exact p.elim
    | nil =>
      have p' : Post K T E Dat w H (match sqOf d st with | some xs => .ok (.ref st.length) (st ++ [.lst xs]) | none => .stuck) Q := p
      cases q : sqOf d st with
      | none => rw [q] at p'; exact p'.elim
      | some xs =>
        rw [q] at p'
        obtain ⟨l, us, rfl, h1, h2⟩ := sq_at r dx q
        exact ⟨l, us, rfl, h1, p'.newC r h2⟩
/-! ### str(), int() -/
def oStr : OA := fun ds st => match ds with
  | [.int i] => if i.natAbs.log2 < 1920 then .ok (.str (toString i)) st else .stuck
  | [.str s] => .ok (.str s) st
  | _ => .stuck
abbrev rStr : List V → Hp → VK → Prop := fun xs H Q => (∃ i, xs = [.int i] ∧ i.natAbs.log2 < 1920 ∧ Q (.str (toString i)) H) ∨ ∃ a, xs = [.str a] ∧ Q (.str a) H
theorem sim_str : SimRA K T rStr oStr := fun E w H st vs ds Q r dv p => by
  cases dv with
  | nil => exact p.elim
  | cons dx rest =>
    cases rest with
    | cons _ _ => cases dx <;> exact p.elim
    | nil =>
      cases dx with
      | int i =>
        have p' : Post K T E Dat w H (if i.natAbs.log2 < 1920 then .ok (.str (toString i)) st else .stuck) Q := p
        by_cases c : i.natAbs.log2 < 1920
        · rw [if_pos c] at p'
          exact .inl ⟨i, rfl, c, p'.here r (.str _)⟩
        · rw [if_neg c] at p'
          exact p'.elim
      | str s => exact .inr ⟨s, rfl, p.here r (.str _)⟩
      | _ => exact p.elim
def oInt : OA := fun ds st => match ds with
  | [.int i] => .ok (.int i) st
  | [.bl b] => .ok (.int (if b then 1 else 0)) st
  | [.str s] => (match PySem.intText? s with
    | some n => if s.length ≤ 640 then .ok (.int n) st else .stuck
    | none => .stuck)
  | _ => .stuck
abbrev rInt : List V → Hp → VK → Prop := fun xs H Q => ((∃ i, xs = [.int i] ∧ Q (.int i) H) ∨ ∃ k, xs = [.bl k] ∧ Q (.int (if k then 1 else 0)) H) ∨ ∃ a n, xs = [.str a] ∧ PySem.intText? a = some n ∧ a.length ≤ 640 ∧ Q (.int n) H
theorem sim_int : SimRA K T rInt oInt := fun E w H st vs ds Q r dv p => by
  cases dv with
  | nil => exact p.elim
  | cons dx rest =>
    cases rest with
    | cons _ _ => cases dx <;> exact p.elim
    | nil =>
      cases dx with
      | int i => exact .inl (.inl ⟨i, rfl, p.here r (.int _)⟩)
      | bl b => exact .inl (.inr ⟨b, rfl, p.here r (.int _)⟩)
      | str s =>
        have p' : Post K T E Dat w H (match PySem.intText? s with | some n => if s.length ≤ 640 then .ok (.int n) st else .stuck | none => .stuck) Q := p
        cases q : PySem.intText? s with
        | none => rw [q] at p'; exact p'.elim
        | some n =>
          rw [q] at p'
          have p2 : Post K T E Dat w H (if s.length ≤ 640 then .ok (.int n) st else .stuck) Q := p'
          by_cases c : s.length ≤ 640
          · rw [if_pos c] at p2
            exact .inr ⟨s, n, rfl, q, c, p2.here r (.int _)⟩
          · rw [if_neg c] at p2
            exact p2.elim
      | _ => exact p.elim
/-! ### min, max -/
def oMax2 : OA := fun ds st => match ds with
  | [.int i, .int j] => .ok (.int (if j > i then j else i)) st
  | _ => .stuck
def oMin2 : OA := fun ds st => match ds with
  | [.int i, .int j] => .ok (.int (if j < i then j else i)) st
  | _ => .stuck
theorem sim_max2 : SimRA K T (fun xs H Q => ∃ i j, xs = [.int i, .int j] ∧ Q (.int (if j > i then j else i)) H) oMax2 := fun E w H st vs ds Q r dv p => by
  cases dv with
  | nil => exact p.elim
  | cons dx rest =>
    cases rest with
    | nil => cases dx <;> exact p.elim
    | cons dy rest =>
      cases rest with
      | cons _ _ => cases dx <;> cases dy <;> exact p.elim
      | nil =>
        cases dx with
        | int i =>
          cases dy with
          | int j => exact ⟨i, j, rfl, p.here r (.int _)⟩
          | _ => exact p.elim
        | _ => exact p.elim
theorem sim_min2 : SimRA K T (fun xs H Q => ∃ i j, xs = [.int i, .int j] ∧ Q (.int (if j < i then j else i)) H) oMin2 := fun E w H st vs ds Q r dv p => by
  cases dv with
  | nil => exact p.elim
  | cons dx rest =>
    cases rest with
    | nil => cases dx <;> exact p.elim
    | cons dy rest =>
      cases rest with
      | cons _ _ => cases dx <;> cases dy <;> exact p.elim
      | nil =>
        cases dx with
        | int i =>
          cases dy with
          | int j => exact ⟨i, j, rfl, p.here r (.int _)⟩
          | _ => exact p.elim
        | _ => exact p.elim
def maxI : List Int → Int
  | [] => 0
  | [a] => a
  | a :: l => (let m := maxI l; if m ≤ a then a else m)
def minI : List Int → Int
  | [] => 0
  | [a] => a
  | a :: l => (let m := minI l; if a ≤ m then a else m)
theorem maxI_spec : ∀ {l : List Int}, l ≠ [] → maxI l ∈ l ∧ ∀ y, y ∈ l → y ≤ maxI l
  | [], h => absurd rfl h
  | [a], _ => ⟨List.mem_singleton.mpr rfl, fun y h => by rw [List.mem_singleton.mp h]; exact Int.le_refl a⟩
  | a :: b :: l, _ => by
    obtain ⟨h1, h2⟩ := maxI_spec (l := b :: l) (by simp)
    have e : maxI (a :: b :: l) = if maxI (b :: l) ≤ a then a else maxI (b :: l) := rfl
    rw [e]
    by_cases c : maxI (b :: l) ≤ a
    · rw [if_pos c]
      refine ⟨List.mem_cons_self, fun y hy => ?_⟩
      rcases List.mem_cons.mp hy with hy | hy
      · rw [hy]; exact Int.le_refl a
      · exact Int.le_trans (h2 y hy) c
    · rw [if_neg c]
      refine ⟨List.mem_cons_of_mem _ h1, fun y hy => ?_⟩
      rcases List.mem_cons.mp hy with hy | hy
      · rw [hy]; omega
      · exact h2 y hy
theorem minI_spec : ∀ {l : List Int}, l ≠ [] → minI l ∈ l ∧ ∀ y, y ∈ l → minI l ≤ y
  | [], h => absurd rfl h
  | [a], _ => ⟨List.mem_singleton.mpr rfl, fun y h => by rw [List.mem_singleton.mp h]; exact Int.le_refl a⟩
  | a :: b :: l, _ => by
    obtain ⟨h1, h2⟩ := minI_spec (l := b :: l) (by simp)
    have e : minI (a :: b :: l) = if a ≤ minI (b :: l) then a else minI (b :: l) := rfl
    rw [e]
    by_cases c : a ≤ minI (b :: l)
    · rw [if_pos c]
      refine ⟨List.mem_cons_self, fun y hy => ?_⟩
      rcases List.mem_cons.mp hy with hy | hy
      · rw [hy]; exact Int.le_refl a
      · exact Int.le_trans c (h2 y hy)
    · rw [if_neg c]
      refine ⟨List.mem_cons_of_mem _ h1, fun y hy => ?_⟩
      rcases List.mem_cons.mp hy with hy | hy
      · rw [hy]; omega
      · exact h2 y hy
def oMaxL : OA := o1L fun xs st => match intsOf xs with
  | some (n :: ns) => .ok (.int (maxI (n :: ns))) st
  | _ => .stuck
def oMinL : OA := o1L fun xs st => match intsOf xs with
  | some (n :: ns) => .ok (.int (minI (n :: ns))) st
  | _ => .stuck
def oSum : OA := o1L fun xs st => match intsOf xs with
  | some ns => .ok (.int ns.sum) st
  | _ => .stuck
theorem sim_maxL : SimRA K T (rMax K) oMaxL := fun E w H st vs ds Q r dv p => by
  obtain ⟨a, us, xs, rfl, h1, h2, p⟩ := o1L_at r dv p
  cases q : intsOf xs with
  | none => rw [q] at p; exact p.elim
  | some bs =>
    rw [q] at p
    have e := ints_at q
    subst e
    have e2 := h2.ints
    subst e2
    cases bs with
    | nil => exact p.elim
    | cons b bs =>
      refine ⟨a, b :: bs, rfl, h1, by simp, fun m hm hmax => ?_⟩
      obtain ⟨h3, h4⟩ := maxI_spec (l := b :: bs) (by simp)
      have e3 : m = maxI (b :: bs) := Int.le_antisymm (h4 m hm) (hmax _ h3)
      rw [e3]
      exact p.here r (.int _)
theorem sim_minL : SimRA K T (rMin K) oMinL := fun E w H st vs ds Q r dv p => by
  obtain ⟨a, us, xs, rfl, h1, h2, p⟩ := o1L_at r dv p
  cases q : intsOf xs with
  | none => rw [q] at p; exact p.elim
  | some bs =>
    rw [q] at p
    have e := ints_at q
    subst e
    have e2 := h2.ints
    subst e2
    cases bs with
    | nil => exact p.elim
    | cons b bs =>
      refine ⟨a, b :: bs, rfl, h1, by simp, fun m hm hmax => ?_⟩
      obtain ⟨h3, h4⟩ := minI_spec (l := b :: bs) (by simp)
      have e3 : m = minI (b :: bs) := Int.le_antisymm (hmax _ h3) (h4 m hm)
      rw [e3]
      exact p.here r (.int _)
theorem sim_sum : SimRA K T (rSum K) oSum := fun E w H st vs ds Q r dv p => by
  obtain ⟨a, us, xs, rfl, h1, h2, p⟩ := o1L_at r dv p
  cases q : intsOf xs with
  | none => rw [q] at p; exact p.elim
  | some bs =>
    rw [q] at p
    have e := ints_at q
    subst e
    have e2 := h2.ints
    subst e2
    exact ⟨a, bs, rfl, h1, p.here r (.int _)⟩
/-! ### join, split -/
def oJoin : OM := fun d ds st => match d, ds with
  | .str a, [e] => (match rdOf e st with
    | some xs => (match strsOf xs with
      | some ys => if (ys.map (·.length)).sum + ys.length * a.length ≤ 16777216 then .ok (.str (Txt.join a ys)) st else .stuck
      | none => .stuck)
    | none => .stuck)
  | _, _ => .stuck
def oSplit : OM := fun d ds st => match d, ds with
  | .str a, [.str b] => if (b.length == 0) = false ∧ a.length + 2 ≤ lim then .ok (.lst ((Txt.split a b).map D.str)) st else .stuck
  | _, _ => .stuck
theorem sim_join : SimM K T (fun x xs H Q => ∃ a p, ∃ ys : List Str, x = .str a ∧ xs = [.ref p] ∧ (SqL K H p (ys.map V.str) ∨ SqT K H p (ys.map V.str)) ∧ (ys.map (·.length)).sum + ys.length * a.length ≤ 16777216 ∧ Q (.str (Txt.join a ys)) H) oJoin := fun E w H st x xs d ds Q r dx dxs p => by
  cases dx with
  | str a =>
    cases dxs with
    | nil => exact p.elim
    | cons d1 dr =>
      cases dr with
      | cons _ _ => exact p.elim
      | nil =>
        rename_i v e
        have p' : Post K T E Dat w H (match rdOf e st with
          | some xs => (match strsOf xs with
            | some ys => if (ys.map (·.length)).sum + ys.length * a.length ≤ 16777216 then .ok (.str (Txt.join a ys)) st else .stuck
            | none => .stuck)
          | none => .stuck) Q := p
        cases q : rdOf e st with
        | none => rw [q] at p'; exact p'.elim
        | some zs =>
          rw [q] at p'
          have p2 : Post K T E Dat w H (match strsOf zs with
            | some ys => if (ys.map (·.length)).sum + ys.length * a.length ≤ 16777216 then .ok (.str (Txt.join a ys)) st else .stuck
            | none => .stuck) Q := p'
          obtain ⟨l, us, rfl, h1, h2⟩ := rd_at r d1 q
          cases q2 : strsOf zs with
          | none => rw [q2] at p2; exact p2.elim
          | some ys =>
            rw [q2] at p2
            have e1 := strs_at q2
            subst e1
            have e2 := h2.strs
            subst e2
            have p3 : Post K T E Dat w H (if (ys.map (·.length)).sum + ys.length * a.length ≤ 16777216 then .ok (.str (Txt.join a ys)) st else .stuck) Q := p2
            by_cases c : (ys.map (·.length)).sum + ys.length * a.length ≤ 16777216
            · rw [if_pos c] at p3
              exact ⟨a, l, ys, rfl, rfl, .inl h1, c, p3.here r (.str _)⟩
            · rw [if_neg c] at p3
              exact p3.elim
  | _ => exact p.elim
theorem sim_split : SimM K T (fun x xs H Q => ∃ a b, x = .str a ∧ xs = [.str b] ∧ (b.length == 0) = false ∧ a.length + 2 ≤ sizeLine ∧ rNewStrs (Txt.split a b) H Q) oSplit := fun E w H st x xs d ds Q r dx dxs p => by
  cases dx with
  | str a =>
    cases dxs with
    | nil => exact p.elim
    | cons d1 dr =>
      cases dr with
      | cons _ _ => cases d1 <;> exact p.elim
      | nil =>
        cases d1 with
        | str b =>
          have p' : Post K T E Dat w H (if (b.length == 0) = false ∧ a.length + 2 ≤ lim then .ok (.lst ((Txt.split a b).map D.str)) st else .stuck) Q := p
          by_cases c : (b.length == 0) = false ∧ a.length + 2 ≤ lim
          · rw [if_pos c] at p'
            exact ⟨a, b, rfl, rfl, c.1, by rw [lim_eq]; exact c.2, p'.newL r (Dats.of_strs _)⟩
          · rw [if_neg c] at p'
            exact p'.elim
        | _ => exact p.elim
  | _ => exact p.elim
end
end Fk
/-! FkK: pairs at once, texts and ranges walked, tables. -/
namespace Fk
open PySem PySem.Spec PyProof.Rows L2
/-! ### a, b = x, y with plain names -/
def fPar (i j : Nat) (g : LA) : LS := fun env st => (g env st).go env fun ds st1 => match ds with
  | [d, e] => .nx ((env.set i (some d)).set j (some e)) st1
  | _ => .stuck
def fPar3 (i j l : Nat) (g : LA) : LS := fun env st => (g env st).go env fun ds st1 => match ds with
  | [d, e, f] => .nx (((env.set i (some d)).set j (some e)).set l (some f)) st1
  | _ => .stuck
section
variable {X : Cx} {T : List (Addr × Str)} {E : XK} {pos : Pos}
theorem s_par {i j : Nat} {x y : Str} {a b : Expr} {g : LA} {px py pt : Pos} {kt k2 pt2} (hc : X.calm = true) (hN : X.N.Nodup) (ha : PAf X T E [a, b] g) (hi : X.N[i]? = some x := by rfl) (hj : X.N[j]? = some y := by rfl) (hij : i ≠ j := by decide)
    (hx : X.env.scope.names.lookup x = some .local := by rfl) (hy : X.env.scope.names.lookup y = some .local := by rfl)
    (hw : swappedStores [.Tuple [.Name x px, .Name y py] kt pt] (.Tuple [a, b] k2 pt2) X.env = pure (some [x, y]) := by rfl)
    (hs : swapsWithSole [.Tuple [.Name x px, .Name y py] kt pt] (.Tuple [a, b] k2 pt2) pos.line X.env = pure false := by rfl) :
    PSf X T (W0 E) (.Assign [.Tuple [.Name x px, .Name y py] kt pt] (.Tuple [a, b] k2 pt2) pos) (fPar i j g) := ps_to (ps_par hc hN hi hj hij hx hy ha hw hs) fun w σ H env st Dn he r p => by
  refine ⟨w, env, st, he, r, PostS.go (rel := Dats) (fun _ _ _ h => h) he p fun w1 vs H1 ds st1 s1 r1 dv p1 => ?_⟩
  cases dv with
  | nil => exact p1.elim
  | cons d1 dr =>
    cases dr with
    | nil => exact p1.elim
    | cons d2 dr =>
      cases dr with
      | cons _ _ => exact p1.elim
      | nil => exact ⟨_, _, rfl, p1 w1 _ H1 (Stp.refl w1 H1) (((he.mono s1.le).set i d1).set j d2) r1⟩
theorem s_par3 {i j l : Nat} {x y z : Str} {a b c : Expr} {g : LA} {px py pz pt : Pos} {kt k2 pt2} (hc : X.calm = true) (hN : X.N.Nodup) (ha : PAf X T E [a, b, c] g) (hi : X.N[i]? = some x := by rfl) (hj : X.N[j]? = some y := by rfl) (hl : X.N[l]? = some z := by rfl) (hij : i ≠ j := by decide) (hil : i ≠ l := by decide) (hjl : j ≠ l := by decide)
    (hx : X.env.scope.names.lookup x = some .local := by rfl) (hy : X.env.scope.names.lookup y = some .local := by rfl) (hz : X.env.scope.names.lookup z = some .local := by rfl)
    (hw : swappedStores [.Tuple [.Name x px, .Name y py, .Name z pz] kt pt] (.Tuple [a, b, c] k2 pt2) X.env = pure (some [x, y, z]) := by rfl)
    (hs : swapsWithSole [.Tuple [.Name x px, .Name y py, .Name z pz] kt pt] (.Tuple [a, b, c] k2 pt2) pos.line X.env = pure false := by rfl) :
    PSf X T (W0 E) (.Assign [.Tuple [.Name x px, .Name y py, .Name z pz] kt pt] (.Tuple [a, b, c] k2 pt2) pos) (fPar3 i j l g) := ps_to (ps_par3 hc hN hi hj hl hij hil hjl hx hy hz ha hw hs) fun w σ H env st Dn he r p => by
  refine ⟨w, env, st, he, r, PostS.go (rel := Dats) (fun _ _ _ h => h) he p fun w1 vs H1 ds st1 s1 r1 dv p1 => ?_⟩
  cases dv with
  | nil => exact p1.elim
  | cons d1 dr =>
    cases dr with
    | nil => exact p1.elim
    | cons d2 dr =>
      cases dr with
      | nil => exact p1.elim
      | cons d3 dr =>
        cases dr with
        | cons _ _ => exact p1.elim
        | nil => exact ⟨_, _, _, rfl, p1 w1 _ H1 (Stp.refl w1 H1) ((((he.mono s1.le).set i d1).set j d2).set l d3) r1⟩
/-! ### walks -/
/-- a text's letters -/
def iS (f : LE) : LI := fun env st => (f env st).bind fun d st1 => match d with
  | .str s => .ok (s.cps.toList.map fun c => .str ⟨#[c]⟩, fun _ => true) st1
  | _ => .stuck
theorem sim_iS {K : PySem.W.Frag} {f : LE} : Sim K T E (WalkR K T) (iStr (tOf K T E Dat f)) (iS f) := fun w σ H env st Q he r p => by
  refine ⟨w, env, st, he, r, Post.bind (rel := Dat) p fun w1 x H1 d st1 s1 r1 dx p1 => ?_⟩
  cases dx with
  | str s =>
    refine ⟨s, rfl, p1.here r1 ⟨fun w H st l r _ => ?_, fun i d w H st l r _ e => ?_, fun i d w H st x H' l r _ e y => ?_⟩⟩
    · show s.cps.size ≤ _
      simp
    · have := (List.getElem?_eq_some_iff.mp e).1
      show i < s.cps.size
      simpa using this
    · obtain ⟨rfl, c, h1, rfl⟩ := y
      rw [List.getElem?_map, Array.getElem?_toList, h1] at e
      cases e
      exact ⟨w, Stp.refl w _, r, .str _⟩
  | _ => exact p1.elim
theorem i_str {tg l : Expr} {f : LE} (h : PEf X T E l f) : PIf X T E tg l (iS f) := pi_to (pi_str h) sim_iS
theorem small_of {i j c : Int} (hc : c ≠ 0) (hc2 : c.natAbs < 1073741824) (hi : i.natAbs < 2 ^ 60) (hj : j.natAbs < 2 ^ 60) : Builtin.Range.small i j c = true := by
  have h1 := PyProof.Rows.rangeSize_toNat i j c
  have h2 := PyProof.Rows.rangeSize_toNat_le i j c
  unfold Builtin.Range.small
  simp only [Builtin.Range.rangeFitsLong, Bool.and_eq_true, Bool.or_eq_true, decide_eq_true_eq, beq_iff_eq]
  refine ⟨by omega, .inr ?_⟩
  split <;> (simp only [Bool.and_eq_true, decide_eq_true_eq] ; omega)
/-- range(a, b, c) -/
def iR3 (g : LA) : LI := fun env st => (g env st).bind fun ds st1 => match ds with
  | [.int i, .int j, .int c] => if c ≠ 0 ∧ c.natAbs < 1073741824 ∧ i.natAbs < 2 ^ 60 ∧ j.natAbs < 2 ^ 60 then .ok (rgD i c (Builtin.Range.rangeSize i j c).toNat, fun _ => true) st1 else .stuck
  | _ => .stuck
theorem walk_rc {K : PySem.W.Frag} {w0 : Wd} {lo c : Int} {n : Nat} : Walk K T (Itc lo c n) (rgD lo c n) (fun _ => true) w0 where
  stop := fun w H st l r _ => by
    show n ≤ (rgD lo c n).length
    simp [rgD]
  go := fun i d w H st l r _ e => (rgD_get e).1
  yld := fun i d w H st x H' l r _ e y => by
    obtain ⟨rfl, rfl⟩ := y
    rw [(rgD_get e).2]
    exact ⟨w, Stp.refl w _, r, .int _⟩
theorem i_range3 {tg a b c : Expr} {g : LA} {p pos : Pos} (hm : X.mg "range" = none) (ha : PAf X T E [a, b, c] g) (hg : Gl X "range" := by rfl) (hs : starEach [a, b, c] X.env = (false, eval a X.env) :: starEach [b, c] X.env := by rfl) (hpl : (backTo pos (starEach [b, c] X.env)).any (·.1) = false := by rfl) : PIf X T E tg (.Call (.Name "range" p) [a, b, c] [] pos) (iR3 g) := pi_to (pi_range3 hg hm ha hs hpl) fun w σ H env st Q he r p => by
  refine ⟨w, env, st, he, r, Post.bind (rel := Dats) p fun w1 x H1 ds st1 s1 r1 dx p1 => ?_⟩
  cases dx with
  | nil => exact p1.elim
  | cons d1 dr =>
    cases d1 with
    | int i =>
      cases dr with
      | nil => exact p1.elim
      | cons d2 dr =>
        cases d2 with
        | int j =>
          cases dr with
          | nil => exact p1.elim
          | cons d3 dr =>
            cases d3 with
            | int k =>
              cases dr with
              | nil =>
                have p2 : Post X.K T E (WalkR X.K T) w1 H1 (if k ≠ 0 ∧ k.natAbs < 1073741824 ∧ i.natAbs < 2 ^ 60 ∧ j.natAbs < 2 ^ 60 then .ok (rgD i k (Builtin.Range.rangeSize i j k).toNat, fun _ => true) st1 else .stuck) Q := p1
                by_cases q : k ≠ 0 ∧ k.natAbs < 1073741824 ∧ i.natAbs < 2 ^ 60 ∧ j.natAbs < 2 ^ 60
                · rw [if_pos q] at p2
                  exact ⟨i, j, k, _, rfl, ⟨q.1, q.2.1, small_of q.1 q.2.1 q.2.2.1 q.2.2.2, PyProof.Rows.rangeSize_toNat i j k⟩, p2.here r1 walk_rc⟩
                · rw [if_neg q] at p2
                  exact p2.elim
              | cons _ _ => exact p1.elim
            | _ => exact p1.elim
        | _ => exact p1.elim
    | _ => exact p1.elim
end
/-! ### a table of the module: texts to ints, read with get -/
def valI (e : DictEntry) : Option Int := match e.val with
  | .int i _ => some i
  | _ => none
/-- the table at a has these keys, in turn, and these ints -/
structure TabI (K : PySem.W.Frag) (w : World) (a : Addr) (kvs : List (Str × Int)) : Prop where
  ex : ∃ es n, KDict K w a es n ∧ es.toList.map He.keyOf = He.keysIn w.params (kvs.map (·.1)) ∧ es.toList.map valI = kvs.map fun q => some q.2
theorem tab_find {P : Params} : ∀ {es : List DictEntry} {kvs : List (Str × Int)} (z : Str), es.map He.keyOf = He.keysIn P (kvs.map (·.1)) → es.map valI = kvs.map (fun q => some q.2) →
    (match kvs.lookup z with
    | some i => ∃ t, (es.find? (·.key.isStr z)).map (·.val) = some (.int i t)
    | none => es.find? (·.key.isStr z) = none ∧ es.any (·.refKey) = false)
  | [], [], z, _, _ => ⟨rfl, rfl⟩
  | [], _ :: _, z, h, _ => by cases h
  | _ :: _, [], z, h, _ => by cases h
  | e :: es, (k, i) :: kvs, z, h1, h2 => by
    have h3 : He.keyOf e :: es.map He.keyOf = some (k, PyData.keyHash P k) :: He.keysIn P (kvs.map (·.1)) := h1
    have h4 : valI e :: es.map valI = some i :: kvs.map (fun q => some q.2) := h2
    injection h3 with h5 h6
    injection h4 with h7 h8
    have ih := tab_find z h6 h8
    obtain ⟨t, ek⟩ : ∃ t, e.key = .str k t := by
      unfold He.keyOf at h5
      split at h5
      · rename_i x t q
        have h9 := Option.some.inj h5
        obtain ⟨h10, _⟩ := Prod.mk.inj h9
        exact ⟨t, by rw [q, h10]⟩
      · cases h5
    obtain ⟨u, ev⟩ : ∃ u, e.val = .int i u := by
      unfold valI at h7
      split at h7
      · rename_i x t q
        exact ⟨t, by rw [q, Option.some.inj h7]⟩
      · cases h7
    have ei : e.key.isStr z = (k == z) := by rw [ek]; rfl
    have er : e.refKey = false := by unfold DictEntry.refKey; rw [ek] <;> rfl
    by_cases c : z = k
    · subst c
      have el : List.lookup z ((z, i) :: kvs) = some i := by simp
      rw [el]
      refine ⟨u, ?_⟩
      rw [List.find?_cons, ei]
      simp [ev]
    · have el : List.lookup z ((k, i) :: kvs) = kvs.lookup z := by
        rw [List.lookup_cons, beq_false_of_ne c]
      have ei2 : e.key.isStr z = false := by rw [ei]; exact beq_false_of_ne fun y => c y.symm
      rw [el]
      cases q : kvs.lookup z with
      | some i' =>
        rw [q] at ih
        obtain ⟨t', h⟩ := ih
        refine ⟨t', ?_⟩
        rw [List.find?_cons, ei2]
        exact h
      | none =>
        rw [q] at ih
        refine ⟨?_, ?_⟩
        · rw [List.find?_cons, ei2]
          exact ih.1
        · rw [List.any_cons, er, ih.2, Bool.or_self]
theorem TabI.get {K : PySem.W.Frag} {w : World} {a : Addr} {kvs : List (Str × Int)} (h : TabI K w a kvs) (z : Str) : ∃ es n, KDict K w a es n ∧ (match kvs.lookup z with
    | some i => ∃ t, PySem.W.nsIn K a z = some (some (.int i t))
    | none => PySem.W.nsIn K a z = some none) := by
  obtain ⟨es, n, D, h1, h2⟩ := h
  refine ⟨es, n, D, ?_⟩
  have f := tab_find z h1 h2
  unfold PySem.W.nsIn
  rw [D.at_]
  dsimp only
  cases q : kvs.lookup z with
  | some i =>
    rw [q] at f
    obtain ⟨t, f⟩ := f
    refine ⟨t, ?_⟩
    cases q2 : es.toList.find? (·.key.isStr z) with
    | none => rw [q2] at f; cases f
    | some e =>
      rw [q2] at f
      have f2 : some e.val = some (.int i t) := f
      dsimp only
      rw [f2]
  | none =>
    rw [q] at f
    rw [f.1]
    dsimp only
    rw [f.2]
    rfl
def fGetI (kvs : List (Str × Int)) (fk : LE) (dflt : Int) : LE := fun env st => (fk env st).bind fun d st1 => match d with
  | .str z => .ok (.int ((kvs.lookup z).getD dflt)) st1
  | _ => .stuck
section
variable {X : Cx} {T : List (Addr × Str)} {E : XK}
theorem x_getI {x : Str} {e : Expr} {fk : LE} {kvs : List (Str × Int)} {dflt : Int} {j : Nat} {p q apos cpos : Pos} (D : TabI X.K X.w (He.ga X.K x) kvs) (hm : X.mg x = some (.ref (He.ga X.K x))) (he : PEf X T E e fk) (hg : Gl X x := by rfl) (hdb : (x == ("__debug__" : Str)) = false := by decide)
    (m : M2 X (.Name x p) "get" apos e (.Constant (.int dflt) j q) cpos := by exact ⟨rfl, rfl, rfl, rfl⟩) : PEf X T E (.Call (.Attribute (.Name x p) "get" apos) [e, .Constant (.int dflt) j q] [] cpos) (fGetI kvs fk dflt) := by
  refine ⟨fun pins s σ H Q I h => ?_⟩
  obtain ⟨w, env, st, he0, r, pp⟩ := h
  refine wpAny_Call_method m.base m.few m.line PySem.F.plainAttrs_dict PySem.F.slot_dict_get PySem.F.type_dict_get (ld_glob I hg hm ?_ hdb)
  obtain ⟨es0, n0, D0, _⟩ := D.get x
  have hm0 := PySem.W.mapOf_K (prog := X.prog) (w := X.w) I.kIn D0.at_ D0.lit
  refine ⟨hm0.typeIs, fun b y => ?_, ?_⟩
  · cases y
    exact ⟨_, I.kIn _ _ D0.at_, rfl⟩
  rw [m.trees]
  refine Calls.callWith_builtin rfl (Calls.evalArgs_plain (Calls.spliced_cons (thn (he.run pins s σ H (fun v H => ∃ w1 d st1, Rel X.K T w1 H st1 ∧ Dat w1 v d ∧ Post X.K T E Dat w1 H (match d with
      | .str z => .ok (.int ((kvs.lookup z).getD dflt)) st1
      | _ => .stuck) Q) I ⟨w, env, st, he0, r, Post.bind pp fun w1 x H1 d st1 s1 r1 dx p1 => ⟨w1, d, st1, r1, dx, p1⟩⟩) fun u s2 ⟨y, H2, I2, ry, w1, d, st1, r1, dx, p1⟩ => ?_)))
  refine Calls.spliced_cons (thn (pe_int.run pins s2 σ H2 (fun v H' => v = .int dflt ∧ H' = H2) I2 ⟨rfl, rfl⟩) fun fv s3 ⟨z3, H3, I3, rz, ez, eH⟩ => Calls.spliced_nil ?_)
  subst ez eH
  cases dx with
  | str z =>
    have p1 : Post X.K T E Dat w1 H3 (.ok (.int ((kvs.lookup z).getD dflt)) st1) Q := p1
    obtain ⟨t, rfl⟩ := ry
    obtain ⟨es, n, D1, hz⟩ := D.get z
    have hm1 := PySem.W.mapOf_K (prog := X.prog) (w := X.w) I3.kIn D1.at_ D1.lit
    refine PySem.call_meetsIn PySem.F.slot_dict_get hm1.typeIs PySem.F.entry_dict_get (PySem.F.args_dict_get_3 _ _ _) (meets_dict_get_default (strKind X.prog X.w) _ (PySem.strKind_is X.prog X.w z t) D1.low fv) ⟨_, hm1, ?_⟩
    cases q3 : kvs.lookup z with
    | some i =>
      rw [q3] at hz
      obtain ⟨t', hz⟩ := hz
      rw [PySem.W.find_K D1.at_ hz]
      rw [q3] at p1
      exact ⟨.int i, H3, I3.tok _, ⟨t', rfl⟩, p1.here r1 (.int _)⟩
    | none =>
      rw [q3] at hz
      rw [PySem.W.find_K D1.at_ hz]
      rw [q3] at p1
      exact ⟨.int dflt, H3, I3.tok _, rz, p1.here r1 (.int _)⟩
  | _ => exact p1.elim
end
end Fk
/-! FkL: operators in place; walks of any kind. -/
namespace Fk
open PySem PySem.Spec PyProof.Rows L2
section
variable {X : Cx} {T : List (Addr × Str)}
theorem ip_mul : PIp X .Mult (rI CMul fun i j => .int (i * j)) := by
  intro pins s σ H x y v u Q I r1 r2 h
  obtain ⟨i, j, e1, e2, hc, q⟩ := h
  subst e1; subst e2
  obtain ⟨t, rfl⟩ := r1
  obtain ⟨t', rfl⟩ := r2
  exact PyProof.Rows.imul_int ⟨.int _, H, I.tok _, ⟨_, rfl⟩, q⟩ hc.ok
theorem ip_fdiv : PIp X .FloorDiv (rI CDiv fun i j => .int (i / j)) := by
  intro pins s σ H x y v u Q I r1 r2 h
  obtain ⟨i, j, e1, e2, hc, q⟩ := h
  subst e1; subst e2
  obtain ⟨t, rfl⟩ := r1
  obtain ⟨t', rfl⟩ := r2
  have h1 : (0 : Int) < j := hc.1
  have h2 : j < 1073741824 := hc.2
  have e : i.fdiv j = i / j := Int.fdiv_eq_ediv_of_nonneg i (by omega)
  exact PyProof.Rows.ifloordiv_int (by omega) ⟨.int _, H, I.tok _, ⟨_, by rw [e]⟩, q⟩ (.inl (PyProof.noPylong_small (by omega)))
theorem sim_mulI {K : PySem.W.Frag} : SimR2 K T (rI CMul fun i j => .int (i * j)) oMulI := sim_I (fun i j h => by unfold cMul at h; have h2 := of_decide_eq_true h; exact h2) fun _ _ _ => .int _
theorem sim_divI {K : PySem.W.Frag} : SimR2 K T (rI CDiv fun i j => .int (i / j)) oDiv := sim_I (fun i j h => by have h2 := of_decide_eq_true h; exact h2) fun _ _ _ => .int _
abbrev oAddI : O2 := oI fun i j => .int (i + j)
theorem sim_addI {K : PySem.W.Frag} : SimR2 K T (ipI fun i j => i + j) oAddI := sim_I0 (g := fun i j => .int (i + j)) (g' := fun i j => .int (i + j)) fun _ _ _ => .int _
theorem sim_subI {K : PySem.W.Frag} : SimR2 K T (ipI fun i j => i - j) oSub := sim_I0 (g := fun i j => .int (i - j)) (g' := fun i j => .int (i - j)) fun _ _ _ => .int _
theorem sim_addF {K : PySem.W.Frag} : SimR2 K T rAdd oAddI := sim_I0 (g := fun i j => .int (i + j)) (g' := fun i j => .int (i + j)) fun _ _ _ => .int _
end
/-! ### a walk of what it is -/
/-- the cell stays the same meanwhile -/
noncomputable def gC (k : Nat) (xs : List D) : Store → Bool := fun st => @decide (st[k]? = some (.lst xs)) (Classical.propDecidable _)
theorem gC_iff {k : Nat} {xs : List D} {st : Store} : gC k xs st = true ↔ st[k]? = some (.lst xs) := by
  unfold gC
  exact @decide_eq_true_iff _ (Classical.propDecidable _)
/-- what is walked: its things, and what must stay -/
noncomputable def wkOf (d : D) (st : Store) : Option IT := match d with
  | .lst xs => some (xs, fun _ => true)
  | .lck xs => some (xs, fun _ => true)
  | .tup xs => some (xs, fun _ => true)
  | .str s => some (s.cps.toList.map fun c => .str ⟨#[c]⟩, fun _ => true)
  | .ref k => (match st[k]? with
    | some (.lst xs) => some (xs, gC k xs)
    | _ => none)
  | _ => none
noncomputable def iA (f : LE) : LI := fun env st => (f env st).bind fun d st1 => match wkOf d st1 with
  | some it => .ok it st1
  | none => .stuck
abbrev iAnyI (K : PySem.W.Frag) (tl : TE) : TI := fun σ H R => tl σ H fun x H1 => (∃ a, x = .ref a ∧ (∃ xs, SqL K H1 a xs) ∧ R (Itl K a) H1) ∨ (∃ a, x = .ref a ∧ (∃ xs, SqT K H1 a xs) ∧ R (Itt K a) H1) ∨ ∃ s, x = .str s ∧ R (Its s) H1
section
variable {X : Cx} {T : List (Addr × Str)} {E : XK} {K : PySem.W.Frag}
theorem pi_any {tg l : Expr} {tl : TE} (hl : PE X l tl) : PI X tg l (iAnyI X.K tl) := by
  constructor
  intro ps s0 sg H R I hh
  refine thn (hl.run ps s0 sg H _ I hh) fun v s1 ⟨x, H1, J, rx, q0⟩ => ?_
  rcases q0 with ⟨a, rfl, ⟨xs, hx⟩, q⟩ | ⟨a, rfl, ⟨xs, hx⟩, q⟩ | ⟨z, rfl, q⟩
  · cases rx
    obtain ⟨us, ru, pl, _⟩ := J.list hx
    exact wpAny_pyIter_list pl.isList (pi_one (tk := s1.toks) J _ (turn_list a _) ⟨_, Heap.get?_push_size _ rfl, rfl, rfl⟩ q)
  · cases rx
    obtain ⟨us, ru, pt, _⟩ := J.tuple hx
    exact wpAny_pyIter_tuple (show s1.heap.IsTuple a us.toArray from pt) (pi_one (tk := s1.toks) J _ (turn_tuple a _) ⟨_, Heap.get?_push_size _ rfl, rfl, rfl⟩ q)
  · obtain ⟨t, rfl⟩ := rx
    cases hz : z.cps.all (· < 128) with
    | false => exact wpAny_pyIter_wide hz (pi_one (tk := s1.toks) J _ (turn_str _ z t "str_iterator" (.inr rfl)) ⟨_, Heap.get?_push_size _ rfl, rfl, rfl⟩ q)
    | true => exact wpAny_pyIter_ascii hz (pi_one (tk := s1.toks) J _ (turn_str _ z t "str_ascii_iterator" (.inl rfl)) ⟨_, Heap.get?_push_size _ rfl, rfl, rfl⟩ q)
/-- a list's walk while g holds -/
theorem walk_lg {w0 : Wd} {a : Addr} {ds : List D} {g : Store → Bool} (h : ∀ w H st, Le w0 w → Rel K T w H st → g st = true → ∃ vs, SqL K H a vs ∧ Dats w vs ds) : Walk K T (Itl K a) ds g w0 where
  stop := fun w H st l r q => by
    obtain ⟨vs, h1, h2⟩ := h w H st l r q
    exact ⟨vs, h1, by rw [h2.length]; exact Nat.le_refl _⟩
  go := fun i d w H st l r q e => by
    obtain ⟨vs, h1, h2⟩ := h w H st l r q
    obtain ⟨v, h3, _⟩ := h2.get e
    exact ⟨vs, v, h1, h3⟩
  yld := fun i d w H st x H' l r q e y => by
    obtain ⟨rfl, y⟩ := y
    obtain ⟨vs, h1, h2⟩ := h w H' st l r q
    obtain ⟨v, h3, h4⟩ := h2.get e
    have z := y vs h1
    rw [h3] at z
    cases z
    exact ⟨w, Stp.refl w _, r, h4⟩
/-- a list, as it stands, under gC -/
theorem cell_sq {w0 w : Wd} {H : Hp} {st : Store} {k : Nat} {a : Addr} {xs : List D} (l : Le w0 w) (r : Rel K T w H st) (ha : w0.ads[k]? = some a) (g : gC k xs st = true) : ∃ vs, SqL K H a vs ∧ Dats w vs xs := by
  obtain ⟨p, e1, _, vs, h1, h2⟩ := r.addr (gC_iff.mp g)
  rw [l.ads _ _ ha] at e1
  cases e1
  exact ⟨vs, SqL.of h1, h2⟩
theorem sim_iA {f : LE} : Sim K T E (WalkR K T) (iAnyI K (tOf K T E Dat f)) (iA f) := fun w σ H env st Q he r p => by
  refine ⟨w, env, st, he, r, Post.bind (rel := Dat) p fun w1 x H1 d st1 s1 r1 dx p1 => ?_⟩
  cases dx with
  | @lst a vs ds hF hd => exact .inl ⟨a, rfl, ⟨vs, SqL.of (r1.fr _ _ hF)⟩, p1.here r1 (walk_lg fun w H st l r _ => ⟨vs, SqL.of (r.fr _ _ (l.fr _ _ hF)), hd.mono l⟩)⟩
  | @lck a vs ds hF hd => exact .inl ⟨a, rfl, ⟨vs, r1.sc hF⟩, p1.here r1 (walk_lg fun w H st l r _ => ⟨vs, r.sc (by rw [l.scr]; exact hF), hd.mono l⟩)⟩
  | @tup a vs ds hF hd =>
    refine .inr (.inl ⟨a, rfl, ⟨vs, SqT.of (r1.fr _ _ hF)⟩, p1.here r1 ⟨fun w H st l r _ => ⟨vs, SqT.of (r.fr _ _ (l.fr _ _ hF)), by rw [hd.length]; exact Nat.le_refl _⟩, fun i d w H st l r _ e => ?_, fun i d w H st x H' l r _ e y => ?_⟩⟩)
    · obtain ⟨v, h1, _⟩ := hd.get e
      exact ⟨vs, v, SqT.of (r.fr _ _ (l.fr _ _ hF)), h1⟩
    · obtain ⟨rfl, y⟩ := y
      obtain ⟨v, h1, h2⟩ := hd.get e
      have z := y vs (SqT.of (r.fr _ _ (l.fr _ _ hF)))
      rw [h1] at z
      cases z
      exact ⟨w, Stp.refl w _, r, h2.mono l⟩
  | str s =>
    refine .inr (.inr ⟨s, rfl, p1.here r1 ⟨fun w H st l r _ => ?_, fun i d w H st l r _ e => ?_, fun i d w H st x H' l r _ e y => ?_⟩⟩)
    · show s.cps.size ≤ _
      simp
    · have := (List.getElem?_eq_some_iff.mp e).1
      show i < s.cps.size
      simpa using this
    · obtain ⟨rfl, c, h1, rfl⟩ := y
      rw [List.getElem?_map, Array.getElem?_toList, h1] at e
      cases e
      exact ⟨w, Stp.refl w _, r, .str _⟩
  | @ref a k ha =>
    have p2 : Post K T E (WalkR K T) w1 H1 (match (match st1[k]? with | some (.lst xs) => some (xs, gC k xs) | _ => none) with | some it => .ok it st1 | none => .stuck) Q := p1
    cases q : st1[k]? with
    | none => rw [q] at p2; exact p2.elim
    | some c =>
      rw [q] at p2
      cases c with
      | lst xs =>
        obtain ⟨vs, h1, _⟩ := cell_sq (Le.refl w1) r1 ha (gC_iff.mpr q)
        exact .inl ⟨a, rfl, ⟨vs, h1⟩, p2.here r1 (walk_lg fun w H st l r g => cell_sq l r ha g)⟩
      | _ => exact p2.elim
  | _ => exact p1.elim
theorem i_any {tg l : Expr} {f : LE} (h : PEf X T E l f) : PIf X T E tg l (iA f) := pi_to (pi_any h) sim_iA
/-- a list only -/
noncomputable def wkL (d : D) (st : Store) : Option IT := match d with
  | .lst xs => some (xs, fun _ => true)
  | .lck xs => some (xs, fun _ => true)
  | .ref k => (match st[k]? with
    | some (.lst xs) => some (xs, gC k xs)
    | _ => none)
  | _ => none
theorem wkL_at {w : Wd} {H : Hp} {st : Store} {x : V} {d : D} {xs : List D} {g : Store → Bool} (r : Rel K T w H st) (dx : Dat w x d) (e : wkL d st = some (xs, g)) : ∃ a vs, x = .ref a ∧ SqL K H a vs ∧ vs.length = xs.length ∧ ∀ w' H' st', Le w w' → Rel K T w' H' st' → g st' = true → ∃ vs, SqL K H' a vs ∧ Dats w' vs xs := by
  cases dx with
  | @lst a vs ds hF hd =>
    cases e
    exact ⟨a, vs, rfl, SqL.of (r.fr _ _ hF), hd.length, fun w H st l r _ => ⟨vs, SqL.of (r.fr _ _ (l.fr _ _ hF)), hd.mono l⟩⟩
  | @lck a vs ds hF hd =>
    cases e
    exact ⟨a, vs, rfl, r.sc hF, hd.length, fun w H st l r _ => ⟨vs, r.sc (by rw [l.scr]; exact hF), hd.mono l⟩⟩
  | @ref a k ha =>
    have e' : (match st[k]? with | some (.lst xs) => some (xs, gC k xs) | _ => none) = some (xs, g) := e
    cases q : st[k]? with
    | none => rw [q] at e'; cases e'
    | some c =>
      rw [q] at e'
      cases c with
      | lst ys =>
        cases e'
        obtain ⟨vs, h1, h2⟩ := cell_sq (Le.refl w) r ha (gC_iff.mpr q)
        exact ⟨a, vs, rfl, h1, h2.length, fun w H st l r g => cell_sq l r ha g⟩
      | _ => cases e'
  | _ => cases e
/-- enumerate(xs), reversed(xs) -/
noncomputable def iEn (g : LA) : LI := fun env st => (g env st).bind fun ds st1 => match ds with
  | [d] => (match wkL d st1 with
    | some (xs, g) => .ok (numD 0 xs, g) st1
    | none => .stuck)
  | _ => .stuck
theorem i_en {e : Expr} {g : LA} {p tpos pos : Pos} {elts : List Expr} {kk : Nat} (hm : X.mg "enumerate" = none) (ha : PAf X T E [e] g) (hg : Gl X "enumerate" := by rfl) (hs : starEach [e] X.env = [(false, eval e X.env)] := by rfl) :
    PIf X T E (.Tuple elts kk tpos) (.Call (.Name "enumerate" p) [e] [] pos) (iEn g) := pi_to (pi_enum hg hm ha hs) fun w σ H env st Q he r p => by
  refine ⟨w, env, st, he, r, Post.bind (rel := Dats) p fun w1 x H1 ds st1 s1 r1 dx p1 => ?_⟩
  cases dx with
  | nil => exact p1.elim
  | cons d1 dr =>
    cases dr with
    | cons _ _ => exact p1.elim
    | nil =>
      rename_i v d
      have p2 : Post X.K T E (WalkR X.K T) w1 H1 (match wkL d st1 with | some (xs, g) => .ok (numD 0 xs, g) st1 | none => .stuck) Q := p1
      cases q : wkL d st1 with
      | none => rw [q] at p2; exact p2.elim
      | some it =>
        obtain ⟨xs, gg⟩ := it
        rw [q] at p2
        obtain ⟨a, vs, rfl, h1, hlen, h2⟩ := wkL_at r1 d1 q
        refine ⟨a, vs, rfl, h1, p2.here r1 ⟨fun w H st l r g => ?_, fun i d w H st l r g e => ?_, fun i d w H st x H' l r g e y => ?_⟩⟩
        · obtain ⟨us, h3, h4⟩ := h2 w H st l r g
          exact ⟨us, h3, by rw [h4.length]; simp [numD_length]⟩
        · obtain ⟨d', h5, _⟩ := numD_get e
          obtain ⟨us, h3, h4⟩ := h2 w H st l r g
          obtain ⟨v, h6, _⟩ := h4.get h5
          exact ⟨us, v, h3, h6⟩
        · obtain ⟨d', h5, rfl⟩ := numD_get e
          obtain ⟨us, h3, h4⟩ := h2 w H st l r g
          obtain ⟨v, h6, h7⟩ := h4.get h5
          obtain ⟨t, x', rfl, ht, rfl, hx⟩ := y
          have z := hx us h3
          rw [h6] at z
          cases z
          obtain ⟨s2, r2⟩ := r.laid ht (.tup [.int (i : Nat), v])
          refine ⟨_, s2, r2, .tup upd_same (.cons ?_ (.cons (h7.mono s2.le) .nil))⟩
          rw [Nat.zero_add]
          exact .int _
noncomputable def iRe (g : LA) : LI := fun env st => (g env st).bind fun ds st1 => match ds with
  | [d] => (match wkL d st1 with
    | some (xs, g) => .ok (xs.reverse, g) st1
    | none => .stuck)
  | _ => .stuck
theorem i_re {tg e : Expr} {g : LA} {p pos : Pos} (hm : X.mg "reversed" = none) (ha : PAf X T E [e] g) (hg : Gl X "reversed" := by rfl) (hs : starEach [e] X.env = [(false, eval e X.env)] := by rfl) :
    PIf X T E tg (.Call (.Name "reversed" p) [e] [] pos) (iRe g) := pi_to (pi_reversed hg hm ha hs) fun w σ H env st Q he r p => by
  refine ⟨w, env, st, he, r, Post.bind (rel := Dats) p fun w1 x H1 ds st1 s1 r1 dx p1 => ?_⟩
  cases dx with
  | nil => exact p1.elim
  | cons d1 dr =>
    cases dr with
    | cons _ _ => exact p1.elim
    | nil =>
      rename_i v d
      have p2 : Post X.K T E (WalkR X.K T) w1 H1 (match wkL d st1 with | some (xs, g) => .ok (xs.reverse, g) st1 | none => .stuck) Q := p1
      cases q : wkL d st1 with
      | none => rw [q] at p2; exact p2.elim
      | some it =>
        obtain ⟨xs, gg⟩ := it
        rw [q] at p2
        obtain ⟨a, vs, rfl, h1, hlen, h2⟩ := wkL_at r1 d1 q
        have key : ∀ (us : List V) (w' : Wd) (i : Nat) (d : D), Dats w' us xs → xs.reverse[i]? = some d → i < us.length ∧ ∃ v, us[us.length - 1 - i]? = some v ∧ Dat w' v d := fun us w' i d hd e => by
          obtain ⟨v, h1, h2⟩ := hd.reverse.get e
          have hi := (List.getElem?_eq_some_iff.mp h1).1
          rw [List.length_reverse] at hi
          rw [List.getElem?_reverse hi] at h1
          exact ⟨hi, v, h1, h2⟩
        refine ⟨a, vs, rfl, h1, p2.here r1 ⟨fun w H st l r g => ?_, fun i d w H st l r g e => ?_, fun i d w H st x H' l r g e y => ?_⟩⟩
        · show vs.length ≤ xs.reverse.length
          rw [hlen]
          simp
        · obtain ⟨us, h3, h4⟩ := h2 w H st l r g
          obtain ⟨hi, v, h5, _⟩ := key us w i d h4 e
          have el : us.length = vs.length := by rw [h4.length, hlen]
          exact ⟨by rw [← el]; exact hi, us, v, h3, by rw [← el]; exact h5⟩
        · obtain ⟨rfl, y⟩ := y
          obtain ⟨us, h3, h4⟩ := h2 w H' st l r g
          obtain ⟨hi, v, h5, h6⟩ := key us w i d h4 e
          have el : us.length = vs.length := by rw [h4.length, hlen]
          have z := y us h3
          rw [← el, h5] at z
          cases z
          exact ⟨w, Stp.refl w _, r, h6⟩
end
end Fk
/-! FkM: facts of the head with tables; the law's start and end. -/
namespace Fk
open PySem PySem.Spec PyProof.Rows L2
/-! ### facts: names, defs, tables of ints -/
abbrev TbD : Type := Str × List (Str × Int)
def rowI (K : PySem.W.Frag) (a : Addr) : List (Option Int) := match K.lookup a with
  | some ⟨_, _, .dict es _, _⟩ => es.toList.map valI
  | _ => []
def tabOf (t : TbD) : He.Tab := (fun K => He.ga K t.1, t.2.map (·.1))
abbrev AlF : Type := He.AlT × List (List (Option Int))
def obsF (fa : List He.Fa) (fn : List He.DefD) (tb : List TbD) (K : PySem.W.Frag) : AlF := (He.obsT fa fn (tb.map tabOf) K, tb.map fun t => rowI K (He.ga K t.1))
def valF (fn : List He.DefD) (tb : List TbD) (w : World) : AlF := (He.valT fn (tb.map tabOf) w, tb.map fun t => t.2.map fun q => some q.2)
def obsFG (n : Nat) (fa : List He.Fa) (fn : List He.DefD) (tb : List TbD) (g : Addr → Option Obj) : AlF := obsF fa fn tb (He.frG g (He.asD g n))
def SaysF (fa : List He.Fa) (fn : List He.DefD) (tb : List TbD) (w : World) (K : PySem.W.Frag) : Prop := obsF fa fn tb K = valF fn tb w
def hookF (n : Nat) (fa : List He.Fa) (fn : List He.DefD) (tb : List TbD) : PySem.W.Hook where
  α := AlF
  obs := fun s => obsFG n fa fn tb s.heap.get?
  val := fun w => valF fn tb w
  says := fun w h => ∃ K : PySem.W.Frag, K.In h ∧ SaysF fa fn tb w K
  of := fun _ _ e => ⟨_, He.frG_in, e⟩
  keeps := fun _ _ _ ⟨K, hK, c⟩ k => ⟨K, PySem.W.Frag.In.keeps hK k, c⟩
theorem obsFG_eq {n : Nat} {fa : List He.Fa} {fn : List He.DefD} {tb : List TbD} {g : Addr → Option Obj} {s : Shared} (h : ∀ a, g a = s.heap.get? a) : obsFG n fa fn tb g = (hookF n fa fn tb).obs s := by
  have e : g = s.heap.get? := funext h
  rw [e] <;> rfl
section
variable {fa : List He.Fa} {fn : List He.DefD} {tb : List TbD} {w : World} {K : PySem.W.Frag}
theorem SaysF.t (c : SaysF fa fn tb w K) : He.SaysT fa fn (tb.map tabOf) w K := congrArg (fun z : AlF => z.1) c
theorem SaysF.d (c : SaysF fa fn tb w K) : He.SaysD fa fn K := c.t.d
theorem SaysF.tab (c : SaysF fa fn tb w K) (i : Nat) {t : TbD} (h : tb[i]? = some t := by rfl) : TabI K w (He.ga K t.1) t.2 := by
  have e1 : (tb.map tabOf).map (fun t => He.dicW K (t.1 K)) = (tb.map tabOf).map fun t => some (He.keysIn w.params t.2) := congrArg (fun z : He.AlT => z.2) c.t
  have e2 : (tb.map fun t => rowI K (He.ga K t.1)) = tb.map fun t => t.2.map fun q => some q.2 := congrArg (fun z : AlF => z.2) c
  have e3 : ((tb.map tabOf).map (fun t => He.dicW K (t.1 K)))[i]? = ((tb.map tabOf).map fun t => some (He.keysIn w.params t.2))[i]? := by rw [e1]
  have e4 : (tb.map fun t => rowI K (He.ga K t.1))[i]? = (tb.map fun t => t.2.map fun q => some q.2)[i]? := by rw [e2]
  rw [List.getElem?_map, List.getElem?_map, List.getElem?_map, List.getElem?_map, h] at e3
  rw [List.getElem?_map, List.getElem?_map, h] at e4
  have e5 : He.dicW K (He.ga K t.1) = some (He.keysIn w.params (t.2.map (·.1))) := Option.some.inj e3
  have e6 : rowI K (He.ga K t.1) = t.2.map fun q => some q.2 := Option.some.inj e4
  obtain ⟨es, n, D⟩ := He.dicW_ok e5
  refine ⟨es, n, D, ?_, ?_⟩
  · unfold He.dicW at e5
    rw [D.at_] at e5
    dsimp only at e5
    split at e5
    · exact Option.some.inj e5
    · cases e5
  · unfold rowI at e6
    rw [D.at_] at e6
    exact e6
end
/-- what a row's top says -/
def Fx (fa : List He.Fa) (fn : List He.DefD) (tb : List TbD) (w : World) (K : PySem.W.Frag) (mg : Str → Option Value) : Prop := ∃ h : Heap, K.In h ∧ h.Ns mainGlobals mg ∧ SaysF fa fn tb w K
section
variable {fa : List He.Fa} {fn : List He.DefD} {tb : List TbD} {w : World} {K : PySem.W.Frag} {mg : Str → Option Value}
theorem Fx.glo (z : Fx fa fn tb w K mg) {x : Str} (i : Nat) (h : fa[i]? = some (.glo x) := by rfl) : mg x = some (.ref (He.ga K x)) := by
  obtain ⟨_, X, G, c⟩ := z
  exact He.glo_ok X G (c.d.fact i h)
theorem Fx.free (z : Fx fa fn tb w K mg) {x : Str} (i : Nat) (h : fa[i]? = some (.free x) := by rfl) : mg x = none := by
  obtain ⟨_, X, G, c⟩ := z
  exact He.free_ok X G (c.d.fact i h)
theorem Fx.int (z : Fx fa fn tb w K mg) {x : Str} {n : Int} (i : Nat) (h : fa[i]? = some (.int x n) := by rfl) : ∃ t, mg x = some (.int n t) := by
  obtain ⟨_, X, G, c⟩ := z
  exact He.int_ok X G (c.d.fact i h)
theorem Fx.str (z : Fx fa fn tb w K mg) {x y : Str} (i : Nat) (h : fa[i]? = some (.str x y) := by rfl) : ∃ t, mg x = some (.str y t) := by
  obtain ⟨_, X, G, c⟩ := z
  exact He.str_ok X G (c.d.fact i h)
theorem Fx.cls (z : Fx fa fn tb w K mg) {x : Str} (i : Nat) (h : fa[i]? = some (.cls x) := by rfl) : Cls K (He.ga K x) := by
  obtain ⟨_, X, G, c⟩ := z
  exact He.cls_ok (c.d.fact i h)
theorem Fx.noat (z : Fx fa fn tb w K mg) {x f : Str} (i : Nat) (h : fa[i]? = some (.noat x f) := by rfl) : NoAttr K (He.ga K x) f := by
  obtain ⟨_, X, G, c⟩ := z
  exact He.noat_ok (c.d.fact i h)
theorem Fx.meth (z : Fx fa fn tb w K mg) {x m : Str} (i : Nat) (h : fa[i]? = some (.meth x m) := by rfl) : Meth K (He.ga K x) m (He.ma K (He.ga K x) m) := by
  obtain ⟨_, X, G, c⟩ := z
  exact He.meth_ok (c.d.fact i h)
theorem Fx.mkr (z : Fx fa fn tb w K mg) {x : Str} (i : Nat) (h : fa[i]? = some (.mkr x) := by rfl) : Mk K (He.ga K x) (He.ma K (He.ga K x) "__init__") := by
  obtain ⟨_, X, G, c⟩ := z
  exact He.mkr_ok (c.d.fact i h)
theorem Fx.def_ (z : Fx fa fn tb w K mg) (i : Nat) {d : He.DefD} (h : fn[i]? = some d := by rfl) : ∃ fd, FunD K d.name d.qual d.params d.body d.scope (d.dvs K) (d.kws K) (He.fAd K d.at_) fd := by
  obtain ⟨_, X, G, c⟩ := z
  exact c.d.def_ i h
theorem Fx.tab (z : Fx fa fn tb w K mg) (i : Nat) {t : TbD} (h : tb[i]? = some t := by rfl) : TabI K w (He.ga K t.1) t.2 := by
  obtain ⟨_, X, G, c⟩ := z
  exact c.tab i h
end
/-! ### the law's start -/
/-- the world at the start -/
def noTab : Option HO → Option HO
  | some (.tbl _) => none
  | o => o
theorem noTab_of {x : Option HO} {o : HO} (h : noTab x = some o) : x = some o := by
  unfold noTab at h
  split at h
  · cases h
  · exact h
theorem noTab_ne {x : Option HO} {ps : Array Value} (h : noTab x = some (.tbl ps)) : False := by
  have e := noTab_of h
  rw [e] at h
  cases h
def wd0 (H : Hp) (a : Addr) (ns : List Int) : Wd := ⟨fun p => if p = a then noTab (H p) else none, [], fun p => if p = a then some (ns.map V.int) else none⟩
theorem start_rel {K : PySem.W.Frag} {H : Hp} {a : Addr} {ns : List Int} (hS : SqL K H a (ns.map V.int)) (T : List (Addr × Str)) (hT : LamX.Tabs T H) : Rel K T (wd0 H a ns) H [] ∧ Dat (wd0 H a ns) (.ref a) (.lck (ns.map D.int)) := by
  refine ⟨⟨fun p o h => ?_, rfl, List.nodup_nil, fun k c p h _ => (by cases h), hT, fun p vs h => ?_, fun p ps h => ?_⟩, .lck (by simp [wd0]) (Dats.of_ints ns)⟩
  · have h' : (if p = a then noTab (H p) else none) = some o := h
    by_cases c : p = a
    · rw [if_pos c] at h'
      exact noTab_of h'
    · rw [if_neg c] at h'
      cases h'
  · have h' : (if p = a then some (ns.map V.int) else none) = some vs := h
    by_cases c : p = a
    · rw [if_pos c] at h'
      cases h'
      subst c
      rcases hS with (hS | ⟨o, hS⟩) | hS
      · exact .inl ⟨_, by simp [wd0, hS]; rfl, fun H' h => SqL.of h⟩
      · exact .inl ⟨_, by simp [wd0, hS]; rfl, fun H' h => .inl (.inr ⟨o, h⟩)⟩
      · exact .inr fun H => .inr hS
    · rw [if_neg c] at h'
      cases h'
  · have h' : (if p = a then noTab (H p) else none) = some (.tbl ps) := h
    by_cases c : p = a
    · rw [if_pos c] at h'
      exact noTab_ne h'
    · rw [if_neg c] at h'
      cases h'
theorem law_sp {K : PySem.W.Frag} {H : Hp} {a : Addr} {ns : List Int} {f : FM} {st : Store} {T : List (Addr × Str)} (hT : LamX.Tabs T H) (hS : SqL K H a (ns.map V.int)) (h : f [.lck (ns.map D.int)] [] = .ok (.bl true) st) (E : XK) : spOf K T 1 f [.ref a] H (fun v _ => v = .bl true) E := by
  obtain ⟨r, d⟩ := start_rel hS T hT
  refine ⟨rfl, _, _, _, .one d, r, ?_⟩
  rw [h]
  intro w' v H' s' r' dv
  cases dv
  rfl
theorem cx_none {P : Program} : ∀ (w : World) (H : Hp) (s : Shared) (e : Value) (s' : Shared), L2.CX P w [] H s (fun _ _ _ => False) e s' → False := fun _ _ _ _ _ h => by
  obtain ⟨_, _, _, _, _, _, _, _, _, _, _, _, z⟩ := h
  exact z
end Fk
/-! FkN: the plain functions, evaluated. -/
namespace Fk
open PySem PySem.Spec PyProof.Rows L2
/-! ### results -/
@[simp] theorem Res.bind_at {α β : Type} (a : α) (st : Store) (f : α → Store → Res β) : (Res.ok a st).bind f = f a st := (rfl)
@[simp] theorem Res.bind_ex {α β : Type} (x : Exn) (st : Store) (f : α → Store → Res β) : (Res.ex x st).bind f = .ex x st := (rfl)
@[simp] theorem Res.bind_stuck {α β : Type} (f : α → Store → Res β) : (Res.stuck).bind f = .stuck := (rfl)
@[simp] theorem Res.go_at {α : Type} (a : α) (st : Store) (env : DEnv) (f : α → Store → RS) : (Res.ok a st).go env f = f a st := (rfl)
@[simp] theorem Res.go_ex {α : Type} (x : Exn) (st : Store) (env : DEnv) (f : α → Store → RS) : (Res.ex x st : Res α).go env f = .ex x env st := (rfl)
/-! ### names -/
def atV (o : Option (Option D)) (st : Store) : Res D := match o with
  | some (some d) => .ok d st
  | _ => .stuck
@[simp] theorem fVar_eq (i : Nat) (env : DEnv) (st : Store) : fVar i env st = atV env[i]? st := (rfl)
@[simp] theorem atV_some (d : D) (st : Store) : atV (some (some d)) st = .ok d st := (rfl)
@[simp] theorem fC_eq (d : D) (env : DEnv) (st : Store) : fC d env st = .ok d st := (rfl)
/-! ### operators -/
def kOp1 (o : O2) (fb : LE) (env : DEnv) : D → Store → Res D := fun d st1 => (fb env st1).bind (o d)
@[simp] theorem kOp1_eq (o : O2) (fb : LE) (env : DEnv) (d : D) (st1 : Store) : kOp1 o fb env d st1 = (fb env st1).bind (o d) := (rfl)
@[simp] theorem fOp_eq (o : O2) (fa fb : LE) (env : DEnv) (st : Store) : fOp o fa fb env st = (fa env st).bind (kOp1 o fb env) := (rfl)
@[simp] theorem fUn_eq (o : O1) (fa : LE) (env : DEnv) (st : Store) : fUn o fa env st = (fa env st).bind o := (rfl)
def kTest : D → Store → Res Bool := fun d st1 => match d with
  | .bl b => .ok b st1
  | _ => .stuck
@[simp] theorem kTest_bl (b : Bool) (st : Store) : kTest (.bl b) st = .ok b st := (rfl)
@[simp] theorem fTest_eq (f : LE) (env : DEnv) (st : Store) : fTest f env st = (f env st).bind kTest := (rfl)
def kAnd (tb : LT) (env : DEnv) : Bool → Store → Res Bool := fun c st1 => if c = true then tb env st1 else .ok false st1
def kOr (tb : LT) (env : DEnv) : Bool → Store → Res Bool := fun c st1 => if c = true then .ok true st1 else tb env st1
def kNot : Bool → Store → Res Bool := fun c st1 => .ok (!c) st1
@[simp] theorem fAnd_eq (ta tb : LT) (env : DEnv) (st : Store) : fAnd ta tb env st = (ta env st).bind (kAnd tb env) := (rfl)
@[simp] theorem fOr_eq (ta tb : LT) (env : DEnv) (st : Store) : fOr ta tb env st = (ta env st).bind (kOr tb env) := (rfl)
@[simp] theorem fNot_eq (ta : LT) (env : DEnv) (st : Store) : fNot ta env st = (ta env st).bind kNot := (rfl)
@[simp] theorem kAnd_t (tb : LT) (env : DEnv) (st : Store) : kAnd tb env true st = tb env st := (rfl)
@[simp] theorem kAnd_f (tb : LT) (env : DEnv) (st : Store) : kAnd tb env false st = .ok false st := (rfl)
@[simp] theorem kOr_t (tb : LT) (env : DEnv) (st : Store) : kOr tb env true st = .ok true st := (rfl)
@[simp] theorem kOr_f (tb : LT) (env : DEnv) (st : Store) : kOr tb env false st = tb env st := (rfl)
@[simp] theorem kNot_eq (c : Bool) (st : Store) : kNot c st = .ok (!c) st := (rfl)
def kAndV (fb : LE) (env : DEnv) : D → Store → Res D := fun d st1 => match d with
  | .bl true => fb env st1
  | .bl false => .ok (.bl false) st1
  | _ => .stuck
def kOrV (fb : LE) (env : DEnv) : D → Store → Res D := fun d st1 => match d with
  | .bl true => .ok (.bl true) st1
  | .bl false => fb env st1
  | _ => .stuck
def kNotV : D → Store → Res D := fun d st1 => match d with
  | .bl b => .ok (.bl (!b)) st1
  | _ => .stuck
@[simp] theorem fAndV_eq (fa fb : LE) (env : DEnv) (st : Store) : fAndV fa fb env st = (fa env st).bind (kAndV fb env) := (rfl)
@[simp] theorem fOrV_eq (fa fb : LE) (env : DEnv) (st : Store) : fOrV fa fb env st = (fa env st).bind (kOrV fb env) := (rfl)
@[simp] theorem fNotV_eq (fa : LE) (env : DEnv) (st : Store) : fNotV fa env st = (fa env st).bind kNotV := (rfl)
@[simp] theorem kAndV_t (fb : LE) (env : DEnv) (st : Store) : kAndV fb env (.bl true) st = fb env st := (rfl)
@[simp] theorem kAndV_f (fb : LE) (env : DEnv) (st : Store) : kAndV fb env (.bl false) st = .ok (.bl false) st := (rfl)
@[simp] theorem kOrV_t (fb : LE) (env : DEnv) (st : Store) : kOrV fb env (.bl true) st = .ok (.bl true) st := (rfl)
@[simp] theorem kOrV_f (fb : LE) (env : DEnv) (st : Store) : kOrV fb env (.bl false) st = fb env st := (rfl)
@[simp] theorem kNotV_bl (b : Bool) (st : Store) : kNotV (.bl b) st = .ok (.bl (!b)) st := (rfl)
/-- a truth that is not yet known, ahead of what is and what is not -/
theorem kAndV_if (fb : LE) (env : DEnv) (b : Bool) (st : Store) : kAndV fb env (.bl b) st = if b = true then fb env st else .ok (.bl false) st := by cases b <;> rfl
theorem kOrV_if (fb : LE) (env : DEnv) (b : Bool) (st : Store) : kOrV fb env (.bl b) st = if b = true then .ok (.bl true) st else fb env st := by cases b <;> rfl
theorem kAnd_if (tb : LT) (env : DEnv) (b : Bool) (st : Store) : kAnd tb env b st = if b = true then tb env st else .ok false st := rfl
theorem kOr_if (tb : LT) (env : DEnv) (b : Bool) (st : Store) : kOr tb env b st = if b = true then .ok true st else tb env st := rfl
def kIf (fa fb : LE) (env : DEnv) : Bool → Store → Res D := fun c st1 => if c = true then fa env st1 else fb env st1
@[simp] theorem fIf_eq (t : LT) (fa fb : LE) (env : DEnv) (st : Store) : fIf t fa fb env st = (t env st).bind (kIf fa fb env) := (rfl)
@[simp] theorem kIf_t (fa fb : LE) (env : DEnv) (st : Store) : kIf fa fb env true st = fa env st := (rfl)
@[simp] theorem kIf_f (fa fb : LE) (env : DEnv) (st : Store) : kIf fa fb env false st = fb env st := (rfl)
theorem kIf_if (fa fb : LE) (env : DEnv) (b : Bool) (st : Store) : kIf fa fb env b st = if b = true then fa env st else fb env st := rfl
def kCh1 (o o' : O2) (fb fc : LE) (env : DEnv) : D → Store → Res D := fun d st1 => (fb env st1).bind fun e st2 => (o d e st2).bind fun z st3 => match z with
  | .bl true => (fc env st3).bind fun f st4 => o' e f st4
  | .bl false => .ok (.bl false) st3
  | _ => .stuck
def kCh2 (o o' : O2) (fc : LE) (env : DEnv) (d : D) : D → Store → Res D := fun e st2 => (o d e st2).bind fun z st3 => match z with
  | .bl true => (fc env st3).bind fun f st4 => o' e f st4
  | .bl false => .ok (.bl false) st3
  | _ => .stuck
def kCh3 (o' : O2) (fc : LE) (env : DEnv) (e : D) : D → Store → Res D := fun z st3 => match z with
  | .bl true => (fc env st3).bind fun f st4 => o' e f st4
  | .bl false => .ok (.bl false) st3
  | _ => .stuck
@[simp] theorem fChain_eq (o o' : O2) (fa fb fc : LE) (env : DEnv) (st : Store) : fChain o o' fa fb fc env st = (fa env st).bind (kCh1 o o' fb fc env) := (rfl)
@[simp] theorem kCh1_eq (o o' : O2) (fb fc : LE) (env : DEnv) (d : D) (st : Store) : kCh1 o o' fb fc env d st = (fb env st).bind (kCh2 o o' fc env d) := (rfl)
@[simp] theorem kCh2_eq (o o' : O2) (fc : LE) (env : DEnv) (d e : D) (st : Store) : kCh2 o o' fc env d e st = (o d e st).bind (kCh3 o' fc env e) := (rfl)
@[simp] theorem kCh3_t (o' : O2) (fc : LE) (env : DEnv) (e : D) (st : Store) : kCh3 o' fc env e (.bl true) st = (fc env st).bind (o' e) := (rfl)
@[simp] theorem kCh3_f (o' : O2) (fc : LE) (env : DEnv) (e : D) (st : Store) : kCh3 o' fc env e (.bl false) st = .ok (.bl false) st := (rfl)
theorem kCh3_if (o' : O2) (fc : LE) (env : DEnv) (e : D) (b : Bool) (st : Store) : kCh3 o' fc env e (.bl b) st = if b = true then (fc env st).bind (o' e) else .ok (.bl false) st := by cases b <;> rfl
/-! ### ints -/
@[simp] theorem oI_int (g : Int → Int → D) (i j : Int) (st : Store) : oI g (.int i) (.int j) st = .ok (g i j) st := (rfl)
@[simp] theorem oIc_int (c : Int → Int → Bool) (g : Int → Int → D) (i j : Int) (st : Store) : oIc c g (.int i) (.int j) st = if c i j = true then .ok (g i j) st else .stuck := (rfl)
@[simp] theorem oNeg_int (i : Int) (st : Store) : oNeg (.int i) st = .ok (.int (-i)) st := (rfl)
@[simp] theorem oAdd_int (i j : Int) (st : Store) : oAdd (.int i) (.int j) st = .ok (.int (i + j)) st := (rfl)
@[simp] theorem oAdd_str (a b : Str) (st : Store) : oAdd (.str a) (.str b) st = if a.length + b.length ≤ lim then .ok (.str (a ++ b)) st else .stuck := (rfl)
@[simp] theorem oAdd_tup (a b : List D) (st : Store) : oAdd (.tup a) (.tup b) st = if a.length + b.length ≤ lim then .ok (.tup (a ++ b)) st else .stuck := (rfl)
@[simp] theorem oAdd_lst (a b : List D) (st : Store) : oAdd (.lst a) (.lst b) st = if a.length + b.length ≤ lim then .ok (.lst (a ++ b)) st else .stuck := (rfl)
@[simp] theorem oMul_int (i j : Int) (st : Store) : oMul (.int i) (.int j) st = if cMul i j = true then .ok (.int (i * j)) st else .stuck := (rfl)
theorem cMul_r {i j : Int} (h : -(2 ^ 64) < j ∧ j < 2 ^ 64) : cMul i j = true := decide_eq_true (.inr h)
theorem cMul_l {i j : Int} (h : -(2 ^ 64) < i ∧ i < 2 ^ 64) : cMul i j = true := decide_eq_true (.inl h)
/-! ### None, ==, in -/
@[simp] theorem oIsN_non (st : Store) : oIsN .non st = .ok (.bl true) st := (rfl)
@[simp] theorem oNotN_non (st : Store) : oNotN .non st = .ok (.bl false) st := (rfl)
@[simp] theorem oIsN_bl (b : Bool) (st : Store) : oIsN (.bl b) st = .ok (.bl false) st := (rfl)
@[simp] theorem oIsN_int (b : Int) (st : Store) : oIsN (.int b) st = .ok (.bl false) st := (rfl)
@[simp] theorem oIsN_str (b : Str) (st : Store) : oIsN (.str b) st = .ok (.bl false) st := (rfl)
@[simp] theorem oIsN_tup (b : List D) (st : Store) : oIsN (.tup b) st = .ok (.bl false) st := (rfl)
@[simp] theorem oIsN_lst (b : List D) (st : Store) : oIsN (.lst b) st = .ok (.bl false) st := (rfl)
@[simp] theorem oIsN_ref (b : Nat) (st : Store) : oIsN (.ref b) st = .ok (.bl false) st := (rfl)
@[simp] theorem oNotN_bl (b : Bool) (st : Store) : oNotN (.bl b) st = .ok (.bl true) st := (rfl)
@[simp] theorem oNotN_int (b : Int) (st : Store) : oNotN (.int b) st = .ok (.bl true) st := (rfl)
@[simp] theorem oNotN_str (b : Str) (st : Store) : oNotN (.str b) st = .ok (.bl true) st := (rfl)
@[simp] theorem oNotN_tup (b : List D) (st : Store) : oNotN (.tup b) st = .ok (.bl true) st := (rfl)
@[simp] theorem oNotN_lst (b : List D) (st : Store) : oNotN (.lst b) st = .ok (.bl true) st := (rfl)
@[simp] theorem oNotN_ref (b : Nat) (st : Store) : oNotN (.ref b) st = .ok (.bl true) st := (rfl)
/-! ### items -/
def pickD (o : Option D) (st : Store) : Res D := match o with
  | some z => .ok z st
  | none => .stuck
@[simp] theorem pickD_some (d : D) (st : Store) : pickD (some d) st = .ok d st := (rfl)
@[simp] theorem oIx_tup (ds : List D) (i : Int) (st : Store) : oIx (.tup ds) (.int i) st = pickD (atI ds i) st := (rfl)
@[simp] theorem oIx_lst (ds : List D) (i : Int) (st : Store) : oIx (.lst ds) (.int i) st = pickD (atI ds i) st := (rfl)
@[simp] theorem oIx_lck (ds : List D) (i : Int) (st : Store) : oIx (.lck ds) (.int i) st = pickD (atI ds i) st := (rfl)
theorem oIx_ref {k : Nat} {ds : List D} {st : Store} (h : st[k]? = some (.lst ds)) (i : Int) : oIx (.ref k) (.int i) st = pickD (atI ds i) st := by
  show (match rdOf (.ref k) st with
      | some ds => (match atI ds i with
        | some z => Res.ok z st
        | none => .stuck)
      | none => .stuck) = _
  have e : rdOf (.ref k) st = some ds := by
    show (match st[k]? with | some (.lst xs) => some xs | _ => none) = some ds
    rw [h]
  rw [e]
  rfl
@[simp] theorem atI_0 {α : Type} (a : α) (l : List α) : atI (a :: l) 0 = some a := by simp [L2.atI, ixN]
theorem atI_nat {α : Type} {l : List α} {n : Nat} (h : n < l.length) : atI l (n : Int) = l[n]? := by
  have h2 : ¬ ((n : Int) < 0) := by omega
  simp [L2.atI, ixN, h2, h]
@[simp] theorem atI_1 {α : Type} (a b : α) (l : List α) : atI (a :: b :: l) 1 = some b := by
  have := atI_nat (l := a :: b :: l) (n := 1) (by simp)
  simpa using this
@[simp] theorem atI_2 {α : Type} (a b c : α) (l : List α) : atI (a :: b :: c :: l) 2 = some c := by
  have := atI_nat (l := a :: b :: c :: l) (n := 2) (by simp)
  simpa using this
@[simp] theorem atI_3 {α : Type} (a b c d : α) (l : List α) : atI (a :: b :: c :: d :: l) 3 = some d := by
  have := atI_nat (l := a :: b :: c :: d :: l) (n := 3) (by simp)
  simpa using this
theorem atI_of {α : Type} {l : List α} {i : Int} {n : Nat} (hi : i = (n : Int)) (h : n < l.length) : atI l i = l[n]? := by rw [hi]; exact atI_nat h
end Fk
/-! FkO: arguments, calls, statements, loops, evaluated. -/
namespace Fk
open PySem PySem.Spec PyProof.Rows L2
/-! ### arguments, displays -/
def kCons1 (g : LA) (env : DEnv) : D → Store → Res (List D) := fun d st1 => (g env st1).bind fun ds st2 => .ok (d :: ds) st2
def kCons2 (d : D) : List D → Store → Res (List D) := fun ds st2 => .ok (d :: ds) st2
@[simp] theorem fNil_eq (env : DEnv) (st : Store) : fNil env st = .ok [] st := (rfl)
@[simp] theorem fCons_eq (f : LE) (g : LA) (env : DEnv) (st : Store) : fCons f g env st = (f env st).bind (kCons1 g env) := (rfl)
@[simp] theorem kCons1_eq (g : LA) (env : DEnv) (d : D) (st : Store) : kCons1 g env d st = (g env st).bind (kCons2 d) := (rfl)
@[simp] theorem kCons2_eq (d : D) (ds : List D) (st : Store) : kCons2 d ds st = .ok (d :: ds) st := (rfl)
def kTup : List D → Store → Res D := fun ds st1 => if ds.length ≤ lim then .ok (.tup ds) st1 else .stuck
def kLst : List D → Store → Res D := fun ds st1 => if ds.length ≤ lim then .ok (.lst ds) st1 else .stuck
def kLstC : List D → Store → Res D := fun ds st1 => if ds.length ≤ lim then .ok (.ref st1.length) (st1 ++ [.lst ds]) else .stuck
@[simp] theorem fTup_eq (g : LA) (env : DEnv) (st : Store) : fTup g env st = (g env st).bind kTup := (rfl)
@[simp] theorem fLst_eq (g : LA) (env : DEnv) (st : Store) : fLst g env st = (g env st).bind kLst := (rfl)
@[simp] theorem fLstC_eq (g : LA) (env : DEnv) (st : Store) : fLstC g env st = (g env st).bind kLstC := (rfl)
theorem kTup_of {ds : List D} (h : ds.length ≤ lim) (st : Store) : kTup ds st = .ok (.tup ds) st := if_pos h
theorem kLst_of {ds : List D} (h : ds.length ≤ lim) (st : Store) : kLst ds st = .ok (.lst ds) st := if_pos h
theorem kLstC_of {ds : List D} (h : ds.length ≤ lim) (st : Store) : kLstC ds st = .ok (.ref st.length) (st ++ [.lst ds]) := if_pos h
@[simp] theorem kTup_0 (st : Store) : kTup [] st = .ok (.tup []) st := kTup_of (by simp [lim]) st
@[simp] theorem kTup_1 (a : D) (st : Store) : kTup [a] st = .ok (.tup [a]) st := kTup_of (by simp [lim]) st
@[simp] theorem kTup_2 (a b : D) (st : Store) : kTup [a, b] st = .ok (.tup [a, b]) st := kTup_of (by simp [lim]) st
@[simp] theorem kTup_3 (a b c : D) (st : Store) : kTup [a, b, c] st = .ok (.tup [a, b, c]) st := kTup_of (by simp [lim]) st
@[simp] theorem kTup_4 (a b c d : D) (st : Store) : kTup [a, b, c, d] st = .ok (.tup [a, b, c, d]) st := kTup_of (by simp [lim]) st
@[simp] theorem kLst_0 (st : Store) : kLst [] st = .ok (.lst []) st := kLst_of (by simp [lim]) st
@[simp] theorem kLst_1 (a : D) (st : Store) : kLst [a] st = .ok (.lst [a]) st := kLst_of (by simp [lim]) st
@[simp] theorem kLst_2 (a b : D) (st : Store) : kLst [a, b] st = .ok (.lst [a, b]) st := kLst_of (by simp [lim]) st
@[simp] theorem kLst_3 (a b c : D) (st : Store) : kLst [a, b, c] st = .ok (.lst [a, b, c]) st := kLst_of (by simp [lim]) st
@[simp] theorem kLst_4 (a b c d : D) (st : Store) : kLst [a, b, c, d] st = .ok (.lst [a, b, c, d]) st := kLst_of (by simp [lim]) st
@[simp] theorem kLst_5 (a b c d e : D) (st : Store) : kLst [a, b, c, d, e] st = .ok (.lst [a, b, c, d, e]) st := kLst_of (by simp [lim]) st
@[simp] theorem kLst_6 (a b c d e f : D) (st : Store) : kLst [a, b, c, d, e, f] st = .ok (.lst [a, b, c, d, e, f]) st := kLst_of (by simp [lim]) st
@[simp] theorem kLstC_0 (st : Store) : kLstC [] st = .ok (.ref st.length) (st ++ [.lst []]) := kLstC_of (by simp [lim]) st
@[simp] theorem kLstC_1 (a : D) (st : Store) : kLstC [a] st = .ok (.ref st.length) (st ++ [.lst [a]]) := kLstC_of (by simp [lim]) st
@[simp] theorem kLstC_4 (a b c d : D) (st : Store) : kLstC [a, b, c, d] st = .ok (.ref st.length) (st ++ [.lst [a, b, c, d]]) := kLstC_of (by simp [lim]) st
@[simp] theorem fCB_eq (o : OA) (g : LA) (env : DEnv) (st : Store) : fCB o g env st = (g env st).bind o := (rfl)
@[simp] theorem fFz_eq (f : LE) (env : DEnv) (st : Store) : fFz f env st = (f env st).bind oFz := (rfl)
theorem oFz_ref {k : Nat} {xs : List D} {st : Store} (h : st[k]? = some (.lst xs)) : oFz (.ref k) st = .ok (.lst xs) (st.set k .dead) := by
  show (match st[k]? with
    | some (.lst xs) => Res.ok (D.lst xs) (st.set k .dead)
    | _ => .stuck) = _
  rw [h]
/-! ### kinds -/
def kIsi (c : Kd) : D → Store → Res D := fun d st1 => match kdOf d st1 with
  | some k => .ok (.bl (k.isa c)) st1
  | none => .stuck
def kIsiT (cs : List Kd) : D → Store → Res D := fun d st1 => match kdOf d st1 with
  | some k => .ok (.bl (cs.any fun c => k.isa c)) st1
  | none => .stuck
@[simp] theorem fIsi_eq (c : Kd) (f : LE) (env : DEnv) (st : Store) : fIsi c f env st = (f env st).bind (kIsi c) := (rfl)
@[simp] theorem fIsiT_eq (cs : List Kd) (f : LE) (env : DEnv) (st : Store) : fIsiT cs f env st = (f env st).bind (kIsiT cs) := (rfl)
theorem kIsi_of {c k : Kd} {d : D} {st : Store} (h : kdOf d st = some k) : kIsi c d st = .ok (.bl (k.isa c)) st := by
  unfold kIsi
  rw [h]
theorem kIsiT_of {cs : List Kd} {k : Kd} {d : D} {st : Store} (h : kdOf d st = some k) : kIsiT cs d st = .ok (.bl (cs.any fun c => k.isa c)) st := by
  unfold kIsiT
  rw [h]
@[simp] theorem kIsi_non (c : Kd) (st : Store) : kIsi c .non st = .ok (.bl (Kd.non.isa c)) st := (rfl)
@[simp] theorem kIsi_bl (c : Kd) (b : Bool) (st : Store) : kIsi c (.bl b) st = .ok (.bl (Kd.bl.isa c)) st := (rfl)
@[simp] theorem kIsi_int (c : Kd) (b : Int) (st : Store) : kIsi c (.int b) st = .ok (.bl (Kd.int.isa c)) st := (rfl)
@[simp] theorem kIsi_str (c : Kd) (b : Str) (st : Store) : kIsi c (.str b) st = .ok (.bl (Kd.str.isa c)) st := (rfl)
@[simp] theorem kIsi_tup (c : Kd) (b : List D) (st : Store) : kIsi c (.tup b) st = .ok (.bl (Kd.tup.isa c)) st := (rfl)
@[simp] theorem kIsi_lst (c : Kd) (b : List D) (st : Store) : kIsi c (.lst b) st = .ok (.bl (Kd.lst.isa c)) st := (rfl)
@[simp] theorem kIsi_lck (c : Kd) (b : List D) (st : Store) : kIsi c (.lck b) st = .ok (.bl (Kd.lst.isa c)) st := (rfl)
@[simp] theorem kIsiT_non (c : List Kd) (st : Store) : kIsiT c .non st = .ok (.bl (c.any fun c => Kd.non.isa c)) st := (rfl)
@[simp] theorem kIsiT_bl (c : List Kd) (b : Bool) (st : Store) : kIsiT c (.bl b) st = .ok (.bl (c.any fun c => Kd.bl.isa c)) st := (rfl)
@[simp] theorem kIsiT_int (c : List Kd) (b : Int) (st : Store) : kIsiT c (.int b) st = .ok (.bl (c.any fun c => Kd.int.isa c)) st := (rfl)
@[simp] theorem kIsiT_str (c : List Kd) (b : Str) (st : Store) : kIsiT c (.str b) st = .ok (.bl (c.any fun c => Kd.str.isa c)) st := (rfl)
@[simp] theorem kIsiT_tup (c : List Kd) (b : List D) (st : Store) : kIsiT c (.tup b) st = .ok (.bl (c.any fun c => Kd.tup.isa c)) st := (rfl)
@[simp] theorem kIsiT_lst (c : List Kd) (b : List D) (st : Store) : kIsiT c (.lst b) st = .ok (.bl (c.any fun c => Kd.lst.isa c)) st := (rfl)
@[simp] theorem isa_nn : Kd.non.isa .non = true := (rfl)
@[simp] theorem isa_nb : Kd.non.isa .bl = false := (rfl)
@[simp] theorem isa_ni : Kd.non.isa .int = false := (rfl)
@[simp] theorem isa_ns : Kd.non.isa .str = false := (rfl)
@[simp] theorem isa_nt : Kd.non.isa .tup = false := (rfl)
@[simp] theorem isa_nl : Kd.non.isa .lst = false := (rfl)
@[simp] theorem isa_bb : Kd.bl.isa .bl = true := (rfl)
@[simp] theorem isa_bi : Kd.bl.isa .int = true := (rfl)
@[simp] theorem isa_bs : Kd.bl.isa .str = false := (rfl)
@[simp] theorem isa_bt : Kd.bl.isa .tup = false := (rfl)
@[simp] theorem isa_bL : Kd.bl.isa .lst = false := (rfl)
@[simp] theorem isa_ib : Kd.int.isa .bl = false := (rfl)
@[simp] theorem isa_ii : Kd.int.isa .int = true := (rfl)
@[simp] theorem isa_is : Kd.int.isa .str = false := (rfl)
@[simp] theorem isa_it : Kd.int.isa .tup = false := (rfl)
@[simp] theorem isa_il : Kd.int.isa .lst = false := (rfl)
@[simp] theorem isa_sb : Kd.str.isa .bl = false := (rfl)
@[simp] theorem isa_si : Kd.str.isa .int = false := (rfl)
@[simp] theorem isa_ss : Kd.str.isa .str = true := (rfl)
@[simp] theorem isa_st : Kd.str.isa .tup = false := (rfl)
@[simp] theorem isa_sl : Kd.str.isa .lst = false := (rfl)
@[simp] theorem isa_tb : Kd.tup.isa .bl = false := (rfl)
@[simp] theorem isa_ti : Kd.tup.isa .int = false := (rfl)
@[simp] theorem isa_ts : Kd.tup.isa .str = false := (rfl)
@[simp] theorem isa_tt : Kd.tup.isa .tup = true := (rfl)
@[simp] theorem isa_tl : Kd.tup.isa .lst = false := (rfl)
@[simp] theorem isa_lb : Kd.lst.isa .bl = false := (rfl)
@[simp] theorem isa_li : Kd.lst.isa .int = false := (rfl)
@[simp] theorem isa_ls : Kd.lst.isa .str = false := (rfl)
@[simp] theorem isa_lt : Kd.lst.isa .tup = false := (rfl)
@[simp] theorem isa_ll : Kd.lst.isa .lst = true := (rfl)
/-! ### built-in calls -/
@[simp] theorem oLen_tup (xs : List D) (st : Store) : oLen [.tup xs] st = .ok (.int xs.length) st := (rfl)
@[simp] theorem oLen_lst (xs : List D) (st : Store) : oLen [.lst xs] st = .ok (.int xs.length) st := (rfl)
@[simp] theorem oLen_lck (xs : List D) (st : Store) : oLen [.lck xs] st = .ok (.int xs.length) st := (rfl)
@[simp] theorem oLen_str (s : Str) (st : Store) : oLen [.str s] st = if s.length ≤ lim then .ok (.int s.length) st else .stuck := (rfl)
theorem rdOf_ref {k : Nat} {xs : List D} {st : Store} (h : st[k]? = some (.lst xs)) : rdOf (.ref k) st = some xs := by
  show (match st[k]? with
    | some (.lst xs) => some xs
    | _ => none) = some xs
  rw [h]
theorem oLen_ref {k : Nat} {xs : List D} {st : Store} (h : st[k]? = some (.lst xs)) : oLen [.ref k] st = .ok (.int xs.length) st := by
  show (match rdOf (.ref k) st with
    | some xs => Res.ok (D.int xs.length) st
    | none => .stuck) = _
  rw [rdOf_ref h]
@[simp] theorem oTupOf_tup (xs : List D) (st : Store) : oTupOf [.tup xs] st = .ok (.tup xs) st := (rfl)
@[simp] theorem oTupOf_lst (xs : List D) (st : Store) : oTupOf [.lst xs] st = .ok (.tup xs) st := (rfl)
theorem oTupOf_ref {k : Nat} {xs : List D} {st : Store} (h : st[k]? = some (.lst xs)) : oTupOf [.ref k] st = .ok (.tup xs) st := by
  show (match rdOf (.ref k) st with
    | some xs => Res.ok (D.tup xs) st
    | none => .stuck) = _
  rw [rdOf_ref h]
@[simp] theorem oLstOf_tup (xs : List D) (st : Store) : oLstOf [.tup xs] st = .ok (.lst xs) st := (rfl)
@[simp] theorem oLstOf_lst (xs : List D) (st : Store) : oLstOf [.lst xs] st = .ok (.lst xs) st := (rfl)
@[simp] theorem oStr_str (s : Str) (st : Store) : oStr [.str s] st = .ok (.str s) st := (rfl)
theorem oStr_int {i : Int} (h : i.natAbs.log2 < 1920) (st : Store) : oStr [.int i] st = .ok (.str (toString i)) st := if_pos h
@[simp] theorem oInt_int (i : Int) (st : Store) : oInt [.int i] st = .ok (.int i) st := (rfl)
@[simp] theorem oInt_bl (b : Bool) (st : Store) : oInt [.bl b] st = .ok (.int (if b then 1 else 0)) st := (rfl)
theorem oInt_str {s : Str} {n : Int} (h : PySem.intText? s = some n) (hl : s.length ≤ 640) (st : Store) : oInt [.str s] st = .ok (.int n) st := by
  show (match PySem.intText? s with
    | some n => if s.length ≤ 640 then Res.ok (D.int n) st else .stuck
    | none => .stuck) = _
  rw [h]
  exact if_pos hl
theorem oAll_lst {bs : List Bool} (st : Store) : oAll [.lst (bs.map D.bl)] st = .ok (.bl (bs.all id)) st := by
  show (match blsOf (bs.map D.bl) with
    | some bs => Res.ok (D.bl (bs.all id)) st
    | none => .stuck) = _
  rw [blsOf_map]
theorem oAny_lst {bs : List Bool} (st : Store) : oAny [.lst (bs.map D.bl)] st = .ok (.bl (bs.any id)) st := by
  show (match blsOf (bs.map D.bl) with
    | some bs => Res.ok (D.bl (bs.any id)) st
    | none => .stuck) = _
  rw [blsOf_map]
@[simp] theorem oMax2_eq (i j : Int) (st : Store) : oMax2 [.int i, .int j] st = .ok (.int (if j > i then j else i)) st := (rfl)
@[simp] theorem oMin2_eq (i j : Int) (st : Store) : oMin2 [.int i, .int j] st = .ok (.int (if j < i then j else i)) st := (rfl)
/-! ### calls of defs -/
def kCall (n : Nat) (fm : FM) : List D → Store → Res D := fun ds st1 => if ds.length = n then fm ds st1 else .stuck
@[simp] theorem fCall_eq (n : Nat) (fm : FM) (g : LA) (env : DEnv) (st : Store) : fCall n fm g env st = (g env st).bind (kCall n fm) := (rfl)
@[simp] theorem kCall_1 (fm : FM) (a : D) (st : Store) : kCall 1 fm [a] st = fm [a] st := (rfl)
@[simp] theorem kCall_2 (fm : FM) (a b : D) (st : Store) : kCall 2 fm [a, b] st = fm [a, b] st := (rfl)
@[simp] theorem kCall_3 (fm : FM) (a b c : D) (st : Store) : kCall 3 fm [a, b, c] st = fm [a, b, c] st := (rfl)
@[simp] theorem kCall_4 (fm : FM) (a b c d : D) (st : Store) : kCall 4 fm [a, b, c, d] st = fm [a, b, c, d] st := (rfl)
/-- how a body's end is a call's -/
def outR (r : RS) : Res D := match r with
  | .nx _ s => .ok .non s
  | .rt d s => .ok d s
  | .ex x _ s => .ex x s
  | _ => .stuck
@[simp] theorem outR_nx (e : DEnv) (s : Store) : outR (.nx e s) = .ok .non s := (rfl)
@[simp] theorem outR_rt (d : D) (s : Store) : outR (.rt d s) = .ok d s := (rfl)
@[simp] theorem outR_ex (x : Exn) (e : DEnv) (s : Store) : outR (.ex x e s) = .ex x s := (rfl)
theorem runB_eq (n : Nat) (f : LS) (ds : List D) (st : Store) : runB n f ds st = outR (f (ds.map some ++ List.replicate (n - ds.length) none) st) := rfl
/-! ### statements -/
def seqK (g : LS) (r : RS) : RS := match r with
  | .nx e s => g e s
  | r => r
@[simp] theorem fSeq_eq (f g : LS) (env : DEnv) (st : Store) : fSeq f g env st = seqK g (f env st) := (rfl)
@[simp] theorem seqK_nx (g : LS) (e : DEnv) (s : Store) : seqK g (.nx e s) = g e s := (rfl)
@[simp] theorem seqK_rt (g : LS) (d : D) (s : Store) : seqK g (.rt d s) = .rt d s := (rfl)
@[simp] theorem seqK_bk (g : LS) (e : DEnv) (s : Store) : seqK g (.bk e s) = .bk e s := (rfl)
@[simp] theorem seqK_ct (g : LS) (e : DEnv) (s : Store) : seqK g (.ct e s) = .ct e s := (rfl)
@[simp] theorem seqK_ex (g : LS) (x : Exn) (e : DEnv) (s : Store) : seqK g (.ex x e s) = .ex x e s := (rfl)
@[simp] theorem fNext_eq (env : DEnv) (st : Store) : fNext env st = .nx env st := (rfl)
@[simp] theorem fBreak_eq (env : DEnv) (st : Store) : fBreak env st = .bk env st := (rfl)
@[simp] theorem fCont_eq (env : DEnv) (st : Store) : fCont env st = .ct env st := (rfl)
@[simp] theorem fRetN_eq (env : DEnv) (st : Store) : fRetN env st = .rt .non st := (rfl)
@[simp] theorem fRet_eq (f : LE) (env : DEnv) (st : Store) : fRet f env st = (f env st).go env RS.rt := (rfl)
def kDrop (env : DEnv) : D → Store → RS := fun _ st1 => .nx env st1
@[simp] theorem kDrop_eq (env : DEnv) (d : D) (st : Store) : kDrop env d st = .nx env st := (rfl)
@[simp] theorem fDrop_eq (f : LE) (env : DEnv) (st : Store) : fDrop f env st = (f env st).go env (kDrop env) := (rfl)
def kIfS (f g : LS) (env : DEnv) : Bool → Store → RS := fun b st1 => if b = true then f env st1 else g env st1
@[simp] theorem fIfS_eq (t : LT) (f g : LS) (env : DEnv) (st : Store) : fIfS t f g env st = (t env st).go env (kIfS f g env) := (rfl)
@[simp] theorem kIfS_t (f g : LS) (env : DEnv) (st : Store) : kIfS f g env true st = f env st := (rfl)
@[simp] theorem kIfS_f (f g : LS) (env : DEnv) (st : Store) : kIfS f g env false st = g env st := (rfl)
theorem kIfS_if (f g : LS) (env : DEnv) (b : Bool) (st : Store) : kIfS f g env b st = if b = true then f env st else g env st := rfl
def kAsg (g : LG) (env : DEnv) : D → Store → RS := fun d st1 => g d env st1
@[simp] theorem fAsg_eq (f : LE) (g : LG) (env : DEnv) (st : Store) : fAsg f g env st = (f env st).go env (kAsg g env) := (rfl)
@[simp] theorem kAsg_eq (g : LG) (env : DEnv) (d : D) (st : Store) : kAsg g env d st = g d env st := (rfl)
@[simp] theorem gN_eq (i : Nat) (d : D) (env : DEnv) (st : Store) : gN i d env st = .nx (env.set i (some d)) st := (rfl)
def kPar (i j : Nat) (env : DEnv) : List D → Store → RS := fun ds st1 => match ds with
  | [d, e] => .nx ((env.set i (some d)).set j (some e)) st1
  | _ => .stuck
def kPar3 (i j l : Nat) (env : DEnv) : List D → Store → RS := fun ds st1 => match ds with
  | [d, e, f] => .nx (((env.set i (some d)).set j (some e)).set l (some f)) st1
  | _ => .stuck
@[simp] theorem fPar_eq (i j : Nat) (g : LA) (env : DEnv) (st : Store) : fPar i j g env st = (g env st).go env (kPar i j env) := (rfl)
@[simp] theorem kPar_eq (i j : Nat) (env : DEnv) (d e : D) (st : Store) : kPar i j env [d, e] st = .nx ((env.set i (some d)).set j (some e)) st := (rfl)
@[simp] theorem fPar3_eq (i j l : Nat) (g : LA) (env : DEnv) (st : Store) : fPar3 i j l g env st = (g env st).go env (kPar3 i j l env) := (rfl)
@[simp] theorem kPar3_eq (i j l : Nat) (env : DEnv) (d e f : D) (st : Store) : kPar3 i j l env [d, e, f] st = .nx (((env.set i (some d)).set j (some e)).set l (some f)) st := (rfl)
def augK (i : Nat) (o : O2) (f : LE) (env : DEnv) (st : Store) (q : Option (Option D)) : RS := match q with
  | some (some d) => (f env st).go env fun e st1 => (o d e st1).go env fun z st2 => .nx (env.set i (some z)) st2
  | _ => .stuck
def kAug1 (i : Nat) (o : O2) (env : DEnv) (d : D) : D → Store → RS := fun e st1 => (o d e st1).go env fun z st2 => .nx (env.set i (some z)) st2
def kAug2 (i : Nat) (env : DEnv) : D → Store → RS := fun z st2 => .nx (env.set i (some z)) st2
@[simp] theorem fAug_eq (i : Nat) (o : O2) (f : LE) (env : DEnv) (st : Store) : fAug i o f env st = augK i o f env st env[i]? := (rfl)
@[simp] theorem augK_some (i : Nat) (o : O2) (f : LE) (env : DEnv) (st : Store) (d : D) : augK i o f env st (some (some d)) = (f env st).go env (kAug1 i o env d) := (rfl)
@[simp] theorem kAug1_eq (i : Nat) (o : O2) (env : DEnv) (d e : D) (st : Store) : kAug1 i o env d e st = (o d e st).go env (kAug2 i env) := (rfl)
@[simp] theorem kAug2_eq (i : Nat) (env : DEnv) (z : D) (st : Store) : kAug2 i env z st = .nx (env.set i (some z)) st := (rfl)
/-! ### methods -/
def kBM1 (t : D → Store → Bool) (o : OM) (g : LA) (env : DEnv) : D → Store → Res D := fun d st1 => if t d st1 = true then (g env st1).bind fun ds st2 => o d ds st2 else .stuck
@[simp] theorem fBM_eq (t : D → Store → Bool) (o : OM) (fa : LE) (g : LA) (env : DEnv) (st : Store) : fBM t o fa g env st = (fa env st).bind (kBM1 t o g env) := (rfl)
@[simp] theorem kBM1_str (o : OM) (g : LA) (env : DEnv) (s : Str) (st : Store) : kBM1 isS o g env (.str s) st = (g env st).bind (o (.str s)) := (rfl)
theorem kBM1_ref {k : Nat} {xs : List D} {st : Store} (h : st[k]? = some (.lst xs)) (o : OM) (g : LA) (env : DEnv) : kBM1 isL o g env (.ref k) st = (g env st).bind (o (.ref k)) := by
  have e : isL (.ref k) st = true := by
    unfold isL
    rw [rdOf_ref h] <;> rfl
  unfold kBM1
  rw [if_pos e]
theorem cellL_ref {k : Nat} {xs : List D} {st : Store} (h : st[k]? = some (.lst xs)) : cellL (.ref k) st = some (k, xs) := by
  show (match st[k]? with
    | some (.lst xs) => some (k, xs)
    | _ => none) = _
  rw [h]
theorem oApp_ref {k : Nat} {xs : List D} {st : Store} (h : st[k]? = some (.lst xs)) (hl : xs.length < lim) (y : D) : oApp (.ref k) [y] st = .ok .non (st.set k (.lst (xs ++ [y]))) := by
  unfold oApp
  rw [cellL_ref h]
  exact if_pos hl
def gSubK1 (fi : LE) (v : D) (env : DEnv) : D → Store → RS := fun d st1 => (fi env st1).go env fun i st2 => match cellL d st2, i with
  | some (k, xs), .int i => (match ixN xs.length i with
    | some j => .nx env (st2.set k (.lst (xs.set j v)))
    | none => .stuck)
  | _, _ => .stuck
def gSubK2 (v : D) (env : DEnv) (d : D) : D → Store → RS := fun i st2 => match cellL d st2, i with
  | some (k, xs), .int i => (match ixN xs.length i with
    | some j => .nx env (st2.set k (.lst (xs.set j v)))
    | none => .stuck)
  | _, _ => .stuck
@[simp] theorem gSubL_eq (fo fi : LE) (v : D) (env : DEnv) (st : Store) : gSubL fo fi v env st = (fo env st).go env (gSubK1 fi v env) := (rfl)
@[simp] theorem gSubK1_eq (fi : LE) (v : D) (env : DEnv) (d : D) (st : Store) : gSubK1 fi v env d st = (fi env st).go env (gSubK2 v env d) := (rfl)
theorem gSubK2_ref {k : Nat} {xs : List D} {st : Store} (h : st[k]? = some (.lst xs)) {i : Int} {j : Nat} (hj : i = (j : Int)) (hl : j < xs.length) (v : D) (env : DEnv) : gSubK2 v env (.ref k) (.int i) st = .nx env (st.set k (.lst (xs.set j v))) := by
  subst hj
  unfold gSubK2
  rw [cellL_ref h]
  have e : ixN xs.length (j : Int) = some j := by
    unfold ixN
    rw [if_pos (by omega), if_pos (by omega)]
    simp
  dsimp only
  rw [e]
/-! ### loops -/
theorem forRun_cons {g : Store → Bool} {lg : LG} {body : LS} {d : D} {ds : List D} {env e1 e2 : DEnv} {st s1 s2 : Store} (hg : g st = true) (h1 : lg d env st = .nx e1 s1) (h2 : body e1 s1 = .nx e2 s2 ∨ body e1 s1 = .ct e2 s2) : forRun g lg body (d :: ds) env st = forRun g lg body ds e2 s2 := by
  rw [forRun, if_pos hg, h1]
  rcases h2 with h2 | h2 <;> (dsimp only; rw [h2])
theorem forRun_nil {g : Store → Bool} {lg : LG} {body : LS} {env : DEnv} {st : Store} (hg : g st = true) : forRun g lg body [] env st = .nx env st := by
  rw [forRun, if_pos hg]
theorem forRun_break {g : Store → Bool} {lg : LG} {body : LS} {d : D} {ds : List D} {env e1 e2 : DEnv} {st s1 s2 : Store} (hg : g st = true) (h1 : lg d env st = .nx e1 s1) (h2 : body e1 s1 = .bk e2 s2) : forRun g lg body (d :: ds) env st = .nx e2 s2 := by
  rw [forRun, if_pos hg, h1]
  dsimp only
  rw [h2]
theorem forRun_rt {g : Store → Bool} {lg : LG} {body : LS} {d z : D} {ds : List D} {env e1 : DEnv} {st s1 s2 : Store} (hg : g st = true) (h1 : lg d env st = .nx e1 s1) (h2 : body e1 s1 = .rt z s2) : forRun g lg body (d :: ds) env st = .rt z s2 := by
  rw [forRun, if_pos hg, h1]
  dsimp only
  rw [h2]
theorem forRun_ex {g : Store → Bool} {lg : LG} {body : LS} {d : D} {ds : List D} {env e1 e2 : DEnv} {st s1 s2 : Store} {x : Exn} (hg : g st = true) (h1 : lg d env st = .nx e1 s1) (h2 : body e1 s1 = .ex x e2 s2) : forRun g lg body (d :: ds) env st = .ex x e2 s2 := by
  rw [forRun, if_pos hg, h1]
  dsimp only
  rw [h2]
/-- a loop that runs to its end, by what holds between its turns -/
theorem forRun_inv {g : Store → Bool} {lg : LG} {body : LS} {items : List D} (P : Nat → DEnv → Store → Prop) (hg : ∀ i e s, P i e s → g s = true)
    (step : ∀ i d e s, items[i]? = some d → P i e s → ∃ e1 s1 e2 s2, lg d e s = .nx e1 s1 ∧ (body e1 s1 = .nx e2 s2 ∨ body e1 s1 = .ct e2 s2) ∧ P (i + 1) e2 s2) {env : DEnv} {st : Store} (h0 : P 0 env st) :
    ∃ e s, forRun g lg body items env st = .nx e s ∧ P items.length e s := by
  have key : ∀ (ds : List D) (i : Nat) (e : DEnv) (s : Store), items.drop i = ds → i ≤ items.length → P i e s → ∃ e' s', forRun g lg body ds e s = .nx e' s' ∧ P items.length e' s' := fun ds => by
    induction ds with
    | nil =>
      intro i e s hd hl hp
      have hi : i = items.length := by
        have := congrArg List.length hd
        simp at this
        omega
      subst hi
      exact ⟨e, s, forRun_nil (hg _ e s hp), hp⟩
    | cons d ds ih =>
      intro i e s hd hl hp
      have hlt : i < items.length := by
        have := congrArg List.length hd
        simp at this
        omega
      have e1 : items[i]? = some d := by
        have : (items.drop i)[0]? = some d := by rw [hd]; rfl
        simpa using this
      obtain ⟨ea, sa, eb, sb, h1, h2, h3⟩ := step i d e s e1 hp
      rw [forRun_cons (hg i e s hp) h1 h2]
      refine ih (i + 1) eb sb ?_ hlt h3
      have : (items.drop i).drop 1 = ds := by rw [hd]; rfl
      rw [← this, List.drop_drop]
  exact key items 0 env st (by simp) (Nat.zero_le _) h0
def kFor (lg : LG) (body : LS) (env : DEnv) : IT → Store → RS := fun it st1 => forRun it.2 lg body it.1 env st1
@[simp] theorem fFor_eq (fi : LI) (lg : LG) (body : LS) (env : DEnv) (st : Store) : fFor fi lg body env st = (fi env st).go env (kFor lg body env) := (rfl)
@[simp] theorem kFor_eq (lg : LG) (body : LS) (env : DEnv) (it : IT) (st : Store) : kFor lg body env it st = forRun it.2 lg body it.1 env st := (rfl)
/-! ### what is walked -/
noncomputable def kWk : D → Store → Res IT := fun d st1 => match wkOf d st1 with
  | some it => .ok it st1
  | none => .stuck
@[simp] theorem iA_eq (f : LE) (env : DEnv) (st : Store) : iA f env st = (f env st).bind kWk := (rfl)
abbrev gT : Store → Bool := fun _ => true
@[simp] theorem kWk_lst (xs : List D) (st : Store) : kWk (.lst xs) st = .ok (xs, gT) st := (rfl)
@[simp] theorem kWk_lck (xs : List D) (st : Store) : kWk (.lck xs) st = .ok (xs, gT) st := (rfl)
@[simp] theorem kWk_tup (xs : List D) (st : Store) : kWk (.tup xs) st = .ok (xs, gT) st := (rfl)
@[simp] theorem kWk_str (s : Str) (st : Store) : kWk (.str s) st = .ok (s.cps.toList.map fun c => .str ⟨#[c]⟩, gT) st := (rfl)
theorem kWk_ref {k : Nat} {xs : List D} {st : Store} (h : st[k]? = some (.lst xs)) : kWk (.ref k) st = .ok (xs, gC k xs) st := by
  have e : wkOf (.ref k) st = some (xs, gC k xs) := by
    show (match st[k]? with
      | some (.lst xs) => some (xs, gC k xs)
      | _ => none) = _
    rw [h]
  unfold kWk
  rw [e]
def kR1 : List D → Store → Res IT := fun ds st1 => match ds with
  | [.int j] => if -(2 ^ 62) ≤ j ∧ j < 2 ^ 62 then .ok (rgD 0 1 j.toNat, fun _ => true) st1 else .stuck
  | _ => .stuck
@[simp] theorem iR1_eq (g : LA) (env : DEnv) (st : Store) : iR1 g env st = (g env st).bind kR1 := (rfl)
theorem kR1_of {j : Int} (h : -(2 ^ 62) ≤ j ∧ j < 2 ^ 62) (st : Store) : kR1 [.int j] st = .ok (rgD 0 1 j.toNat, gT) st := if_pos h
def kR2 : List D → Store → Res IT := fun ds st1 => match ds with
  | [.int i, .int j] => if -(2 ^ 62) ≤ i ∧ i < 2 ^ 62 ∧ -(2 ^ 62) ≤ j ∧ j < 2 ^ 62 then .ok (rgD i 1 (j - i).toNat, fun _ => true) st1 else .stuck
  | _ => .stuck
@[simp] theorem iR2_eq (g : LA) (env : DEnv) (st : Store) : iR2 g env st = (g env st).bind kR2 := (rfl)
theorem kR2_of {i j : Int} (h : -(2 ^ 62) ≤ i ∧ i < 2 ^ 62 ∧ -(2 ^ 62) ≤ j ∧ j < 2 ^ 62) (st : Store) : kR2 [.int i, .int j] st = .ok (rgD i 1 (j - i).toNat, gT) st := if_pos h
def kR3 : List D → Store → Res IT := fun ds st1 => match ds with
  | [.int i, .int j, .int c] => if c ≠ 0 ∧ c.natAbs < 1073741824 ∧ i.natAbs < 2 ^ 60 ∧ j.natAbs < 2 ^ 60 then .ok (rgD i c (Builtin.Range.rangeSize i j c).toNat, fun _ => true) st1 else .stuck
  | _ => .stuck
@[simp] theorem iR3_eq (g : LA) (env : DEnv) (st : Store) : iR3 g env st = (g env st).bind kR3 := (rfl)
theorem kR3_of {i j c : Int} (h : c ≠ 0 ∧ c.natAbs < 1073741824 ∧ i.natAbs < 2 ^ 60 ∧ j.natAbs < 2 ^ 60) (st : Store) : kR3 [.int i, .int j, .int c] st = .ok (rgD i c (Builtin.Range.rangeSize i j c).toNat, gT) st := if_pos h
noncomputable def kEn : List D → Store → Res IT := fun ds st1 => match ds with
  | [d] => (match wkL d st1 with
    | some (xs, g) => .ok (numD 0 xs, g) st1
    | none => .stuck)
  | _ => .stuck
@[simp] theorem iEn_eq (g : LA) (env : DEnv) (st : Store) : iEn g env st = (g env st).bind kEn := (rfl)
@[simp] theorem kEn_lst (xs : List D) (st : Store) : kEn [.lst xs] st = .ok (numD 0 xs, gT) st := (rfl)
noncomputable def kRe : List D → Store → Res IT := fun ds st1 => match ds with
  | [d] => (match wkL d st1 with
    | some (xs, g) => .ok (xs.reverse, g) st1
    | none => .stuck)
  | _ => .stuck
@[simp] theorem iRe_eq (g : LA) (env : DEnv) (st : Store) : iRe g env st = (g env st).bind kRe := (rfl)
@[simp] theorem kRe_lst (xs : List D) (st : Store) : kRe [.lst xs] st = .ok (xs.reverse, gT) st := (rfl)
theorem wkL_ref {k : Nat} {xs : List D} {st : Store} (h : st[k]? = some (.lst xs)) : wkL (.ref k) st = some (xs, gC k xs) := by
  show (match st[k]? with
    | some (.lst xs) => some (xs, gC k xs)
    | _ => none) = _
  rw [h]
theorem kRe_ref {k : Nat} {xs : List D} {st : Store} (h : st[k]? = some (.lst xs)) : kRe [.ref k] st = .ok (xs.reverse, gC k xs) st := by
  unfold kRe
  dsimp only
  rw [wkL_ref h]
theorem kEn_ref {k : Nat} {xs : List D} {st : Store} (h : st[k]? = some (.lst xs)) : kEn [.ref k] st = .ok (numD 0 xs, gC k xs) st := by
  unfold kEn
  dsimp only
  rw [wkL_ref h]
/-! ### comprehensions -/
/-- no change of the store: filter and map -/
theorem lcRun_pure {g : Store → Bool} {lg : LG} {ft : LT} {fe : LE} {envw : DEnv} {st : Store} (hg : g st = true) : ∀ {items : List D} (t : D → Bool) (φ : D → D),
    (∀ d ∈ items, ∃ e1, lg d envw st = .nx e1 st ∧ ft e1 st = .ok (t d) st ∧ (t d = true → fe e1 st = .ok (φ d) st)) → lcRun g lg ft fe envw items st = .ok ((items.filter t).map φ) st
  | [], t, φ, _ => by rw [lcRun, if_pos hg]; rfl
  | d :: ds, t, φ, h => by
    obtain ⟨e1, h1, h2, h3⟩ := h d List.mem_cons_self
    have ih := lcRun_pure hg t φ (fun x hx => h x (List.mem_cons_of_mem _ hx)) (items := ds)
    rw [lcRun, if_pos hg, h1]
    dsimp only
    rw [h2]
    dsimp only [noex, Res.bind]
    cases c : t d with
    | true =>
      rw [if_pos rfl, h3 c]
      dsimp only [noex, Res.bind]
      rw [ih, List.filter_cons, if_pos c]
      rfl
    | false =>
      rw [if_neg Bool.false_ne_true, ih, List.filter_cons, if_neg (by rw [c]; exact Bool.false_ne_true)]
theorem lcRun_map {g : Store → Bool} {lg : LG} {ft : LT} {fe : LE} {envw : DEnv} {st : Store} (hg : g st = true) {items : List D} (φ : D → D)
    (h : ∀ d ∈ items, ∃ e1, lg d envw st = .nx e1 st ∧ ft e1 st = .ok true st ∧ fe e1 st = .ok (φ d) st) : lcRun g lg ft fe envw items st = .ok (items.map φ) st := by
  have := lcRun_pure (g := g) (lg := lg) (ft := ft) (fe := fe) (envw := envw) hg (items := items) (fun _ => true) φ fun d hd => by
    obtain ⟨e1, h1, h2, h3⟩ := h d hd
    exact ⟨e1, h1, h2, fun _ => h3⟩
  rw [this, List.filter_eq_self.mpr (fun _ _ => rfl)]
/-- with a store that changes: by what holds between the turns -/
theorem lcRun_inv {α : Type} {g : Store → Bool} {lg : LG} {ft : LT} {fe : LE} {envw : DEnv} {items : List D} (rep : α → D) (P : Nat → List α → Store → Prop) (hg : ∀ i l s, P i l s → g s = true)
    (step : ∀ i d l s, items[i]? = some d → P i l s → ∃ e1 s1 b s2, lg d envw s = .nx e1 s1 ∧ ft e1 s1 = .ok b s2 ∧ (b = true → ∃ y s3, fe e1 s2 = .ok (rep y) s3 ∧ P (i + 1) (l ++ [y]) s3) ∧ (b = false → P (i + 1) l s2)) {st : Store} (h0 : P 0 [] st) :
    ∃ l s, lcRun g lg ft fe envw items st = .ok (l.map rep) s ∧ P items.length l s := by
  have key : ∀ (ds : List D) (i : Nat) (l : List α) (s : Store), items.drop i = ds → i ≤ items.length → P i l s → ∃ l' s', lcRun g lg ft fe envw ds s = .ok (l'.map rep) s' ∧ P items.length (l ++ l') s' := fun ds => by
    induction ds with
    | nil =>
      intro i l s hd hl hp
      have hi : i = items.length := by
        have := congrArg List.length hd
        simp at this
        omega
      subst hi
      exact ⟨[], s, by rw [lcRun, if_pos (hg _ l s hp)]; rfl, by rw [List.append_nil]; exact hp⟩
    | cons d ds ih =>
      intro i l s hd hl hp
      have hlt : i < items.length := by
        have := congrArg List.length hd
        simp at this
        omega
      have e1 : items[i]? = some d := by
        have : (items.drop i)[0]? = some d := by rw [hd]; rfl
        simpa using this
      have hd2 : items.drop (i + 1) = ds := by
        have : (items.drop i).drop 1 = ds := by rw [hd]; rfl
        rw [← this, List.drop_drop]
      obtain ⟨ea, s1, b, s2, h1, h2, h3, h4⟩ := step i d l s e1 hp
      rw [lcRun, if_pos (hg i l s hp), h1]
      dsimp only
      rw [h2]
      dsimp only [noex, Res.bind]
      cases b with
      | true =>
        obtain ⟨y, s3, h5, h6⟩ := h3 rfl
        obtain ⟨l', s', h7, h8⟩ := ih (i + 1) (l ++ [y]) s3 hd2 hlt h6
        rw [if_pos rfl, h5]
        dsimp only [noex, Res.bind]
        rw [h7]
        exact ⟨y :: l', s', rfl, by rw [List.append_assoc] at h8; exact h8⟩
      | false =>
        rw [if_neg Bool.false_ne_true]
        exact ih (i + 1) l s2 hd2 hlt (h4 rfl)
  obtain ⟨l, s, h1, h2⟩ := key items 0 [] st (by simp) (Nat.zero_le _) h0
  exact ⟨l, s, h1, by simpa using h2⟩
def kLcE : List D → Store → Res D := fun ys st2 => if ys.length ≤ lim then .ok (.lst ys) st2 else .stuck
def kLcC : List D → Store → Res D := fun ys st2 => if ys.length ≤ lim then .ok (.ref st2.length) (st2 ++ [.lst ys]) else .stuck
def kLc (lg : LG) (ft : LT) (fe : LE) (envw : DEnv) : IT → Store → Res D := fun it st1 => (lcRun it.2 lg ft fe envw it.1 st1).bind kLcE
def kLcK (lg : LG) (ft : LT) (fe : LE) (envw : DEnv) : IT → Store → Res D := fun it st1 => (lcRun it.2 lg ft fe envw it.1 st1).bind kLcC
@[simp] theorem fLc_eq (fi : LI) (lg : LG) (ft : LT) (fe : LE) (vs : List Nat) (env : DEnv) (st : Store) : fLc fi lg ft fe vs env st = (fi env st).bind (kLc lg ft fe (wipeD env vs)) := (rfl)
@[simp] theorem fLcC_eq (fi : LI) (lg : LG) (ft : LT) (fe : LE) (vs : List Nat) (env : DEnv) (st : Store) : fLcC fi lg ft fe vs env st = (fi env st).bind (kLcK lg ft fe (wipeD env vs)) := (rfl)
theorem kLc_of {lg : LG} {ft : LT} {fe : LE} {envw : DEnv} {it : IT} {st st2 : Store} {ys : List D} (h : lcRun it.2 lg ft fe envw it.1 st = .ok ys st2) (hl : ys.length ≤ lim) : kLc lg ft fe envw it st = .ok (.lst ys) st2 := by
  unfold kLc
  rw [h]
  exact if_pos hl
theorem kLcK_of {lg : LG} {ft : LT} {fe : LE} {envw : DEnv} {it : IT} {st st2 : Store} {ys : List D} (h : lcRun it.2 lg ft fe envw it.1 st = .ok ys st2) (hl : ys.length ≤ lim) : kLcK lg ft fe envw it st = .ok (.ref st2.length) (st2 ++ [.lst ys]) := by
  unfold kLcK
  rw [h]
  exact if_pos hl
@[simp] theorem fYes_eq (env : DEnv) (st : Store) : fYes env st = .ok true st := (rfl)
@[simp] theorem wipeD_nil (env : DEnv) : wipeD env [] = env := (rfl)
@[simp] theorem wipeD_cons (env : DEnv) (i : Nat) (r : List Nat) : wipeD env (i :: r) = (wipeD env r).set i none := (rfl)
/-! ### a, *b = e; tables; a text's sign -/
def seqOf (d : D) (st : Store) : Option (List D) := match d with
  | .tup ds => some ds
  | d => rdOf d st
def stK (g1 g2 : LG) (env : DEnv) (st : Store) (q : Option (List D)) : RS := match q with
  | some (x :: xs) => if xs.length + 1 ≤ 16384 then (match g1 x env st with
    | .nx e s => g2 (.lst xs) e s
    | r => r) else .stuck
  | _ => .stuck
@[simp] theorem gSt_eq (g1 g2 : LG) (d : D) (env : DEnv) (st : Store) : gSt g1 g2 d env st = stK g1 g2 env st (seqOf d st) := (rfl)
@[simp] theorem seqOf_tup (ds : List D) (st : Store) : seqOf (.tup ds) st = some ds := (rfl)
@[simp] theorem seqOf_lst (ds : List D) (st : Store) : seqOf (.lst ds) st = some ds := (rfl)
theorem seqOf_ref {k : Nat} {xs : List D} {st : Store} (h : st[k]? = some (.lst xs)) : seqOf (.ref k) st = some xs := rdOf_ref h
theorem stK_names {i j : Nat} {env : DEnv} {st : Store} {x : D} {xs : List D} (h : xs.length + 1 ≤ 16384) : stK (gN i) (gN j) env st (some (x :: xs)) = .nx ((env.set i (some x)).set j (some (.lst xs))) st := if_pos h
@[simp] theorem stK_0 (i j : Nat) (env : DEnv) (st : Store) (x : D) : stK (gN i) (gN j) env st (some [x]) = .nx ((env.set i (some x)).set j (some (.lst []))) st := stK_names (by simp)
@[simp] theorem stK_1 (i j : Nat) (env : DEnv) (st : Store) (x a : D) : stK (gN i) (gN j) env st (some [x, a]) = .nx ((env.set i (some x)).set j (some (.lst [a]))) st := stK_names (by simp)
@[simp] theorem stK_2 (i j : Nat) (env : DEnv) (st : Store) (x a b : D) : stK (gN i) (gN j) env st (some [x, a, b]) = .nx ((env.set i (some x)).set j (some (.lst [a, b]))) st := stK_names (by simp)
def kGetI (kvs : List (Str × Int)) (dflt : Int) : D → Store → Res D := fun d st1 => match d with
  | .str z => .ok (.int ((kvs.lookup z).getD dflt)) st1
  | _ => .stuck
@[simp] theorem fGetI_eq (kvs : List (Str × Int)) (fk : LE) (dflt : Int) (env : DEnv) (st : Store) : fGetI kvs fk dflt env st = (fk env st).bind (kGetI kvs dflt) := (rfl)
@[simp] theorem kGetI_str (kvs : List (Str × Int)) (dflt : Int) (z : Str) (st : Store) : kGetI kvs dflt (.str z) st = .ok (.int ((kvs.lookup z).getD dflt)) st := (rfl)
theorem oIx_str {s : Str} {i : Int} {c : Nat} (h : atI s.cps.toList i = some c) (hl : s.length ≤ lim) (st : Store) : oIx (.str s) (.int i) st = .ok (.str ⟨#[c]⟩) st := by
  show (match atI s.cps.toList i with
      | some c => if s.length ≤ lim then Res.ok (D.str ⟨#[c]⟩) st else .stuck
      | none => .stuck) = _
  rw [h]
  exact if_pos hl
theorem oIn_str (neg : Bool) (a b : Str) (st : Store) : oIn neg (.str a) (.str b) st = .ok (.bl (if neg then !(!(Builtin.Str.occurrences b a 0 b.length 1).isEmpty) else !(Builtin.Str.occurrences b a 0 b.length 1).isEmpty)) st := (rfl)
theorem oIn_sign (c : Nat) (b : Str) (st : Store) : oIn false (.str ⟨#[c]⟩) (.str b) st = .ok (.bl (decide (c ∈ b.cps.toList))) st := by
  rw [oIn_str, if_neg Bool.false_ne_true, StrLaws.found_one]
/-- several targets that are names -/
def tuK (gs : List LG) (env : DEnv) (st : Store) (d : D) : RS := match d with
  | .tup ds => if ds.length = gs.length then gTs gs ds env st else .stuck
  | _ => .stuck
@[simp] theorem gTu_eq (gs : List LG) (d : D) (env : DEnv) (st : Store) : gTu gs d env st = tuK gs env st d := (rfl)
@[simp] theorem tuK_2 (g h : LG) (env : DEnv) (st : Store) (a b : D) : tuK [g, h] env st (.tup [a, b]) = gTs [g, h] [a, b] env st := (rfl)
@[simp] theorem tuK_3 (g h i : LG) (env : DEnv) (st : Store) (a b c : D) : tuK [g, h, i] env st (.tup [a, b, c]) = gTs [g, h, i] [a, b, c] env st := (rfl)
def tsK (gs : List LG) (ds : List D) (r : RS) : RS := match r with
  | .nx e s => gTs gs ds e s
  | r => r
@[simp] theorem gTs_cons (g : LG) (gs : List LG) (d : D) (ds : List D) (env : DEnv) (st : Store) : gTs (g :: gs) (d :: ds) env st = tsK gs ds (g d env st) := (rfl)
@[simp] theorem gTs_nil (env : DEnv) (st : Store) : gTs [] [] env st = .nx env st := (rfl)
@[simp] theorem tsK_nx (gs : List LG) (ds : List D) (e : DEnv) (s : Store) : tsK gs ds (.nx e s) = gTs gs ds e s := (rfl)
end Fk
/-! FkP: == of data, evaluated. -/
namespace Fk
open PySem PySem.Spec PyProof.Rows L2
mutual
/-- no cells in it, its texts are texts -/
def rdyD : D → Bool
  | .non | .bl _ | .int _ => true
  | .str s => PyData.strOk s
  | .tup xs | .lst xs | .lck xs => rdyDs xs
  | .ref _ => false
def rdyDs : List D → Bool
  | [] => true
  | x :: xs => rdyD x && rdyDs xs
end
mutual
def depD : D → Nat
  | .tup xs | .lst xs | .lck xs => depDs xs + 1
  | .non | .bl _ | .int _ | .str _ | .ref _ => 0
def depDs : List D → Nat
  | [] => 0
  | x :: xs => max (depD x) (depDs xs)
end
mutual
def eqD : D → D → Bool
  | .non, .non => true
  | .bl a, .bl b => a == b
  | .bl a, .int j => (if a then 1 else 0) == j
  | .int i, .bl b => i == (if b then 1 else 0)
  | .int i, .int j => i == j
  | .str x, .str y => x == y
  | .tup xs, .tup ys => eqDs xs ys
  | .lst xs, .lst ys => eqDs xs ys
  | .lst xs, .lck ys => eqDs xs ys
  | .lck xs, .lst ys => eqDs xs ys
  | .lck xs, .lck ys => eqDs xs ys
  | _, _ => false
def eqDs : List D → List D → Bool
  | [], [] => true
  | x :: xs, y :: ys => eqD x y && eqDs xs ys
  | _, _ => false
end
mutual
theorem rdy_py : ∀ d : D, rdyD d = true → ∃ y, D.py d = some y ∧ y.canLay0 = true ∧ y.depth = depD d
  | .non, _ => ⟨.none, by simp [D.py], by simp [PyData.canLay0], by simp [PyData.depth, depD]⟩
  | .bl b, _ => ⟨.bool b, by simp [D.py], by simp [PyData.canLay0], by simp [PyData.depth, depD]⟩
  | .int b, _ => ⟨.int b, by simp [D.py], by simp [PyData.canLay0], by simp [PyData.depth, depD]⟩
  | .str s, h => ⟨.str s, by simp [D.py], by simpa [PyData.canLay0, rdyD] using h, by simp [PyData.depth, depD]⟩
  | .tup xs, h => by
    obtain ⟨ys, h1, h2, h3⟩ := rdys_py xs (by simpa [rdyD] using h)
    exact ⟨.tuple ys, by simp [D.py, h1], by simpa [PyData.canLay0] using h2, by simp [PyData.depth, depD, h3]⟩
  | .lst xs, h => by
    obtain ⟨ys, h1, h2, h3⟩ := rdys_py xs (by simpa [rdyD] using h)
    exact ⟨.list ys, by simp [D.py, h1], by simpa [PyData.canLay0] using h2, by simp [PyData.depth, depD, h3]⟩
  | .lck xs, h => by
    obtain ⟨ys, h1, h2, h3⟩ := rdys_py xs (by simpa [rdyD] using h)
    exact ⟨.list ys, by simp [D.py, h1], by simpa [PyData.canLay0] using h2, by simp [PyData.depth, depD, h3]⟩
  | .ref _, h => by simp [rdyD] at h
theorem rdys_py : ∀ ds : List D, rdyDs ds = true → ∃ ys, D.pys ds = some ys ∧ PyData.canLayAll0 ys = true ∧ PyData.depthAll ys = depDs ds
  | [], _ => ⟨[], by simp [D.pys], by simp [PyData.canLayAll0], by simp [PyData.depthAll, depDs]⟩
  | x :: xs, h => by
    have h' : rdyD x = true ∧ rdyDs xs = true := by simpa [rdyDs] using h
    obtain ⟨y, h1, h2, h3⟩ := rdy_py x h'.1
    obtain ⟨ys, h4, h5, h6⟩ := rdys_py xs h'.2
    exact ⟨y :: ys, by simp [D.pys, h1, h4], by simp [PyData.canLayAll0, h2, h5], by simp [PyData.depthAll, depDs, h3, h6]⟩
end
mutual
theorem eqv_D : ∀ (d e : D) (a b : PyData), D.py d = some a → D.py e = some b → PyData.eqv a b = eqD d e
  | .non, e, a, b, h1, h2 => by
    cases e <;> simp [D.py] at h1 h2 <;> (try subst h1) <;> (try subst h2) <;> (try (obtain ⟨_, _, rfl⟩ := h2)) <;> simp [PyData.eqv, eqD]
  | .bl x, e, a, b, h1, h2 => by
    cases e <;> simp [D.py] at h1 h2 <;> (try subst h1) <;> (try subst h2) <;> (try (obtain ⟨_, _, rfl⟩ := h2)) <;> simp [PyData.eqv, eqD]
  | .int x, e, a, b, h1, h2 => by
    cases e <;> simp [D.py] at h1 h2 <;> (try subst h1) <;> (try subst h2) <;> (try (obtain ⟨_, _, rfl⟩ := h2)) <;> simp [PyData.eqv, eqD]
  | .str x, e, a, b, h1, h2 => by
    cases e <;> simp [D.py] at h1 h2 <;> (try subst h1) <;> (try subst h2) <;> (try (obtain ⟨_, _, rfl⟩ := h2)) <;> simp [PyData.eqv, eqD]
  | .tup xs, e, a, b, h1, h2 => by
    simp [D.py] at h1
    obtain ⟨as, h1, rfl⟩ := h1
    cases e <;> simp [D.py] at h2 <;> (try subst h2) <;> (try (obtain ⟨bs, h2, rfl⟩ := h2)) <;> simp [PyData.eqv, eqD]
    exact eqv_Ds xs _ as bs h1 h2
  | .lst xs, e, a, b, h1, h2 => by
    simp [D.py] at h1
    obtain ⟨as, h1, rfl⟩ := h1
    cases e <;> simp [D.py] at h2 <;> (try subst h2) <;> (try (obtain ⟨bs, h2, rfl⟩ := h2)) <;> simp [PyData.eqv, eqD] <;> exact eqv_Ds xs _ as bs h1 h2
  | .lck xs, e, a, b, h1, h2 => by
    simp [D.py] at h1
    obtain ⟨as, h1, rfl⟩ := h1
    cases e <;> simp [D.py] at h2 <;> (try subst h2) <;> (try (obtain ⟨bs, h2, rfl⟩ := h2)) <;> simp [PyData.eqv, eqD] <;> exact eqv_Ds xs _ as bs h1 h2
  | .ref _, e, a, b, h1, h2 => by simp [D.py] at h1
theorem eqv_Ds : ∀ (ds es : List D) (as bs : List PyData), D.pys ds = some as → D.pys es = some bs → PyData.eqvAll as bs = eqDs ds es
  | [], es, as, bs, h1, h2 => by
    simp [D.pys] at h1
    subst h1
    cases es with
    | nil =>
      simp [D.pys] at h2
      subst h2
      simp [PyData.eqvAll, eqDs]
    | cons e es =>
      rw [D.pys] at h2
      cases q1 : D.py e with
      | none => rw [q1] at h2; cases h2
      | some b =>
        cases q2 : D.pys es with
        | none => rw [q1, q2] at h2; cases h2
        | some bs' =>
          rw [q1, q2] at h2
          cases h2
          simp [PyData.eqvAll, eqDs]
  | d :: ds, es, as, bs, h1, h2 => by
    rw [D.pys] at h1
    cases p1 : D.py d with
    | none => rw [p1] at h1; cases h1
    | some a =>
      cases p2 : D.pys ds with
      | none => rw [p1, p2] at h1; cases h1
      | some as' =>
        rw [p1, p2] at h1
        cases h1
        cases es with
        | nil =>
          simp [D.pys] at h2
          subst h2
          simp [PyData.eqvAll, eqDs]
        | cons e es =>
          rw [D.pys] at h2
          cases q1 : D.py e with
          | none => rw [q1] at h2; cases h2
          | some b =>
            cases q2 : D.pys es with
            | none => rw [q1, q2] at h2; cases h2
            | some bs' =>
              rw [q1, q2] at h2
              cases h2
              simp [PyData.eqvAll, eqDs, eqv_D d e a b p1 q1, eqv_Ds ds es as' bs' p2 q2]
end
theorem topOf_rdy {d : D} (h : rdyD d = true) (st : Store) : topOf d st = d := by
  cases d with
  | ref k => simp [rdyD] at h
  | _ => rfl
theorem topOf_ref {k : Nat} {xs : List D} {st : Store} (h : st[k]? = some (.lst xs)) : topOf (.ref k) st = .lst xs := by
  show (match st[k]? with
    | some (.lst xs) => D.lst xs
    | _ => .ref k) = _
  rw [h]
theorem py2_of {d e d' e' : D} {st : Store} {g : PyData → PyData → Res D} (td : topOf d st = d') (te : topOf e st = e') (h1 : rdyD d' = true) (h2 : rdyD e' = true) (h3 : depD d' ≤ 64) (h4 : depD e' ≤ 64) : ∃ a b, PyData.eqv a b = eqD d' e' ∧ py2 d e st g = g a b := by
  obtain ⟨a, p1, p2, p3⟩ := rdy_py d' h1
  obtain ⟨b, q1, q2, q3⟩ := rdy_py e' h2
  have s1 : SeqAt.shaped a = true := by unfold SeqAt.shaped; simp [p2, p3, h3]
  have s2 : SeqAt.shaped b = true := by unfold SeqAt.shaped; simp [q2, q3, h4]
  refine ⟨a, b, eqv_D d' e' a b p1 q1, ?_⟩
  unfold py2
  rw [td, te, p1, q1]
  exact if_pos ⟨s1, s2⟩
theorem oEq_of {d e d' e' : D} {st : Store} (td : topOf d st = d') (te : topOf e st = e') (h1 : rdyD d' = true) (h2 : rdyD e' = true) (h3 : depD d' ≤ 64) (h4 : depD e' ≤ 64) : oEq d e st = .ok (.bl (eqD d' e')) st := by
  obtain ⟨a, b, h, k⟩ := py2_of (g := fun a b => .ok (.bl (PyData.eqv a b)) st) td te h1 h2 h3 h4
  unfold oEq
  rw [k, h]
theorem oNe_of {d e d' e' : D} {st : Store} (td : topOf d st = d') (te : topOf e st = e') (h1 : rdyD d' = true) (h2 : rdyD e' = true) (h3 : depD d' ≤ 64) (h4 : depD e' ≤ 64) : oNe d e st = .ok (.bl (!eqD d' e')) st := by
  obtain ⟨a, b, h, k⟩ := py2_of (g := fun a b => .ok (.bl (!PyData.eqv a b)) st) td te h1 h2 h3 h4
  unfold oNe
  rw [k, h]
theorem oEq_rdy {d e : D} {st : Store} (h1 : rdyD d = true) (h2 : rdyD e = true) (h3 : depD d ≤ 64) (h4 : depD e ≤ 64) : oEq d e st = .ok (.bl (eqD d e)) st := oEq_of (topOf_rdy h1 st) (topOf_rdy h2 st) h1 h2 h3 h4
theorem oNe_rdy {d e : D} {st : Store} (h1 : rdyD d = true) (h2 : rdyD e = true) (h3 : depD d ≤ 64) (h4 : depD e ≤ 64) : oNe d e st = .ok (.bl (!eqD d e)) st := oNe_of (topOf_rdy h1 st) (topOf_rdy h2 st) h1 h2 h3 h4
mutual
theorem eqD_refl : ∀ d : D, rdyD d = true → eqD d d = true
  | .non, _ => by simp [eqD]
  | .bl b, _ => by simp [eqD]
  | .int b, _ => by simp [eqD]
  | .str b, _ => by simp [eqD]
  | .tup xs, h => by simp only [eqD]; exact eqDs_refl xs (by simpa [rdyD] using h)
  | .lst xs, h => by simp only [eqD]; exact eqDs_refl xs (by simpa [rdyD] using h)
  | .lck xs, h => by simp only [eqD]; exact eqDs_refl xs (by simpa [rdyD] using h)
  | .ref _, h => by simp [rdyD] at h
theorem eqDs_refl : ∀ ds : List D, rdyDs ds = true → eqDs ds ds = true
  | [], _ => by simp [eqDs]
  | x :: xs, h => by
    have h' : rdyD x = true ∧ rdyDs xs = true := by simpa [rdyDs] using h
    simp [eqDs, eqD_refl x h'.1, eqDs_refl xs h'.2]
end
mutual
/-- no truths, no script in it -/
def clrD : D → Bool
  | .non | .int _ | .str _ => true
  | .tup xs | .lst xs => clrDs xs
  | .bl _ | .lck _ | .ref _ => false
def clrDs : List D → Bool
  | [] => true
  | x :: xs => clrD x && clrDs xs
end
mutual
theorem eqD_eq : ∀ d e : D, clrD d = true → clrD e = true → eqD d e = true → d = e
  | .non, e, _, h2, h => by cases e <;> simp_all [eqD, clrD]
  | .int _, e, _, h2, h => by cases e <;> simp_all [eqD, clrD]
  | .str _, e, _, h2, h => by cases e <;> simp_all [eqD, clrD]
  | .tup xs, e, h1, h2, h => by
    cases e <;> simp [eqD, clrD] at h1 h2 h
    rw [eqDs_eq xs _ h1 h2 h]
  | .lst xs, e, h1, h2, h => by
    cases e <;> simp [eqD, clrD] at h1 h2 h
    rw [eqDs_eq xs _ h1 h2 h]
  | .bl _, e, h1, _, _ => by simp [clrD] at h1
  | .lck _, e, h1, _, _ => by simp [clrD] at h1
  | .ref _, e, h1, _, _ => by simp [clrD] at h1
theorem eqDs_eq : ∀ ds es : List D, clrDs ds = true → clrDs es = true → eqDs ds es = true → ds = es
  | [], es, _, _, h => by cases es <;> simp_all [eqDs]
  | d :: ds, es, h1, h2, h => by
    cases es with
    | nil => simp [eqDs] at h
    | cons e es =>
      simp [eqDs, clrDs] at h h1 h2
      rw [eqD_eq d e h1.1 h2.1 h.1, eqDs_eq ds es h1.2 h2.2 h.2]
end
theorem eqD_iff {d e : D} (h1 : clrD d = true) (h2 : clrD e = true) (hr : rdyD d = true) : eqD d e = true ↔ d = e := ⟨eqD_eq d e h1 h2, fun h => h ▸ eqD_refl d hr⟩
/-! ### of known kinds -/
@[simp] theorem oEq_int (i j : Int) (st : Store) : oEq (.int i) (.int j) st = .ok (.bl (decide (i = j))) st := by
  rw [oEq_rdy (by simp [rdyD]) (by simp [rdyD]) (by simp [depD]) (by simp [depD])]
  simp [eqD]
  rfl
@[simp] theorem oNe_int (i j : Int) (st : Store) : oNe (.int i) (.int j) st = .ok (.bl (!decide (i = j))) st := by
  rw [oNe_rdy (by simp [rdyD]) (by simp [rdyD]) (by simp [depD]) (by simp [depD])]
  simp [eqD]
  rfl
@[simp] theorem oEq_bl (i j : Bool) (st : Store) : oEq (.bl i) (.bl j) st = .ok (.bl (i == j)) st := by
  rw [oEq_rdy (by simp [rdyD]) (by simp [rdyD]) (by simp [depD]) (by simp [depD])]
  simp [eqD]
@[simp] theorem oNe_bl (i j : Bool) (st : Store) : oNe (.bl i) (.bl j) st = .ok (.bl (!(i == j))) st := by
  rw [oNe_rdy (by simp [rdyD]) (by simp [rdyD]) (by simp [depD]) (by simp [depD])]
  simp [eqD]
theorem oEq_str {a b : Str} (ha : PyData.strOk a = true) (hb : PyData.strOk b = true) (st : Store) : oEq (.str a) (.str b) st = .ok (.bl (a == b)) st := by
  rw [oEq_rdy (by simp [rdyD, ha]) (by simp [rdyD, hb]) (by simp [depD]) (by simp [depD])]
  simp [eqD]
theorem oNe_str {a b : Str} (ha : PyData.strOk a = true) (hb : PyData.strOk b = true) (st : Store) : oNe (.str a) (.str b) st = .ok (.bl (!(a == b))) st := by
  rw [oNe_rdy (by simp [rdyD, ha]) (by simp [rdyD, hb]) (by simp [depD]) (by simp [depD])]
  simp [eqD]
/-- == [] -/
theorem oEq_nil {xs : List D} (h1 : rdyDs xs = true) (h2 : depDs xs ≤ 63) (st : Store) : oEq (.lst xs) (.lst []) st = .ok (.bl xs.isEmpty) st := by
  rw [oEq_rdy (by simpa [rdyD] using h1) (by simp [rdyD, rdyDs]) (by simp [depD]; omega) (by simp [depD, depDs])]
  cases xs <;> simp [eqD, eqDs]
theorem oEq_nilT {xs : List D} (h1 : rdyDs xs = true) (h2 : depDs xs ≤ 63) (st : Store) : oEq (.tup xs) (.tup []) st = .ok (.bl xs.isEmpty) st := by
  rw [oEq_rdy (by simpa [rdyD] using h1) (by simp [rdyD, rdyDs]) (by simp [depD]; omega) (by simp [depD, depDs])]
  cases xs <;> simp [eqD, eqDs]
@[simp] theorem oEq_nn (st : Store) : oEq (.lst []) (.lst []) st = .ok (.bl true) st := oEq_nil (by simp [rdyDs]) (by simp [depDs]) st
@[simp] theorem oEq_tt (st : Store) : oEq (.tup []) (.tup []) st = .ok (.bl true) st := oEq_nilT (by simp [rdyDs]) (by simp [depDs]) st
theorem rdyDs_all {xs : List D} : rdyDs xs = true ↔ ∀ x ∈ xs, rdyD x = true := by
  induction xs with
  | nil => simp [rdyDs]
  | cons x xs ih => simp [rdyDs, ih]
theorem depDs_le {xs : List D} {n : Nat} : depDs xs ≤ n ↔ ∀ x ∈ xs, depD x ≤ n := by
  induction xs with
  | nil => simp [depDs]
  | cons x xs ih => simp [depDs, ih, Nat.max_le]
theorem clrDs_all {xs : List D} : clrDs xs = true ↔ ∀ x ∈ xs, clrD x = true := by
  induction xs with
  | nil => simp [clrDs]
  | cons x xs ih => simp [clrDs, ih]
end Fk
/-! FkQ: dicts of ints and texts. -/
namespace Fk
open PySem PySem.Spec PyProof.Rows L2
def keyD (d : D) : Option Key := match d with
  | .int i => some (.inl i)
  | .str s => some (.inr s)
  | _ => none
def kD : Key → D
  | .inl i => .int i
  | .inr s => .str s
def dicL (d : D) (st : Store) : Option (Nat × List (Key × D)) := match d with
  | .ref k => (match st[k]? with
    | some (.dic kvs) => some (k, kvs)
    | _ => none)
  | _ => none
/-- by keys: the value, the dict with it, without it -/
def valD (kvs : List (Key × D)) (k : Key) : Option D := (kvs.find? fun p => decide (p.1 = k)).map fun p => p.2
def setD (kvs : List (Key × D)) (k : Key) (v : D) : List (Key × D) := if (kvs.any fun p => decide (p.1 = k)) = true then kvs.map (fun p => if p.1 = k then (p.1, v) else p) else kvs ++ [(k, v)]
def delD (kvs : List (Key × D)) (k : Key) : List (Key × D) := kvs.filter fun p => decide (p.1 ≠ k)
abbrev Kvs (w : Wd) (us : List (Key × V)) (kvs : List (Key × D)) : Prop := us.map (·.1) = kvs.map (·.1) ∧ Dats w (us.map (·.2)) (kvs.map (·.2))
section
variable {w : Wd}
theorem key_at {x : V} {d : D} {k : Key} (h : Dat w x d) (e : keyD d = some k) : x = kV k := by
  cases h with
  | int i => cases e; rfl
  | str i => cases e; rfl
  | _ => cases e
theorem kD_dat (k : Key) : Dat w (kV k) (kD k) := by
  cases k with
  | inl i => exact .int i
  | inr s => exact .str s
theorem Kvs.length {us : List (Key × V)} {kvs : List (Key × D)} (h : Kvs w us kvs) : us.length = kvs.length := by
  have := congrArg List.length h.1
  simpa using this
theorem Kvs.uncons {p : Key × V} {q : Key × D} {us : List (Key × V)} {kvs : List (Key × D)} (h : Kvs w (p :: us) (q :: kvs)) : p.1 = q.1 ∧ Dat w p.2 q.2 ∧ Kvs w us kvs := by
  obtain ⟨h1, h2⟩ := h
  rw [List.map_cons, List.map_cons] at h1 h2
  cases h2 with
  | cons a b => exact ⟨(List.cons.inj h1).1, a, (List.cons.inj h1).2, b⟩
theorem Kvs.cons {p : Key × V} {q : Key × D} {us : List (Key × V)} {kvs : List (Key × D)} (e : p.1 = q.1) (d : Dat w p.2 q.2) (h : Kvs w us kvs) : Kvs w (p :: us) (q :: kvs) := ⟨by rw [List.map_cons, List.map_cons, e, h.1], .cons d h.2⟩
theorem Kvs.any : ∀ {us : List (Key × V)} {kvs : List (Key × D)}, Kvs w us kvs → ∀ k, (us.any fun p => decide (p.1 = k)) = kvs.any fun p => decide (p.1 = k)
  | [], [], _, _ => rfl
  | [], _ :: _, h, _ => by cases h.1
  | _ :: _, [], h, _ => by cases h.1
  | p :: us, q :: kvs, h, k => by
    obtain ⟨e, _, r⟩ := h.uncons
    rw [List.any_cons, List.any_cons, e, Kvs.any r k]
theorem Kvs.val : ∀ {us : List (Key × V)} {kvs : List (Key × D)}, Kvs w us kvs → ∀ k, (valD kvs k = none → valV us k = none) ∧ ∀ d, valD kvs k = some d → ∃ v, valV us k = some v ∧ Dat w v d
  | [], [], _, _ => ⟨fun _ => rfl, fun d h => by cases h⟩
  | [], _ :: _, h, _ => by cases h.1
  | _ :: _, [], h, _ => by cases h.1
  | p :: us, q :: kvs, h, k => by
    obtain ⟨e, d0, r⟩ := h.uncons
    have ih := Kvs.val r k
    by_cases c : p.1 = k
    · have cq : q.1 = k := by rw [← e]; exact c
      refine ⟨fun z => ?_, fun d z => ?_⟩
      · simp [valD, List.find?_cons, cq] at z
      · have : q.2 = d := by simpa [valD, List.find?_cons, cq] using z
        subst this
        exact ⟨p.2, valV_pos c, d0⟩
    · have cq : ¬ q.1 = k := by rw [← e]; exact c
      have eq1 : valD (q :: kvs) k = valD kvs k := by simp [valD, List.find?_cons, cq]
      rw [eq1, valV_neg c]
      exact ih
theorem Kvs.maps {v : V} {d : D} (dv : Dat w v d) (k : Key) : ∀ {us : List (Key × V)} {kvs : List (Key × D)}, Kvs w us kvs → Kvs w (us.map fun p => if p.1 = k then (p.1, v) else p) (kvs.map fun p => if p.1 = k then (p.1, d) else p)
  | [], [], h => h
  | [], _ :: _, h => by cases h.1
  | _ :: _, [], h => by cases h.1
  | p :: us, q :: kvs, h => by
    obtain ⟨e, d0, r⟩ := h.uncons
    have ih := Kvs.maps dv k r
    rw [List.map_cons, List.map_cons]
    by_cases c : p.1 = k
    · have cq : q.1 = k := by rw [← e]; exact c
      rw [if_pos c, if_pos cq]
      exact ih.cons e dv
    · have cq : ¬ q.1 = k := by rw [← e]; exact c
      rw [if_neg c, if_neg cq]
      exact ih.cons e d0
theorem Kvs.snoc {v : V} {d : D} (dv : Dat w v d) (k : Key) {us : List (Key × V)} {kvs : List (Key × D)} (h : Kvs w us kvs) : Kvs w (us ++ [(k, v)]) (kvs ++ [(k, d)]) := ⟨by rw [List.map_append, List.map_append, h.1]; rfl, by rw [List.map_append, List.map_append]; exact h.2.append (.one dv)⟩
theorem Kvs.put {v : V} {d : D} (dv : Dat w v d) (k : Key) {us : List (Key × V)} {kvs : List (Key × D)} (h : Kvs w us kvs) : Kvs w (putK us k v) (setD kvs k d) := by
  unfold putK setD
  rw [h.any k]
  by_cases c : (kvs.any fun p => decide (p.1 = k)) = true
  · rw [if_pos c, if_pos c]
    exact h.maps dv k
  · rw [if_neg c, if_neg c]
    exact h.snoc dv k
theorem Kvs.drop (k : Key) : ∀ {us : List (Key × V)} {kvs : List (Key × D)}, Kvs w us kvs → Kvs w (dropK us k) (delD kvs k)
  | [], [], h => h
  | [], _ :: _, h => by cases h.1
  | _ :: _, [], h => by cases h.1
  | p :: us, q :: kvs, h => by
    obtain ⟨e, d0, r⟩ := h.uncons
    have ih := Kvs.drop k r
    unfold dropK delD at ih ⊢
    rw [List.filter_cons, List.filter_cons]
    by_cases c : p.1 = k
    · have cq : q.1 = k := by rw [← e]; exact c
      rw [if_neg (by simp [c]), if_neg (by simp [cq])]
      exact ih
    · have cq : ¬ q.1 = k := by rw [← e]; exact c
      rw [if_pos (by simp [c]), if_pos (by simp [cq])]
      exact ih.cons e d0
end
section
variable {K : PySem.W.Frag} {T : List (Addr × Str)} {w : Wd} {H : Hp} {st : Store}
theorem dic_at {x : V} {d : D} {k : Nat} {kvs : List (Key × D)} (r : Rel K T w H st) (h : Dat w x d) (e : dicL d st = some (k, kvs)) : ∃ p us, x = .ref p ∧ w.ads[k]? = some p ∧ st[k]? = some (.dic kvs) ∧ H p = some (.dK us) ∧ Kvs w us kvs := by
  cases h with
  | @ref p j ha =>
    have e' : (match st[j]? with | some (.dic kvs) => some (j, kvs) | _ => none) = some (k, kvs) := e
    cases q : st[j]? with
    | none => rw [q] at e'; cases e'
    | some cl =>
      rw [q] at e'
      cases cl with
      | dic ys =>
        cases e'
        obtain ⟨p', a', _, us, hH, h1, h2⟩ := r.addr q
        rw [ha] at a'
        cases a'
        exact ⟨p, us, rfl, ha, q, hH, h1, h2⟩
      | _ => cases e'
  | _ => cases e
theorem Rel.putDic (r : Rel K T w H st) {k : Nat} {p : Addr} {kvs kvs' : List (Key × D)} {us' : List (Key × V)} (ha : w.ads[k]? = some p) (hs : st[k]? = some (.dic kvs)) (hv : Kvs w us' kvs') :
    Stp w H w (upd H p (.dK us')) ∧ Rel K T w (upd H p (.dK us')) (st.set k (.dic kvs')) :=
  r.put hs (by simp) ha ⟨(r.at_ k _ p hs ha).1, us', upd_same, hv⟩
theorem Post.newDic {E : XK} {kvs : List (Key × D)} {us : List (Key × V)} {Q : VK} (p : Post K T E Dat w H (.ok (.ref st.length) (st ++ [.dic kvs])) Q) (r : Rel K T w H st) (hv : Kvs w us kvs) : ∀ a, H a = none → Q (.ref a) (upd H a (.dK us)) := fun a ha => by
  have hk : ∀ b u, H b = some u → upd H a (.dK us) b = some u := fun b u h => by
    rw [upd_ne (fun z => by rw [z, ha] at h; cases h)]
    exact h
  have le : Le w ⟨w.F, w.ads ++ [a], w.S⟩ := ⟨fun _ _ h => h, fun k q h => by
    show (w.ads ++ [a])[k]? = some q
    rw [List.getElem?_append_left (List.getElem?_eq_some_iff.mp h).1]
    exact h, rfl⟩
  obtain ⟨s1, r1⟩ := r.grown ha (H' := upd H a (.dK us)) hk (c := .dic kvs) ⟨r.freeF ha, us, upd_same, hv.1, hv.2.mono le⟩
  refine p _ _ _ s1 r1 (.ref ?_)
  show (w.ads ++ [a])[st.length]? = some a
  rw [← r.len]
  simp
end
/-! ### {}, d[k], d.get, k in d, d[k] = v, d.pop(k, x) -/
def fDic0 : LE := fun _ st => .ok (.ref st.length) (st ++ [.dic []])
def oDget : O2 := fun d e st => match dicL d st, keyD e with
  | some (_, kvs), some k => (match valD kvs k with
    | some z => .ok z st
    | none => .stuck)
  | _, _ => .stuck
def oDin (neg : Bool) : O2 := fun e d st => match dicL d st, keyD e with
  | some (_, kvs), some k => .ok (.bl (if neg then !(valD kvs k).isSome else (valD kvs k).isSome)) st
  | _, _ => .stuck
def isDic (d : D) (st : Store) : Bool := (dicL d st).isSome
def fDget2 (fd fk fx : LE) : LE := fun env st => (fd env st).bind fun d st1 => if isDic d st1 = true then (fk env st1).bind fun e st2 => (fx env st2).bind fun z st3 => match dicL d st3, keyD e with
  | some (_, kvs), some k => .ok ((valD kvs k).getD z) st3
  | _, _ => .stuck else .stuck
def fDpop2 (fd fk fx : LE) : LE := fun env st => (fd env st).bind fun d st1 => if isDic d st1 = true then (fk env st1).bind fun e st2 => (fx env st2).bind fun z st3 => match dicL d st3, keyD e with
  | some (j, kvs), some k => (match valD kvs k with
    | some v => .ok v (st3.set j (.dic (delD kvs k)))
    | none => .ok z st3)
  | _, _ => .stuck else .stuck
def fDput (fv fd fk : LE) : LS := fun env st => (fv env st).go env fun v st1 => (fd env st1).go env fun d st2 => (fk env st2).go env fun e st3 => match dicL d st3, keyD e with
  | some (j, kvs), some k => if kvs.length < lim then .nx env (st3.set j (.dic (setD kvs k v))) else .stuck
  | _, _ => .stuck
section
variable {X : Cx} {T : List (Addr × Str)} {E : XK} {pos pos' : Pos} {o i e f value : Expr} {fd fk fx fv : LE} {k : Nat}
theorem hu1 (hr : Room k X.A) : X.A.units + 1 < cLine := by
  have := hr.un
  omega
theorem x_dic0 : PEf X T E (.Dict [] [] pos) fDic0 := pe_to pe_dnewK fun w σ H env st Q he r p => p.newDic r ⟨rfl, .nil⟩
theorem dget_at {K : PySem.W.Frag} {w : Wd} {H : Hp} {st : Store} {x y : V} {d e : D} {j : Nat} {kvs : List (Key × D)} {k : Key} (r : Rel K T w H st) (dx : Dat w x d) (dy : Dat w y e) (h1 : dicL d st = some (j, kvs)) (h2 : keyD e = some k) :
    ∃ a us, x = .ref a ∧ DGet H a y (valV us k) ∧ Kvs w us kvs ∧ H a = some (.dK us) ∧ w.ads[j]? = some a ∧ st[j]? = some (.dic kvs) ∧ y = kV k := by
  obtain ⟨a, us, rfl, ha, hs, hH, hv⟩ := dic_at r dx h1
  have ey := key_at dy h2
  subst ey
  exact ⟨a, us, rfl, DGet.k hH, hv, hH, ha, hs, rfl⟩
theorem x_dget (hr : Room k X.A) (ho : PEf X T E o fd) (hi : PEf X T E i fk) (hs : NoSl i := by exact fun _ _ => rfl) : PEf X T E (.Subscript o i pos) (fOp oDget fd fk) := pe_to (pe_dget (hu1 hr) ho hi hs) fun w σ H env st Q he r p => by
  refine ⟨w, env, st, he, r, p.bind fun w1 x H1 d st1 s1 r1 dx p1 => ?_⟩
  refine ⟨w1, env, st1, he.mono s1.le, r1, p1.bind fun w2 y H2 e st2 s2 r2 dy p2 => ?_⟩
  unfold oDget at p2
  cases q1 : dicL d st2 with
  | none => rw [q1] at p2; exact p2.elim
  | some jk =>
    obtain ⟨j, kvs⟩ := jk
    cases q2 : keyD e with
    | none => rw [q1, q2] at p2; exact p2.elim
    | some kk =>
      rw [q1, q2] at p2
      dsimp only at p2
      obtain ⟨a, us, rfl, g, hv, _⟩ := dget_at r2 (dx.mono s2.le) dy q1 q2
      cases q3 : valD kvs kk with
      | none => rw [q3] at p2; exact p2.elim
      | some z =>
        rw [q3] at p2
        obtain ⟨v, h1, h2⟩ := (hv.val kk).2 z q3
        rw [h1] at g
        exact ⟨a, v, rfl, g, p2.here r2 h2⟩
theorem sim_din {neg : Bool} {w : Wd} {H : Hp} {st : Store} {x y : V} {d e : D} {Q : VK} {K : PySem.W.Frag} (r : Rel K T w H st) (dy : Dat w y e) (dx : Dat w x d) (p : Post K T E Dat w H (oDin neg e d st) Q) : ∃ a ov, x = .ref a ∧ DGet H a y ov ∧ Q (.bl (if neg then !ov.isSome else ov.isSome)) H := by
  unfold oDin at p
  cases q1 : dicL d st with
  | none => rw [q1] at p; exact p.elim
  | some jk =>
    obtain ⟨j, kvs⟩ := jk
    cases q2 : keyD e with
    | none => rw [q1, q2] at p; exact p.elim
    | some kk =>
      rw [q1, q2] at p
      dsimp only at p
      obtain ⟨a, us, rfl, g, hv, _⟩ := dget_at r dx dy q1 q2
      refine ⟨a, _, rfl, g, ?_⟩
      have e2 : (valV us kk).isSome = (valD kvs kk).isSome := by
        cases q3 : valD kvs kk with
        | none => rw [(hv.val kk).1 q3] <;> rfl
        | some z =>
          obtain ⟨v, h1, _⟩ := (hv.val kk).2 z q3
          rw [h1] <;> rfl
      rw [e2]
      exact p.here r (.bl _)
theorem sim_dinE : Sim X.K T E Dat (tDIn (tOf X.K T E Dat fk) (tOf X.K T E Dat fd)) (fOp (oDin false) fk fd) := fun w σ H env st Q he r p =>
  ⟨w, env, st, he, r, p.bind fun w1 y H1 e st1 s1 r1 dy p1 => ⟨w1, env, st1, he.mono s1.le, r1, p1.bind fun w2 x H2 d st2 s2 r2 dx p2 => sim_din r2 (dy.mono s2.le) dx p2⟩⟩
theorem sim_dninE : Sim X.K T E Dat (tDNotIn (tOf X.K T E Dat fk) (tOf X.K T E Dat fd)) (fOp (oDin true) fk fd) := fun w σ H env st Q he r p =>
  ⟨w, env, st, he, r, p.bind fun w1 y H1 e st1 s1 r1 dy p1 => ⟨w1, env, st1, he.mono s1.le, r1, p1.bind fun w2 x H2 d st2 s2 r2 dx p2 => sim_din r2 (dy.mono s2.le) dx p2⟩⟩
theorem x_din (hr : Room k X.A) (hi : PEf X T E i fk) (ho : PEf X T E o fd) (hm : behindInMarks .In o = false := by rfl) : PEf X T E (.Compare i [.In] [o] pos) (fOp (oDin false) fk fd) := pe_to (pe_cmp (pc_din (hu1 hr) hi ho) hm) sim_dinE
theorem x_tdin (hr : Room k X.A) (hi : PEf X T E i fk) (ho : PEf X T E o fd) (hm : behindInMarks .In o = false := by rfl) : PTf X T E (.Compare i [.In] [o] pos) (fTest (fOp (oDin false) fk fd)) := pt_to (pt_cmp (pc_din (hu1 hr) hi ho) hm) (sim_tB sim_dinE)
theorem x_dnin (hr : Room k X.A) (hi : PEf X T E i fk) (ho : PEf X T E o fd) (hm : behindInMarks .NotIn o = false := by rfl) : PEf X T E (.Compare i [.NotIn] [o] pos) (fOp (oDin true) fk fd) := pe_to (pe_cmp (pc_dnotin (hu1 hr) hi ho) hm) sim_dninE
theorem x_tdnin (hr : Room k X.A) (hi : PEf X T E i fk) (ho : PEf X T E o fd) (hm : behindInMarks .NotIn o = false := by rfl) : PTf X T E (.Compare i [.NotIn] [o] pos) (fTest (fOp (oDin true) fk fd)) := pt_to (pt_cmp (pc_dnotin (hu1 hr) hi ho) hm) (sim_tB sim_dninE)
theorem isDic_at {K : PySem.W.Frag} {w : Wd} {H : Hp} {st : Store} {x : V} {d : D} (r : Rel K T w H st) (dx : Dat w x d) (h : isDic d st = true) : ∃ a, x = .ref a ∧ IsD H a := by
  unfold isDic at h
  cases q : dicL d st with
  | none => rw [q] at h; cases h
  | some jk =>
    obtain ⟨j, kvs⟩ := jk
    obtain ⟨a, us, rfl, _, _, hH, _⟩ := dic_at r dx q
    exact ⟨a, rfl, .inl ⟨us, .inl hH⟩⟩
theorem x_dget2 {apos cpos : Pos} (hr : Room k X.A) (ho : PEf X T E o fd) (he : PEf X T E e fk) (hf : PEf X T E f fx) (m : M2 X o "get" apos e f cpos := by exact ⟨rfl, rfl, rfl, rfl⟩) : PEf X T E (.Call (.Attribute o "get" apos) [e, f] [] cpos) (fDget2 fd fk fx) := pe_to (pe_dget2 (hu1 hr) ho he hf m) fun w σ H env st Q he r p => by
  refine ⟨w, env, st, he, r, p.bind fun w1 x H1 d st1 s1 r1 dx p1 => ?_⟩
  by_cases c : isDic d st1 = true
  · rw [if_pos c] at p1
    obtain ⟨a, rfl, ia⟩ := isDic_at r1 dx c
    refine ⟨a, rfl, ia, w1, env, st1, he.mono s1.le, r1, p1.bind fun w2 y H2 e st2 s2 r2 dy p2 => ?_⟩
    refine ⟨w2, env, st2, (he.mono s1.le).mono s2.le, r2, p2.bind fun w3 z H3 f st3 s3 r3 dz p3 => ?_⟩
    cases q1 : dicL d st3 with
    | none => rw [q1] at p3; exact p3.elim
    | some jk =>
      obtain ⟨j, kvs⟩ := jk
      cases q2 : keyD e with
      | none => rw [q1, q2] at p3; exact p3.elim
      | some kk =>
        rw [q1, q2] at p3
        dsimp only at p3
        obtain ⟨a', us, ea, g, hv, _⟩ := dget_at r3 ((dx.mono s2.le).mono s3.le) (dy.mono s3.le) q1 q2
        cases ea
        refine ⟨_, g, ?_⟩
        cases q3 : valD kvs kk with
        | none =>
          rw [q3] at p3
          rw [(hv.val kk).1 q3]
          exact p3.here r3 dz
        | some v =>
          rw [q3] at p3
          obtain ⟨u, h1, h2⟩ := (hv.val kk).2 v q3
          rw [h1]
          exact p3.here r3 h2
  · rw [if_neg c] at p1
    exact p1.elim
theorem x_dpop2 {apos cpos : Pos} (ho : PEf X T E o fd) (he : PEf X T E e fk) (hf : PEf X T E f fx) (m : M2 X o "pop" apos e f cpos := by exact ⟨rfl, rfl, rfl, rfl⟩) : PEf X T E (.Call (.Attribute o "pop" apos) [e, f] [] cpos) (fDpop2 fd fk fx) := pe_to (pe_dpop2 ho he hf m) fun w σ H env st Q he r p => by
  refine ⟨w, env, st, he, r, p.bind fun w1 x H1 d st1 s1 r1 dx p1 => ?_⟩
  by_cases c : isDic d st1 = true
  · rw [if_pos c] at p1
    obtain ⟨a, rfl, ia⟩ := isDic_at r1 dx c
    refine ⟨a, rfl, ia, w1, env, st1, he.mono s1.le, r1, p1.bind fun w2 y H2 e st2 s2 r2 dy p2 => ?_⟩
    refine ⟨w2, env, st2, (he.mono s1.le).mono s2.le, r2, p2.bind fun w3 z H3 f st3 s3 r3 dz p3 => ?_⟩
    cases q1 : dicL d st3 with
    | none => rw [q1] at p3; exact p3.elim
    | some jk =>
      obtain ⟨j, kvs⟩ := jk
      cases q2 : keyD e with
      | none => rw [q1, q2] at p3; exact p3.elim
      | some kk =>
        rw [q1, q2] at p3
        dsimp only at p3
        obtain ⟨a', us, ea, g, hv, hH, ha, hs, ey⟩ := dget_at r3 ((dx.mono s2.le).mono s3.le) (dy.mono s3.le) q1 q2
        cases ea
        refine ⟨us, kk, hH, ey, fun v hvv => ?_, fun hn => ?_⟩
        · cases q3 : valD kvs kk with
          | none =>
            rw [(hv.val kk).1 q3] at hvv
            cases hvv
          | some v' =>
            rw [q3] at p3
            obtain ⟨u, h1, h2⟩ := (hv.val kk).2 v' q3
            rw [h1] at hvv
            cases hvv
            obtain ⟨s4, r4⟩ := r3.putDic ha hs (hv.drop kk)
            exact p3 w3 _ _ s4 r4 h2
        · cases q3 : valD kvs kk with
          | none =>
            rw [q3] at p3
            exact p3.here r3 dz
          | some v' =>
            obtain ⟨u, h1, h2⟩ := (hv.val kk).2 v' q3
            rw [h1] at hn
            cases hn
  · rw [if_neg c] at p1
    exact p1.elim
theorem s_dput (hr : Room k X.A) (ho : PEf X T E o fd) (hi : PEf X T E i fk) (hv : PEf X T E value fv) (hs : swapsWith value (some (.Subscript o i pos')) pos.line X.env = pure false := by rfl) : PSf X T (W0 E) (.Assign [.Subscript o i pos'] value pos) (fDput fv fd fk) := ps_to (ps_dput (hu1 hr) ho hi hv hs) fun w σ H env st Dn he r p => by
  refine ⟨w, env, st, he, r, PostS.go (fun _ _ _ h => h) he p fun w1 v H1 dv st1 s1 r1 dvv p1 => ?_⟩
  refine ⟨w1, env, st1, he.mono s1.le, r1, PostS.go (fun _ _ _ h => h) (he.mono s1.le) p1 fun w2 x H2 d st2 s2 r2 dx p2 => ?_⟩
  refine ⟨w2, env, st2, (he.mono s1.le).mono s2.le, r2, PostS.go (fun _ _ _ h => h) ((he.mono s1.le).mono s2.le) p2 fun w3 y H3 e st3 s3 r3 dy p3 => ?_⟩
  cases q1 : dicL d st3 with
  | none => rw [q1] at p3; exact p3.elim
  | some jk =>
    obtain ⟨j, kvs⟩ := jk
    cases q2 : keyD e with
    | none => rw [q1, q2] at p3; exact p3.elim
    | some kk =>
      rw [q1, q2] at p3
      have p4 : PostS X.K T (W0 E) w3 H3 (if kvs.length < lim then .nx env (st3.set j (.dic (setD kvs kk dv))) else .stuck) Dn := p3
      by_cases c : kvs.length < lim
      · rw [if_pos c] at p4
        obtain ⟨a, us, rfl, g, hkv, hH, ha, hs, ey⟩ := dget_at r3 (dx.mono s3.le) dy q1 q2
        obtain ⟨s4, r4⟩ := r3.putDic ha hs (hkv.put ((dvv.mono s2.le).mono s3.le) kk)
        exact ⟨a, _, rfl, .inl ⟨us, kk, hH, ey, by rw [hkv.length, lim_eq]; exact c, rfl⟩, p4 w3 σ _ s4 (((he.mono s1.le).mono s2.le).mono s3.le) r4⟩
      · rw [if_neg c] at p4
        exact p4.elim
/-! ### sorted(d), len(d), list(d), dict(d) -/
def insI (a : Int) : List Int → List Int
  | [] => [a]
  | b :: l => if a ≤ b then a :: b :: l else b :: insI a l
def sortI : List Int → List Int
  | [] => []
  | a :: l => insI a (sortI l)
theorem insI_perm (a : Int) : ∀ l : List Int, (insI a l).Perm (a :: l)
  | [] => List.Perm.refl _
  | b :: l => by
    unfold insI
    by_cases c : a ≤ b
    · rw [if_pos c]
    · rw [if_neg c]
      exact ((insI_perm a l).cons b).trans (List.Perm.swap a b l)
theorem sortI_perm : ∀ l : List Int, (sortI l).Perm l
  | [] => List.Perm.refl _
  | a :: l => (insI_perm a _).trans ((sortI_perm l).cons a)
theorem insI_sorted (a : Int) : ∀ {l : List Int}, l.Pairwise (· ≤ ·) → (insI a l).Pairwise (· ≤ ·)
  | [], _ => List.pairwise_singleton _ _
  | b :: l, h => by
    unfold insI
    by_cases c : a ≤ b
    · rw [if_pos c]
      refine List.pairwise_cons.mpr ⟨fun x hx => ?_, h⟩
      rcases List.mem_cons.mp hx with hx | hx
      · rw [hx]; exact c
      · exact Int.le_trans c ((List.pairwise_cons.mp h).1 x hx)
    · rw [if_neg c]
      refine List.pairwise_cons.mpr ⟨fun x hx => ?_, insI_sorted a (List.pairwise_cons.mp h).2⟩
      rcases List.mem_cons.mp ((insI_perm a l).mem_iff.mp hx) with hx | hx
      · rw [hx]; omega
      · exact (List.pairwise_cons.mp h).1 x hx
theorem sortI_sorted : ∀ l : List Int, (sortI l).Pairwise (· ≤ ·)
  | [] => List.Pairwise.nil
  | a :: l => insI_sorted a (sortI_sorted l)
theorem sortI_unique {l l' : List Int} (h1 : l'.Perm l) (h2 : l'.Pairwise (· ≤ ·)) : l' = sortI l :=
  (h1.trans (sortI_perm l).symm).eq_of_pairwise (fun a b _ _ h h' => Int.le_antisymm h h') h2 (sortI_sorted l)
def keysI : List (Key × D) → Option (List Int)
  | [] => some []
  | (.inl i, _) :: r => (keysI r).map (i :: ·)
  | (.inr _, _) :: _ => none
theorem keysI_at : ∀ {kvs : List (Key × D)} {ks : List Int}, keysI kvs = some ks → kvs.map (·.1) = ks.map Sum.inl
  | [], ks, h => by cases h; rfl
  | (.inl i, d) :: r, ks, h => by
    have h' : (keysI r).map (i :: ·) = some ks := h
    cases q : keysI r with
    | none => rw [q] at h'; cases h'
    | some l =>
      rw [q] at h'
      cases h'
      rw [List.map_cons, List.map_cons, keysI_at q]
  | (.inr _, _) :: _, ks, h => by cases h
def oSortD : OA := fun ds st => match ds with
  | [d] => (match dicL d st with
    | some (_, kvs) => (match keysI kvs with
      | some ks => if ks.length < 64 then .ok (.lst ((sortI ks).map D.int)) st else .stuck
      | none => .stuck)
    | none => .stuck)
  | _ => .stuck
theorem sim_sortD {K : PySem.W.Frag} : SimRA K T (fun xs H Q => ∃ (a : Addr) (kvs : List (Key × V)) (ks : List Int), xs = [.ref a] ∧ Rd H a (.dK kvs) ∧ kvs.map (·.1) = ks.map Sum.inl ∧ ks.length < 64 ∧
    ∀ (ys : List Int) (p : Addr), ys.Perm ks → ys.Pairwise (· ≤ ·) → H p = none → Q (.ref p) (upd H p (.lst (ys.map V.int)))) oSortD := fun E w H st vs ds Q r dv p => by
  cases dv with
  | nil => exact p.elim
  | cons dx rest =>
    rename_i x d _ _
    cases rest with
    | cons _ _ => exact p.elim
    | nil =>
      have p1 : Post K T E Dat w H (match dicL d st with
        | some (_, kvs) => (match keysI kvs with
          | some ks => if ks.length < 64 then .ok (.lst ((sortI ks).map D.int)) st else .stuck
          | none => .stuck)
        | none => .stuck) Q := p
      cases q1 : dicL d st with
      | none => rw [q1] at p1; exact p1.elim
      | some jk =>
        obtain ⟨j, kvs⟩ := jk
        rw [q1] at p1
        dsimp only at p1
        cases q2 : keysI kvs with
        | none => rw [q2] at p1; exact p1.elim
        | some ks =>
          rw [q2] at p1
          have p2 : Post K T E Dat w H (if ks.length < 64 then .ok (.lst ((sortI ks).map D.int)) st else .stuck) Q := p1
          by_cases c : ks.length < 64
          · rw [if_pos c] at p2
            obtain ⟨a, us, rfl, _, _, hH, hv⟩ := dic_at r dx q1
            refine ⟨a, us, ks, rfl, .inl hH, hv.1.trans (keysI_at q2), c, fun ys l h1 h2 hl => ?_⟩
            rw [sortI_unique h1 h2]
            exact p2.newL r (Dats.of_ints _) l hl
          · rw [if_neg c] at p2
            exact p2.elim
end
end Fk
/-! FkR: sorted sets. -/
namespace Fk
open PySem PySem.Spec PyProof.Rows L2
/-! ### {e for x in it if t}, ints -/
/-- what goes in: an int into the set at D -/
def goesIn (w : World) (D : Addr) (y : V) (H : Hp) (Nx : Hp → Prop) : Prop := ∃ (k : Int) (S : Int → Bool) (n : Nat), y = .int k ∧ H D = some (SetO w D S n) ∧ n + 1 < scanBound ∧ Nx (upd H D (SetO w D (fun j => S j || decide (j = k)) (if S k = true then n else n + 1)))
def tSetI (w : World) (wi : TI) (g : TG) (tt : TT) (te : TE) (vs : List Nat) : TE := fun σ H Q => wi σ H fun J H1 => ∀ D, H1 D = none → ∃ M : Nat → Nat → Hp → Prop, (∃ m, M 0 m (upd H1 D (SetO w D (fun _ => false) 0))) ∧ ∀ i m H, M i m H →
  (J.stop i H ∧ Q (.ref D) H) ∨ (J.go i H ∧ ∃ Nx : Hp → Prop, (∀ H', Nx H' → ∃ m', m' < m ∧ M (i + 1) m' H') ∧ ∀ x H', J.yld i H x H' → g x (wipe σ vs) H' fun σ2 H2 => wipe σ2 vs = wipe σ vs ∧ tt σ2 H2 fun b H3 => if b = true then te σ2 H3 fun y H4 => goesIn w D y H4 Nx else Nx H3)
section
variable {X : Cx} {elt tg iter : Expr} {ifs : List Expr} {scope : Scope} {own : List (Str × Nat)} {pos : Pos} {wi : TI} {g : TG} {tt : TT} {te : TE}
theorem goesIn_ok {Y : Cx} {ps : List (Addr × Obj)} {sg : L2.St} {H : Hp} {s : Shared} {D : Addr} {y : V} {z : Value} {E : Value → Shared → Prop} {Q : Value → Shared → Prop} {Nx : Hp → Prop} (J : Inv Y ps sg H s) (hE : Y.xe = E) (ry : RelV y z) (h : goesIn Y.w D y H Nx) (k : ∀ H' s', Inv Y ps sg H' s' → Nx H' → Q .none s') :
    wpAny (model Y.prog Y.w) Y.A (call (.builtin "set.add") [.ref D, z]) Q E s := by
  subst hE
  obtain ⟨i, S, n, rfl, hD, room, nx⟩ := h
  refine wpAny_mono (mt_sadd (X := Y) ps s sg H (.ref D) [.int i] (.ref D) [z] (fun v H' => v = .non ∧ Nx H') J rfl (.cons ry .nil) ⟨D, i, S, n, rfl, rfl, hD, room, rfl, nx⟩) (fun v s' ⟨u, H', J', ru, eu, nx'⟩ => ?_) fun _ _ e => e
  subst eu
  cases (show v = Value.none from ru)
  exact k H' s' J' nx'
theorem pe_setI (hc : X.calm = true) (hN : X.N.Nodup) (hi : PI X tg iter wi) (ok : BlkOk X.N X.env.scope scope own)
    (hg : ∀ (s : Shared) (H : Hp) (C : Addr) (cl : List (Str × Addr)) (fp : List Addr), PG (X.blk s H scope (compEnvC scope cl C X.env) fp) tg g) (ht : ∀ (s : Shared) (H : Hp) (C : Addr) (cl : List (Str × Addr)) (fp : List Addr), PTs (X.blk s H scope (compEnvC scope cl C X.env) fp) ifs tt)
    (he : ∀ (s : Shared) (H : Hp) (C : Addr) (cl : List (Str × Addr)) (fp : List Addr), PE (X.blk s H scope (compEnvC scope cl C X.env) fp) elt te) (hs : ∀ x, foldedSetIterable iter X.env x = pure x := by intro _; rfl) : PE X (.SetComp elt [⟨tg, iter, ifs, 0⟩] scope pos) (tSetI X.w wi g tt te (own.map (·.2))) := by
  constructor
  intro ps s sg H Q J0 h
  rw [PpSet.eval_SetComp]
  have clo := closure_ok (scope := scope) (env := X.env) fun y hy e => I_has J0 ok y hy e
  refine wpAny_comprehension_free (use := none) rfl hs clo ok.kind (fun y hy e => by rw [ok.uniq y hy, e]) (thn (hi.run ps s sg H _ J0 h) fun _ _ hx => thn hx fun _ s2 ⟨it, fp, tn, J, H2, e0, J2, T, st2, f2, q⟩ => ?_)
  subst e0
  refine PpSet.newSet_ok (newEnv_comp ?_)
  obtain ⟨D, hD⟩ : ∃ D, D = s2.heap.objs.size := ⟨_, rfl⟩
  have free2 : H2 D = none := J2.hok.fresh (Nat.le_of_eq hD.symm)
  obtain ⟨M, ⟨m0, w0⟩, turn⟩ := q D free2
  obtain ⟨o, ho⟩ : ∃ o : Obj, o = { cls := .type "set", dict := none, data := .set #[] 0 (.fresh 0 0 (!X.w.params.followText "set-order")) } := ⟨_, rfl⟩
  obtain ⟨s3, e3⟩ : ∃ s3 : Shared, s3 = { s2 with heap := s2.heap.push o } := ⟨_, rfl⟩
  obtain ⟨H3, eH⟩ : ∃ H3 : Hp, H3 = upd H2 D (SetO X.w D (fun _ => false) 0) := ⟨_, rfl⟩
  have grow : ∀ b u, s2.heap.get? b = some u → s3.heap.get? b = some u := fun b u z => by rw [e3]; exact Heap.get?_push_of_some _ z
  have J3 : Inv X ps sg H3 s3 := by
    rw [e3, eH]
    refine J2.laid (t' := s2.toks) (fun b u z => Heap.get?_push_of_some _ z) (Nat.le_of_eq hD.symm) ?_
    rw [hD, ho]
    exact setO_new (setR_fresh X.w)
  have f3 : ∀ b ∈ fp, FpOk X ps H3 b ∧ b < s3.heap.objs.size := fun b hb => by
    obtain ⟨u, z, _⟩ := T.obj _ _ st2 b hb
    have lt := Heap.lt_size z
    refine ⟨⟨?_, (f2 b hb).2⟩, by rw [e3]; exact Nat.lt_of_lt_of_le lt (by rw [Heap.size_push]; exact Nat.le_succ _)⟩
    rw [eH, upd_ne (by rw [hD]; exact Nat.ne_of_lt lt)]
    exact (f2 b hb).1
  have none3 : ∀ b ∈ fp, H3 b = none := fun b hb => (f3 b hb).1.1
  have J4 := block_start J3 ok hN f3
  obtain ⟨ce, ece⟩ : ∃ ce, ce = compEnvC scope (cellsFrom (s3.heap.objs.size + 1) scope.names (cloFrom X.env.cells scope.names [])) s3.heap.objs.size X.env := ⟨_, rfl⟩
  have loc : ce.locals = s3.heap.objs.size := by rw [ece]; rfl
  have pg := hg s3 H3 s3.heap.objs.size (cellsFrom (s3.heap.objs.size + 1) scope.names (cloFrom X.env.cells scope.names [])) fp
  have pt := ht s3 H3 s3.heap.objs.size (cellsFrom (s3.heap.objs.size + 1) scope.names (cloFrom X.env.cells scope.names [])) fp
  have pe := he s3 H3 s3.heap.objs.size (cellsFrom (s3.heap.objs.size + 1) scope.names (cloFrom X.env.cells scope.names [])) fp
  rw [← ece] at J4 pg pt pe
  rw [← eH] at w0
  rw [← ho, ← e3, ← hD]
  obtain ⟨s4, e4⟩ : ∃ s4 : Shared, s4 = { s3 with heap := pushCells (s3.heap.push { cls := .type "dict", data := .dict #[] }) scope.names } := ⟨_, rfl⟩
  have st4 : tn 0 s4.heap := T.keep _ _ _ st2 fun b _ u z => by rw [e4]; exact pushCells_keeps _ _ _ _ (Heap.get?_push_of_some _ (grow b u z))
  rw [← e4] at J4
  let Y : Cx := X.blk s3 H3 scope ce fp
  have stat : ∀ {sg' : L2.St} {H' : Hp} {s' : Shared}, Inv Y [] sg' H' s' → (∀ b ∈ fp, H' b = none) → ∀ b ∈ fp, FpOk Y [] H' b := fun J' hn b hb =>
    ⟨hn b hb, (J'.ok.exf b hb).1, J'.ok.exfs b hb, .inl hb, fun x c z => (J'.ok.exf b hb).2 x c z, fun p hp => by cases hp⟩
  let G : Nat → Shared → Prop := fun n s' => ∃ i H', Inv Y [] (wipe sg (own.map (·.2))) H' s' ∧ tn i s'.heap ∧ (∀ b ∈ fp, H' b = none) ∧ M i n H'
  have loop : codeAny (model X.prog X.w) X.A (.compLoop (.SetComp elt [⟨tg, iter, ifs, 0⟩] scope pos) 0 (.ref it) (.ref D) ce) (compPost (model X.prog X.w) X.A X.xe none (EP X ps sg Q) (.ref D) s3.heap.objs.size) s4 := by
    refine PpSet.compLoopS_any G (fun n s5 ⟨i, H5, J5, st5, n5, w5⟩ => ?_) m0 ⟨0, H3, J4, st4, none3, w0⟩
    rcases turn i n H5 w5 with ⟨stop, fin⟩ | ⟨go, Nx, hNx, step⟩
    · refine thnF (T.done Y rfl rfl rfl hc i [] s5 _ H5 (fun _ _ => False) J5 (stat J5 n5) st5 stop) fun r s6 ⟨hr, J6⟩ => ?_
      subst hr
      have J7 : Inv X ps sg H5 s6 := J3.call' (ch := fp) J6.os J6.base J6.hok J6.bare fun b hb => ⟨(f3 b hb).1.2.2.2.1, (f3 b hb).1.2.1, (f3 b hb).1.2.2.2.2.1, (f3 b hb).1.2.2.2.2.2⟩
      have gone : H5 s3.heap.objs.size = none := by rw [← loc]; exact J6.free
      obtain ⟨m, ns, _⟩ := J6.loc
      have ns' : s6.heap.Ns s3.heap.objs.size m := by rw [← loc]; exact ns
      obtain ⟨a0, a1, a2, a3, a4, a5⟩ := J3.fpOk (b := s3.heap.objs.size) (Nat.le_refl _) gone
      exact ⟨m, ns', fun h' same => ⟨.ref D, H5, J7.turned (t' := s6.toks) (fun b u hb z => (same.2 b hb).trans z) a0 a1 a3 a4 a5, rfl, fin⟩⟩
    · refine thnF (T.item Y rfl rfl rfl hc i [] s5 _ H5 (fun _ _ => False) J5 (stat J5 n5) st5 go) fun r s6 ⟨u, hr, h6⟩ => ?_
      subst hr
      refine thnF h6 fun _ s7 ⟨x, H7, J7, rx, y7, st7, n7⟩ => ?_
      refine thnF (pg.run _ s7 _ H7 x u _ (J7.pinned (stat J7 n7) (T.obj _ _ st7)) rx (step x H7 y7)) fun _ s8 ⟨sg8, H8, J8, hw8, q8⟩ => ?_
      refine thnF (pt.run _ s8 sg8 H8 _ J8 q8) fun b s9 ⟨H9, J9, q9⟩ => ?_
      have next : ∀ (s' : Shared) (H' : Hp), Inv Y ([] ++ pinsAt fp s7.heap) sg8 H' s' → Nx H' → ∃ m, m < n ∧ G m s' := fun s' H' J' nx => by
        obtain ⟨m', lt, w'⟩ := hNx H' nx
        have pin : ∀ b ∈ fp, ∀ u, s7.heap.get? b = some u → s'.heap.get? b = some u ∧ H' b = none := fun b hb u z => by
          have p := J'.pin (b, u) (List.mem_append_right _ (List.mem_append_right _ (mem_pinsAt hb z)))
          exact ⟨p.1, p.2.1⟩
        refine ⟨m', lt, i + 1, H', (J'.unpinned (pins := [])).weak (by rw [← hw8, wipe_length]) (fun j v z => ?_), T.keep _ _ _ st7 fun b hb u z => (pin b hb u z).1, fun b hb => ?_, w'⟩
        · rw [← hw8] at z
          exact (wipe_some z).1
        · obtain ⟨u, z, _⟩ := T.obj _ _ st7 b hb
          exact (pin b hb u z).2
      cases b with
      | false =>
        rw [if_neg Bool.false_ne_true] at q9 ⊢
        exact next _ _ J9 q9
      | true =>
        rw [if_pos rfl] at q9 ⊢
        refine thnF (pe.run _ s9 sg8 H9 _ J9 q9) fun z s10 ⟨yv, H10, J10, r10, gi⟩ => ?_
        exact wpAny_mono (goesIn_ok (Y := Y) (E := Y.xe) (Q := fun _ s' => ∃ m, m < n ∧ G m s') J10 rfl r10 gi fun H' s' J' nx => next s' H' J' nx) (fun _ _ e => e) fun _ _ e => e.elim
  have start := PpSet.codeAny_compStart_set loop (T.self X.A 0 _ _ _ st4 loop)
  rw [e4, ece] at start
  exact start
where
  I_has {X : Cx} {ps : List (Addr × Obj)} {sg : L2.St} {H : Hp} {s : Shared} {scope : Scope} {own : List (Str × Nat)} (J : Inv X ps sg H s) (ok : BlkOk X.N X.env.scope scope own) (y : Str × NameKind) (hy : y ∈ scope.names) (e : y.2 = .free) : ∃ c, X.env.cells.lookup y.1 = some c := J.ok.has _ (ok.free y hy e)
end
end Fk
/-! FkS: sorted sets, by plain functions. -/
namespace Fk
open PySem PySem.Spec PyProof.Rows L2
theorem set_not_code {w : World} {a : Addr} {S : Int → Bool} {n : Nat} (c : Addr) (q : Str) : SetO w a S n ≠ LamX.CodeO c q := fun h => by
  unfold SetO LamX.CodeO at h
  have hp := HO.ext.inj h
  let ob : Obj := { cls := .none, data := .fields #[.none, .str q 0] }
  let hh : Heap := ⟨Array.replicate (c + 1) ob, {}⟩
  have at_ : ∀ b o, hh.get? b = some o → o = ob := fun b o e => by
    obtain ⟨e1, _⟩ := Heap.get?_some_iff.mp e
    have e2 : (Array.replicate (c + 1) ob)[b]? = some o := e1
    rw [Array.getElem?_replicate] at e2
    split at e2
    · exact (Option.some.inj e2).symm
    · cases e2
  have yes : hh.get? c = some ob := by
    refine Heap.get?_some_iff.mpr ⟨?_, rfl⟩
    show (Array.replicate (c + 1) ob)[c]? = some ob
    rw [Array.getElem?_replicate, if_pos (Nat.lt_succ_self c)]
  have r : ∃ (oc : Obj) (vs : Array Value) (t : Tok), hh.get? c = some oc ∧ oc.data = .fields vs ∧ vs[1]? = some (.str q t) := ⟨ob, _, 0, yes, rfl, rfl⟩
  have r2 : SetR w hh a S n := by
    have := congrFun hp hh
    exact this.mpr r
  obtain ⟨o, es, ep, t, e1, e2, e3, _⟩ := r2
  have := at_ a o e1
  subst this
  cases e3
/-! ### ints, sorted, each once -/
def insU (a : Int) : List Int → List Int
  | [] => [a]
  | b :: l => if a < b then a :: b :: l else if a = b then b :: l else b :: insU a l
def sortU : List Int → List Int
  | [] => []
  | a :: l => insU a (sortU l)
theorem insU_mem {a x : Int} : ∀ {l : List Int}, x ∈ insU a l ↔ x = a ∨ x ∈ l
  | [] => by simp [insU]
  | b :: l => by
    unfold insU
    by_cases c : a < b
    · rw [if_pos c]
      simp
    · rw [if_neg c]
      by_cases d : a = b
      · rw [if_pos d]
        subst d
        simp
      · rw [if_neg d]
        rw [List.mem_cons, List.mem_cons, insU_mem]
        constructor <;> (rintro (h | h | h) <;> simp [h])
theorem sortU_mem {x : Int} : ∀ {l : List Int}, x ∈ sortU l ↔ x ∈ l
  | [] => Iff.rfl
  | a :: l => by
    show x ∈ insU a (sortU l) ↔ _
    rw [insU_mem, sortU_mem, List.mem_cons]
theorem insU_sorted {a : Int} : ∀ {l : List Int}, l.Pairwise (· < ·) → (insU a l).Pairwise (· < ·)
  | [], _ => List.pairwise_singleton _ _
  | b :: l, h => by
    unfold insU
    by_cases c : a < b
    · rw [if_pos c]
      refine List.pairwise_cons.mpr ⟨fun x hx => ?_, h⟩
      rcases List.mem_cons.mp hx with hx | hx
      · rw [hx]; exact c
      · exact Int.lt_trans c ((List.pairwise_cons.mp h).1 x hx)
    · rw [if_neg c]
      by_cases d : a = b
      · rw [if_pos d]
        exact h
      · rw [if_neg d]
        refine List.pairwise_cons.mpr ⟨fun x hx => ?_, insU_sorted (List.pairwise_cons.mp h).2⟩
        rcases insU_mem.mp hx with hx | hx
        · rw [hx]; omega
        · exact (List.pairwise_cons.mp h).1 x hx
theorem sortU_sorted : ∀ l : List Int, (sortU l).Pairwise (· < ·)
  | [] => List.Pairwise.nil
  | a :: l => insU_sorted (sortU_sorted l)
theorem lt_unique : ∀ {a b : List Int}, a.Pairwise (· < ·) → b.Pairwise (· < ·) → (∀ x, x ∈ a ↔ x ∈ b) → a = b
  | [], [], _, _, _ => rfl
  | [], y :: b, _, _, h => absurd ((h y).mpr List.mem_cons_self) (by simp)
  | x :: a, [], _, _, h => absurd ((h x).mp List.mem_cons_self) (by simp)
  | x :: a, y :: b, ha, hb, h => by
    have ha' := List.pairwise_cons.mp ha
    have hb' := List.pairwise_cons.mp hb
    have e : x = y := by
      rcases List.mem_cons.mp ((h x).mp List.mem_cons_self) with e | e
      · exact e
      · rcases List.mem_cons.mp ((h y).mpr List.mem_cons_self) with e' | e'
        · exact e'.symm
        · have h1 := hb'.1 x e
          have h2 := ha'.1 y e'
          omega
    subst e
    rw [lt_unique ha'.2 hb'.2 fun z => ?_]
    constructor
    · intro hz
      rcases List.mem_cons.mp ((h z).mp (List.mem_cons_of_mem _ hz)) with q | q
      · have := ha'.1 z hz
        omega
      · exact q
    · intro hz
      rcases List.mem_cons.mp ((h z).mpr (List.mem_cons_of_mem _ hz)) with q | q
      · have := hb'.1 z hz
        omega
      · exact q
/-! ### a set that grows, in no one's sight -/
structure AccS (K : PySem.W.Frag) (T : List (Addr × Str)) (W : World) (w1 : Wd) (H1 : Hp) (L : Addr) (w : Wd) (H : Hp) (st : Store) (ns : List Int) : Prop where
  stp : Stp w1 H1 w H
  rel : Rel K T w H st
  ex : ∃ (S : Int → Bool) (n : Nat), H L = some (SetO W L S n) ∧ (∀ k, S k = true ↔ k ∈ ns) ∧ n = (sortU ns).length
  nF : w.F L = none
  nA : L ∉ w.ads
section
variable {T : List (Addr × Str)} {E : XK} {K : PySem.W.Frag} {W : World} {w1 w w2 : Wd} {H1 H H2 : Hp} {L : Addr} {st st2 : Store} {ns : List Int}
theorem AccS.start (r : Rel K T w1 H1 st) (hL : H1 L = none) : AccS K T W w1 H1 L w1 (upd H1 L (SetO W L (fun _ => false) 0)) st [] := by
  have nA : L ∉ w1.ads := fun z => r.there z hL
  have hk : ∀ a u, H1 a = some u → upd H1 L (SetO W L (fun _ => false) 0) a = some u := fun a u h => by
    rw [upd_ne (fun z => by rw [z, hL] at h; cases h)]
    exact h
  refine ⟨⟨Le.refl _, fun p h n => absurd h n, fun a u h _ _ => hk a u h, fun a h => ?_, fun a h n => absurd n h⟩, ⟨fun a u h => hk a u (r.fr a u h), r.len, r.nd, fun k c p h1 h2 => (r.at_ k c p h1 h2).mono (Le.refl _) (fun hd => (r.at_ k c p h1 h2).noF hd) (hk p), tabs_ext r.tabs hk, r.scr, r.nt⟩, ⟨_, 0, upd_same, fun k => by simp, rfl⟩, r.freeF hL, nA⟩
  exact fun u q => h u (hk a u q)
theorem AccS.step (a : AccS K T W w1 H1 L w H st ns) (s : Stp w H w2 H2) (r : Rel K T w2 H2 st2) : AccS K T W w1 H1 L w2 H2 st2 ns where
  stp := a.stp.trans s
  rel := r
  ex := by
    obtain ⟨S, n, h, h2⟩ := a.ex
    exact ⟨S, n, s.keep L _ h a.nA (by intro _ z; unfold SetO at z; cases z), h2⟩
  nF := by
    by_cases q : w2.F L = none
    · exact q
    · rcases s.newF L q a.nF with z | z
      · obtain ⟨S, n, h, _⟩ := a.ex
        exact (z.no h (by intro _ z; unfold SetO at z; cases z)).elim
      · exact absurd z a.nA
  nA := fun z => by
    obtain ⟨S, n, h, _⟩ := a.ex
    exact (s.new L z a.nA).no h (by intro _ z; unfold SetO at z; cases z)
theorem AccS.push (a : AccS K T W w1 H1 L w H st ns) (h0 : H1 L = none) (hl : (sortU ns).length + 1 < scanBound) (k : Int) {Nx : Hp → Prop} (hN : ∀ H', AccS K T W w1 H1 L w H' st (ns ++ [k]) → Nx H') : goesIn W L (.int k) H Nx := by
  obtain ⟨S, n, h, hS, hn⟩ := a.ex
  refine ⟨k, S, n, rfl, h, by rw [hn]; exact hl, hN _ ⟨⟨a.stp.le, a.stp.new, fun b o hb nb t => ?_, fun b hb => ?_, a.stp.newF⟩, a.rel.away h (by intro _ z; unfold SetO at z; cases z) (fun c q => set_not_code c q) a.nF a.nA, ⟨_, _, upd_same, fun j => ?_, ?_⟩, a.nF, a.nA⟩⟩
  · rw [upd_ne (fun z => by rw [z, h0] at hb; cases hb)]
    exact a.stp.keep b o hb nb t
  · by_cases z : b = L
    · rw [z] at hb
      exact (hb.no upd_same (by intro _ z; unfold SetO at z; cases z)).elim
    · exact a.stp.free b fun u q => hb u (by rw [upd_ne z]; exact q)
  · simp [Bool.or_eq_true, hS j]
  · have key : sortU (ns ++ [k]) = insU k (sortU ns) := lt_unique (sortU_sorted _) (insU_sorted (sortU_sorted _)) fun x => by
      rw [sortU_mem, insU_mem, sortU_mem]
      simp [or_comm]
    rw [key]
    have len : ∀ l : List Int, l.Pairwise (· < ·) → (insU k l).length = if k ∈ l then l.length else l.length + 1 := fun l => by
      induction l with
      | nil => intro _; simp [insU]
      | cons b l ih =>
        intro hp
        have hp' := List.pairwise_cons.mp hp
        unfold insU
        by_cases c : k < b
        · rw [if_pos c, if_neg (fun z => by
            rcases List.mem_cons.mp z with z | z
            · omega
            · have := hp'.1 k z
              omega)]
          rfl
        · rw [if_neg c]
          by_cases d : k = b
          · rw [if_pos d, if_pos (by rw [d]; exact List.mem_cons_self)]
          · rw [if_neg d, List.length_cons, ih hp'.2]
            by_cases e : k ∈ l
            · rw [if_pos e, if_pos (List.mem_cons_of_mem _ e)]
              rfl
            · rw [if_neg e, if_neg (by simp [d, e])]
              rfl
    rw [len _ (sortU_sorted _), hn]
    by_cases c : S k = true
    · rw [if_pos c, if_pos (sortU_mem.mpr ((hS k).mp c))]
    · rw [if_neg c, if_neg (fun z => c ((hS k).mpr (sortU_mem.mp z)))]
end
/-- the ints of {e for x in it if t} -/
def scRun (g : Store → Bool) (lg : LG) (ft : LT) (fe : LE) (envw : DEnv) : List D → Store → Res (List Int)
  | [], st => if g st = true then .ok [] st else .stuck
  | d :: ds, st => if g st = true then (match lg d envw st with
    | .nx e1 s1 => (noex (ft e1 s1)).bind fun b s2 => if b = true then (noex (fe e1 s2)).bind fun y s3 => (match y with
      | .int k => (scRun g lg ft fe envw ds s3).bind fun ks s4 => .ok (k :: ks) s4
      | _ => .stuck) else scRun g lg ft fe envw ds s2
    | _ => .stuck) else .stuck
def fSortSc (fi : LI) (lg : LG) (ft : LT) (fe : LE) (vs : List Nat) : LE := fun env st => (fi env st).bind fun it st1 => (noex (scRun it.2 lg ft fe (wipeD env vs) it.1 st1)).bind fun ks st2 => if (sortU ks).length < 64 then .ok (.lst ((sortU ks).map D.int)) st2 else .stuck
section
variable {T : List (Addr × Str)} {E : XK} {K : PySem.W.Frag}
theorem sortU_len_le (a : Int) (l : List Int) : l.length ≤ (insU a l).length := by
  induction l with
  | nil => simp
  | cons b l ih =>
    unfold insU
    by_cases c : a < b
    · rw [if_pos c]; simp
    · rw [if_neg c]
      by_cases d : a = b
      · rw [if_pos d]; exact Nat.le_refl _
      · rw [if_neg d]; simp; exact ih
theorem sortU_app_le : ∀ (ms ks : List Int), (sortU ms).length ≤ (sortU (ms ++ ks)).length := fun ms ks => by
  have hn : (sortU ms).Nodup := (sortU_sorted ms).imp fun h => Int.ne_of_lt h
  refine (hn.length_le_of_subset (l₂ := sortU (ms ++ ks)) fun x hx => ?_)
  rw [sortU_mem] at hx ⊢
  exact List.mem_append_left _ hx
/-- the reading of sorted({..}) -/
abbrev tSortSc (W : World) (wi : TI) (g : TG) (tt : TT) (te : TE) (vs : List Nat) : TE := tCB (rSortedSet W) (tCons (tSetI W wi g tt te vs) tNil)
theorem sim_sortSc {W : World} {fi : LI} {lg : LG} {ft : LT} {fe : LE} {vs : List Nat} : Sim K T E Dat (tSortSc W (tOf K T E (WalkR K T) fi) (tOfG K T EN (some vs) lg) (tOf K T EN eqB ft) (tOf K T EN Dat fe) vs) (fSortSc fi lg ft fe vs) := fun w σ H env st Q he r p => by
  refine ⟨w, env, st, he, r, Post.bind (rel := WalkR K T) p fun w1 J H1 it st1 s1 r1 wk p1 => ?_⟩
  obtain ⟨items, g⟩ := it
  have wk : Walk K T J items g w1 := wk
  intro L hL
  have p' : Post K T E Dat w1 H1 ((noex (scRun g lg ft fe (wipeD env vs) items st1)).bind fun ks st2 => if (sortU ks).length < 64 then .ok (.lst ((sortU ks).map D.int)) st2 else .stuck) Q := p1
  cases q : scRun g lg ft fe (wipeD env vs) items st1 with
  | ex x st2 => rw [q] at p'; exact p'.elim
  | stuck => rw [q] at p'; exact p'.elim
  | ok ks st2 =>
    rw [q] at p'
    have p2 : Post K T E Dat w1 H1 (if (sortU ks).length < 64 then .ok (.lst ((sortU ks).map D.int)) st2 else .stuck) Q := p'
    by_cases hl : (sortU ks).length < 64
    · rw [if_pos hl] at p2
      have he1 := he.mono s1.le
      refine ⟨fun i m H' => m = items.length - i ∧ i ≤ items.length ∧ ∃ w' st' ms zs, AccS K T W w1 H1 L w' H' st' ms ∧ scRun g lg ft fe (wipeD env vs) (items.drop i) st' = .ok zs st2 ∧ ms ++ zs = ks,
        ⟨items.length, by simp, Nat.zero_le _, w1, st1, [], ks, AccS.start r1 hL, by simpa using q, rfl⟩, ?_⟩
      rintro i m H' ⟨rfl, hi, w', st', ms, zs, a, hr, hz⟩
      by_cases hlt : i < items.length
      · have hd : items[i]? = some items[i] := List.getElem?_eq_getElem hlt
        have hdrop : items.drop i = items[i] :: items.drop (i + 1) := by rw [List.drop_eq_getElem_cons hlt]
        rw [hdrop] at hr
        unfold scRun at hr
        by_cases hg : g st' = true
        · rw [if_pos hg] at hr
          refine .inr ⟨wk.go i _ w' H' st' a.stp.le a.rel hg hd, fun H'' => ∃ w' st' ms zs, AccS K T W w1 H1 L w' H'' st' ms ∧ scRun g lg ft fe (wipeD env vs) (items.drop (i + 1)) st' = .ok zs st2 ∧ ms ++ zs = ks, fun H'' hN => ⟨items.length - (i + 1), by omega, rfl, hlt, hN⟩, fun x H3 hy => ?_⟩
          obtain ⟨w3, s3, r3, dx⟩ := wk.yld i _ w' H' st' x H3 a.stp.le a.rel hg hd hy
          have a3 := a.step s3 r3
          have he3 : EnvR w3 (wipe σ vs) (wipeD env vs) := (he1.wipe vs).mono a3.stp.le
          refine ⟨w3, items[i], wipeD env vs, st', he3, r3, dx, ?_⟩
          cases q1 : lg items[i] (wipeD env vs) st' with
          | nx e4 st4 =>
            rw [q1] at hr
            dsimp only at hr
            refine fun w4 σ4 H4 s4 e4' r4 hw => ⟨(hw vs rfl).trans (wipe_idem σ vs), w4, e4, st4, e4', r4, ?_⟩
            have a4 := a3.step s4 r4
            obtain ⟨b, st5, hb, hr⟩ := Res.bind_ok hr
            cases q2 : ft e4 st4 with
            | ex _ _ => rw [q2] at hb; cases hb
            | stuck => rw [q2] at hb; cases hb
            | ok b' st5' =>
              rw [q2] at hb
              cases hb
              intro w5 c H5 s5 r5 hc
              cases (show c = b from hc)
              have a5 := a4.step s5 r5
              cases b with
              | false =>
                rw [if_neg Bool.false_ne_true] at hr ⊢
                exact ⟨w5, st5, ms, zs, a5, hr, hz⟩
              | true =>
                rw [if_pos rfl] at hr ⊢
                refine ⟨w5, e4, st5, e4'.mono s5.le, r5, ?_⟩
                obtain ⟨y, st6, hy6, hr⟩ := Res.bind_ok hr
                cases q3 : fe e4 st5 with
                | ex _ _ => rw [q3] at hy6; cases hy6
                | stuck => rw [q3] at hy6; cases hy6
                | ok y' st6' =>
                  rw [q3] at hy6
                  cases hy6
                  intro w6 v H6 s6 r6 dv
                  have a6 := a5.step s6 r6
                  cases dv with
                  | int k =>
                    have hr' : (scRun g lg ft fe (wipeD env vs) (items.drop (i + 1)) st6).bind (fun ks s4 => Res.ok (k :: ks) s4) = .ok zs st2 := hr
                    obtain ⟨zs', st7, h7, hr'⟩ := Res.bind_ok hr'
                    cases hr'
                    refine a6.push hL ?_ k fun H'' a7 => ⟨w6, st6, ms ++ [k], zs', a7, h7, by rw [← hz]; simp⟩
                    have h8 := sortU_app_le ms (k :: zs')
                    rw [hz] at h8
                    have h9 : (65 : Nat) ≤ scanBound := by decide
                    omega
                  | _ => cases hr
          | ex x e4 st4 => rw [q1] at hr; cases hr
          | bk e4 st4 => rw [q1] at hr; cases hr
          | ct e4 st4 => rw [q1] at hr; cases hr
          | rt d st4 => rw [q1] at hr; cases hr
          | stuck => rw [q1] at hr; cases hr
        · rw [if_neg hg] at hr
          cases hr
      · have e : i = items.length := by omega
        subst e
        have hdrop : items.drop items.length = [] := by simp
        rw [hdrop] at hr
        unfold scRun at hr
        by_cases hg : g st' = true
        · rw [if_pos hg] at hr
          cases hr
          rw [List.append_nil] at hz
          subst hz
          refine .inl ⟨wk.stop w' H' _ a.stp.le a.rel hg, ?_⟩
          obtain ⟨S, n, hH, hS, hn⟩ := a.ex
          refine ⟨L, S, n, rfl, hH, by rw [hn]; exact hl, fun ns p h1 h2 h3 hp => ?_⟩
          have ens : ns = sortU ms := lt_unique h1 (sortU_sorted ms) fun x => by rw [h2, hS, sortU_mem]
          subst ens
          exact (Post.pull p2 a.stp).newL a.rel (Dats.of_ints _) p hp
        · rw [if_neg hg] at hr
          cases hr
    · rw [if_neg hl] at p2
      exact p2.elim
end
section
variable {X : Cx} {T : List (Addr × Str)} {E : XK} {pos p1 p2 : Pos} {elt tg iter : Expr} {ifs : List Expr} {scope : Scope} {own : List (Str × Nat)} {fi : LI} {lg : LG} {ft : LT} {fe : LE}
/-- sorted({e for x in it if t}) -/
theorem x_sortSc (hm : X.mg "sorted" = none) (hc : X.calm = true) (hN : X.N.Nodup) (hi : PIf X T E tg iter fi) (ok : BlkOk X.N X.env.scope scope own)
    (hg : ∀ (s : Shared) (H : Hp) (C : Addr) (cl : List (Str × Addr)) (fp : List Addr), PGf (X.blk s H scope (compEnvC scope cl C X.env) fp) T EN (some (own.map (·.2))) tg lg) (ht : ∀ (s : Shared) (H : Hp) (C : Addr) (cl : List (Str × Addr)) (fp : List Addr), PTsf (X.blk s H scope (compEnvC scope cl C X.env) fp) T EN ifs ft)
    (he : ∀ (s : Shared) (H : Hp) (C : Addr) (cl : List (Str × Addr)) (fp : List Addr), PEf (X.blk s H scope (compEnvC scope cl C X.env) fp) T EN elt fe) (hs : ∀ x, foldedSetIterable iter X.env x = pure x := by intro _; rfl) (hG : Gl X "sorted" := by rfl)
    (hst : starEach [.SetComp elt [⟨tg, iter, ifs, 0⟩] scope p1] X.env = (false, eval (.SetComp elt [⟨tg, iter, ifs, 0⟩] scope p1) X.env) :: starEach [] X.env := by rfl) (hpl : (backTo pos (starEach [] X.env)).any (·.1) = false := by rfl) :
    PEf X T E (.Call (.Name "sorted" p2) [.SetComp elt [⟨tg, iter, ifs, 0⟩] scope p1] [] pos) (fSortSc fi lg ft fe (own.map (·.2))) :=
  pe_to (pe_callB (cr_sortedSet hc) hG hm (by decide +kernel) (pa_cons (pe_setI hc hN hi ok hg ht he hs) pa_nil hst) (by decide) (by decide) hst hpl) sim_sortSc
end
/-! ### sorted(set(xs)), tuples of ints, of one length -/
abbrev cdT (ns : List Int) : Int := TS.code 1000000 ns
def insT (a : List Int) : List (List Int) → List (List Int)
  | [] => [a]
  | b :: l => if cdT a < cdT b then a :: b :: l else if cdT a = cdT b then b :: l else b :: insT a l
def sortT : List (List Int) → List (List Int)
  | [] => []
  | a :: l => insT a (sortT l)
/-- all tuples of n ints that are worths -/
def okT (n : Nat) (a : List Int) : Prop := a.length = n ∧ ∀ m ∈ a, 0 ≤ m ∧ m < 1000000
theorem cdT_inj : ∀ {a b : List Int} {n : Nat}, okT n a → okT n b → cdT a = cdT b → a = b
  | [], [], _, _, _, _ => rfl
  | [], _ :: _, n, ha, hb, _ => by
    have := ha.1.trans hb.1.symm
    simp at this
  | _ :: _, [], n, ha, hb, _ => by
    have := ha.1.trans hb.1.symm
    simp at this
  | x :: a, y :: b, n, ha, hb, h => by
    have hl : a.length = b.length := by
      have := ha.1.trans hb.1.symm
      simpa using this
    have ba : TS.Bd 1000000 (x :: a) := ha.2
    have bb : TS.Bd 1000000 (y :: b) := hb.2
    have e : x = y := by
      rcases Int.lt_trichotomy x y with z | z | z
      · have := TS.code_lt (B := 1000000) hl ba.tail bb.tail z
        unfold cdT at h
        omega
      · exact z
      · have := TS.code_lt (B := 1000000) hl.symm bb.tail ba.tail z
        unfold cdT at h
        omega
    subst e
    have e2 : cdT a = cdT b := by
      have h' : x * 1000000 ^ a.length + TS.code 1000000 a = x * 1000000 ^ b.length + TS.code 1000000 b := h
      rw [hl] at h'
      unfold cdT
      omega
    rw [cdT_inj (n := a.length) ⟨rfl, fun m hm => ha.2 m (List.mem_cons_of_mem _ hm)⟩ ⟨hl.symm, fun m hm => hb.2 m (List.mem_cons_of_mem _ hm)⟩ e2]
theorem insT_mem {n : Nat} {a x : List Int} (ha : okT n a) : ∀ {l : List (List Int)}, (∀ b ∈ l, okT n b) → (x ∈ insT a l ↔ x = a ∨ x ∈ l)
  | [], _ => by simp [insT]
  | b :: l, h => by
    unfold insT
    by_cases c : cdT a < cdT b
    · rw [if_pos c]
      simp
    · rw [if_neg c]
      by_cases d : cdT a = cdT b
      · rw [if_pos d]
        have e := cdT_inj ha (h b List.mem_cons_self) d
        subst e
        simp
      · rw [if_neg d]
        rw [List.mem_cons, List.mem_cons, insT_mem ha fun y hy => h y (List.mem_cons_of_mem _ hy)]
        constructor <;> (rintro (h | h | h) <;> simp [h])
theorem sortT_mem {n : Nat} {x : List Int} : ∀ {l : List (List Int)}, (∀ b ∈ l, okT n b) → (x ∈ sortT l ↔ x ∈ l)
  | [], _ => Iff.rfl
  | a :: l, h => by
    show x ∈ insT a (sortT l) ↔ _
    have hl : ∀ b ∈ l, okT n b := fun y hy => h y (List.mem_cons_of_mem _ hy)
    rw [insT_mem (h a List.mem_cons_self) fun y hy => hl y ((sortT_mem hl).mp hy), sortT_mem hl, List.mem_cons]
theorem insT_sorted {n : Nat} {a : List Int} (ha : okT n a) : ∀ {l : List (List Int)}, (∀ b ∈ l, okT n b) → l.Pairwise (fun p q => cdT p < cdT q) → (insT a l).Pairwise (fun p q => cdT p < cdT q)
  | [], _, _ => List.pairwise_singleton _ _
  | b :: l, ho, h => by
    unfold insT
    by_cases c : cdT a < cdT b
    · rw [if_pos c]
      refine List.pairwise_cons.mpr ⟨fun x hx => ?_, h⟩
      rcases List.mem_cons.mp hx with hx | hx
      · rw [hx]; exact c
      · exact Int.lt_trans c ((List.pairwise_cons.mp h).1 x hx)
    · rw [if_neg c]
      by_cases d : cdT a = cdT b
      · rw [if_pos d]
        exact h
      · rw [if_neg d]
        have hol : ∀ y ∈ l, okT n y := fun y hy => ho y (List.mem_cons_of_mem _ hy)
        refine List.pairwise_cons.mpr ⟨fun x hx => ?_, insT_sorted ha hol (List.pairwise_cons.mp h).2⟩
        rcases (insT_mem ha hol).mp hx with hx | hx
        · rw [hx]; omega
        · exact (List.pairwise_cons.mp h).1 x hx
theorem sortT_sorted {n : Nat} : ∀ {l : List (List Int)}, (∀ b ∈ l, okT n b) → (sortT l).Pairwise (fun p q => cdT p < cdT q)
  | [], _ => List.Pairwise.nil
  | a :: l, h => by
    have hl : ∀ b ∈ l, okT n b := fun y hy => h y (List.mem_cons_of_mem _ hy)
    exact insT_sorted (h a List.mem_cons_self) (fun y hy => hl y ((sortT_mem hl).mp hy)) (sortT_sorted hl)
theorem cd_unique : ∀ {a b : List (List Int)}, a.Pairwise (fun p q => cdT p < cdT q) → b.Pairwise (fun p q => cdT p < cdT q) → (∀ x, x ∈ a ↔ x ∈ b) → a = b
  | [], [], _, _, _ => rfl
  | [], y :: b, _, _, h => absurd ((h y).mpr List.mem_cons_self) (by simp)
  | x :: a, [], _, _, h => absurd ((h x).mp List.mem_cons_self) (by simp)
  | x :: a, y :: b, ha, hb, h => by
    have ha' := List.pairwise_cons.mp ha
    have hb' := List.pairwise_cons.mp hb
    have e : x = y := by
      rcases List.mem_cons.mp ((h x).mp List.mem_cons_self) with e | e
      · exact e
      · rcases List.mem_cons.mp ((h y).mpr List.mem_cons_self) with e' | e'
        · exact e'.symm
        · have h1 := hb'.1 x e
          have h2 := ha'.1 y e'
          omega
    subst e
    rw [cd_unique ha'.2 hb'.2 fun z => ?_]
    constructor
    · intro hz
      rcases List.mem_cons.mp ((h z).mp (List.mem_cons_of_mem _ hz)) with q | q
      · have := ha'.1 z hz
        rw [q] at this
        omega
      · exact q
    · intro hz
      rcases List.mem_cons.mp ((h z).mpr (List.mem_cons_of_mem _ hz)) with q | q
      · have := hb'.1 z hz
        rw [q] at this
        omega
      · exact q
/-- a list of such tuples, read -/
def tupsOf : List D → Option (List (List Int))
  | [] => some []
  | .tup xs :: r => (match intsOf xs, tupsOf r with
    | some a, some l => some (a :: l)
    | _, _ => none)
  | _ => none
theorem tups_at : ∀ {ds : List D} {l : List (List Int)}, tupsOf ds = some l → ds = l.map fun a => D.tup (a.map D.int)
  | [], l, h => by cases h; rfl
  | .tup xs :: r, l, h => by
    have h' : (match intsOf xs, tupsOf r with
      | some a, some l => some (a :: l)
      | _, _ => none) = some l := h
    cases q1 : intsOf xs with
    | none => rw [q1] at h'; cases h'
    | some a =>
      cases q2 : tupsOf r with
      | none => rw [q1, q2] at h'; cases h'
      | some l' =>
        rw [q1, q2] at h'
        cases h'
        rw [List.map_cons, ← ints_at q1, ← tups_at q2]
  | .non :: _, l, h => by cases h
  | .int _ :: _, l, h => by cases h
  | .bl _ :: _, l, h => by cases h
  | .str _ :: _, l, h => by cases h
  | .lst _ :: _, l, h => by cases h
  | .lck _ :: _, l, h => by cases h
  | .ref _ :: _, l, h => by cases h
def okTs (l : List (List Int)) : Bool := match l with
  | [] => true
  | a :: _ => decide (1 ≤ a.length) && l.all fun b => decide (b.length = a.length) && b.all fun m => decide (0 ≤ m ∧ m < 1000000)
def oSortSet : O1 := fun d st => match rdOf d st with
  | some ds => (match tupsOf ds with
    | some l => if okTs l = true ∧ l.length < 64 then .ok (.lst ((sortT l).map fun a => D.tup (a.map D.int))) st else .stuck
    | none => .stuck)
  | none => .stuck
theorem okTs_at {l : List (List Int)} (h : okTs l = true) : ∃ n, 1 ≤ n ∧ ∀ b ∈ l, okT n b := by
  cases l with
  | nil => exact ⟨1, Nat.le_refl _, fun b hb => by cases hb⟩
  | cons a r =>
    have h' : (decide (1 ≤ a.length) && (a :: r).all fun b => decide (b.length = a.length) && b.all fun m => decide (0 ≤ m ∧ m < 1000000)) = true := h
    rw [Bool.and_eq_true] at h'
    refine ⟨a.length, of_decide_eq_true h'.1, fun b hb => ?_⟩
    have := List.all_eq_true.mp h'.2 b hb
    rw [Bool.and_eq_true] at this
    exact ⟨of_decide_eq_true this.1, fun m hm => of_decide_eq_true (List.all_eq_true.mp this.2 m hm)⟩
section
variable {T : List (Addr × Str)} {E : XK} {K : PySem.W.Frag} {w : Wd} {H : Hp} {st : Store}
theorem tups_refs : ∀ {vs : List V} {l : List (List Int)}, Rel K T w H st → Dats w vs (l.map fun a => D.tup (a.map D.int)) → ∃ ks : List (Addr × List Int), vs = ks.map (fun p => V.ref p.1) ∧ ks.map (·.2) = l ∧ (∀ p ∈ ks, w.F p.1 = some (.tup (p.2.map V.int)))
  | _, [], _, .nil => ⟨[], rfl, rfl, fun p hp => by cases hp⟩
  | _, a :: l, r, .cons h t => by
    obtain ⟨ks, h1, h2, h3⟩ := tups_refs r t
    cases h with
    | @tup p us _ hF hd =>
      have e := hd.ints
      subst e
      exact ⟨(p, a) :: ks, by rw [List.map_cons, h1], by rw [List.map_cons, h2], fun q hq => by
        rcases List.mem_cons.mp hq with hq | hq
        · rw [hq]; exact hF
        · exact h3 q hq⟩
theorem refs_dats : ∀ {ks : List (Addr × List Int)}, (∀ p ∈ ks, w.F p.1 = some (.tup (p.2.map V.int))) → Dats w (ks.map fun p => V.ref p.1) ((ks.map (·.2)).map fun a => D.tup (a.map D.int))
  | [], _ => .nil
  | p :: ks, h => .cons (.tup (h p List.mem_cons_self) (Dats.of_ints _)) (refs_dats fun q hq => h q (List.mem_cons_of_mem _ hq))
theorem sim_sortSet {W : World} {P : Program} {f : LE} : Sim K T E Dat (tCB (rSortedT K P W) (tCons (tCB (rSetOfT K P W) (tCons (tOf K T E Dat f) tNil)) tNil)) (fUn oSortSet f) := fun w σ H env st Q he r p => by
  refine ⟨w, env, st, he, r, p.bind fun w1 x H1 d st1 s1 r1 dx p1 => ?_⟩
  unfold oSortSet at p1
  cases q1 : rdOf d st1 with
  | none => rw [q1] at p1; exact p1.elim
  | some ds =>
    rw [q1] at p1
    dsimp only at p1
    cases q2 : tupsOf ds with
    | none => rw [q2] at p1; exact p1.elim
    | some l =>
      rw [q2] at p1
      have p2 : Post K T E Dat w1 H1 (if okTs l = true ∧ l.length < 64 then .ok (.lst ((sortT l).map fun a => D.tup (a.map D.int))) st1 else .stuck) Q := p1
      by_cases c : okTs l = true ∧ l.length < 64
      · rw [if_pos c] at p2
        obtain ⟨n, hn1, hok⟩ := okTs_at c.1
        obtain ⟨a, vs, rfl, h1, h2⟩ := rd_at r1 dx q1
        rw [tups_at q2] at h2
        obtain ⟨ks, e1, e2, h3⟩ := tups_refs r1 h2
        subst e1
        have hlen : ks.length = l.length := by rw [← e2, List.length_map]
        refine ⟨a, ks, rfl, h1, fun p hp => SqT.of (r1.fr _ _ (h3 p hp)), by rw [hlen]; exact c.2, fun b L hb hL1 hL2 => ?_⟩
        obtain ⟨s2, r2⟩ := r1.laid hb (SetTO P W b L)
        have hLF : ∀ p ∈ L, w1.F p.1 = some (.tup (p.2.map V.int)) := fun p hp => h3 p (hL1 p hp)
        have hLo : ∀ p ∈ L, okT n p.2 := fun p hp => hok _ (by rw [← e2]; exact List.mem_map_of_mem (hL1 p hp))
        refine ⟨b, L, n, 1000000, rfl, upd_same, fun p hp => SqT.of (r2.fr _ _ (s2.le.fr _ _ (hLF p hp))), hn1, fun p hp => ⟨(hLo p hp).1, (hLo p hp).2⟩, fun L' q hp hnd hlt hs hq => ?_⟩
        have memL : ∀ p, p ∈ L' ↔ p ∈ L := fun p => hp.mem_iff
        have key : L'.map (·.2) = sortT l := by
          refine cd_unique ?_ (sortT_sorted hok) fun x => ?_
          · rw [List.pairwise_map]
            have hnd2 : L'.Pairwise fun p q => p.2 ≠ q.2 := by
              have := hnd
              unfold List.Nodup at this
              rw [List.pairwise_map] at this
              exact this
            refine (List.pairwise_iff_forall_sublist.mpr fun {p q} hsub => ?_)
            have h4 := List.pairwise_iff_forall_sublist.mp hs hsub
            have h5 := List.pairwise_iff_forall_sublist.mp hnd2 hsub
            have mp : p ∈ L := (memL p).mp (hsub.subset (by simp))
            have mq : q ∈ L := (memL q).mp (hsub.subset (by simp))
            have h6 : cdT p.2 ≠ cdT q.2 := fun z => h5 (cdT_inj (hLo p mp) (hLo q mq) z)
            have h7 : cdT p.2 ≤ cdT q.2 := h4
            omega
          · rw [sortT_mem hok, ← e2]
            constructor
            · intro hx
              obtain ⟨p, hp', rfl⟩ := List.mem_map.mp hx
              exact List.mem_map_of_mem (hL1 p ((memL p).mp hp'))
            · intro hx
              obtain ⟨p, hp', rfl⟩ := List.mem_map.mp hx
              obtain ⟨p2, hp2, e⟩ := List.mem_map.mp (hL2 p hp')
              rw [← e]
              exact List.mem_map_of_mem ((memL p2).mpr hp2)
        have hd : Dats ⟨upd w1.F b (SetTO P W b L), w1.ads, w1.S⟩ (L'.map fun p => V.ref p.1) ((sortT l).map fun a => D.tup (a.map D.int)) := by
          rw [← key]
          exact refs_dats fun p hp' => s2.le.fr _ _ (hLF p ((memL p).mp hp'))
        exact (Post.pull p2 s2).newL r2 hd q hq
      · rw [if_neg c] at p2
        exact p2.elim
end
section
variable {X : Cx} {T : List (Addr × Str)} {E : XK} {pos p1 p2 p3 : Pos} {e : Expr} {f : LE} {k : Nat}
/-- sorted(set(xs)) -/
theorem x_sortSet (hr : Room k X.A) (hm : X.mg "sorted" = none) (hm2 : X.mg "set" = none) (hc : X.calm = true) (he : PEf X T E e f) (hG : Gl X "sorted" := by rfl) (hG2 : Gl X "set" := by rfl)
    (hs : starEach [e] X.env = (false, eval e X.env) :: starEach [] X.env := by rfl) (hpl : (backTo p3 (starEach [] X.env)).any (·.1) = false := by rfl)
    (hst : starEach [.Call (.Name "set" p2) [e] [] p3] X.env = (false, eval (.Call (.Name "set" p2) [e] [] p3) X.env) :: starEach [] X.env := by rfl) (hpl2 : (backTo pos (starEach [] X.env)).any (·.1) = false := by rfl) :
    PEf X T E (.Call (.Name "sorted" p1) [.Call (.Name "set" p2) [e] [] p3] [] pos) (fUn oSortSet f) :=
  pe_to (pe_callB (cr_sortedT hc) hG hm (by decide +kernel) (pa_cons (pe_callTy (cr_setOfT hc hr.units) hG2 hm2 (by decide +kernel) (pa_cons he pa_nil hs) (by decide) (by decide) hs hpl) pa_nil hst) (by decide) (by decide) hst hpl2) sim_sortSet
end
end Fk
/-! FkT: a dict against an empty one; setdefault. -/
namespace Fk
open PySem PySem.Spec PyProof.Rows L2
theorem gp_anil : ∀ g ∈ ([] : List LG), GPure g := fun g h => nomatch h
theorem gp_acons {x : LG} {l : List LG} (hx : GPure x) (hl : ∀ g ∈ l, GPure g) : ∀ g ∈ x :: l, GPure g := fun g h => by
  rcases List.mem_cons.mp h with h | h
  · subst h
    exact hx
  · exact hl g h
/-- a dict against the empty dict: told by the counts alone -/
def rNeD0 : R2 := fun x y H Q => ∃ a b us, x = .ref a ∧ y = .ref b ∧ H a = some (.dK us) ∧ H b = some (.dK []) ∧ Q (.bl (!us.isEmpty)) H
def rEqD0 : R2 := fun x y H Q => ∃ a b us, x = .ref a ∧ y = .ref b ∧ H a = some (.dK us) ∧ H b = some (.dK []) ∧ Q (.bl us.isEmpty) H
section
variable {X : Cx} {T : List (Addr × Str)} {E : XK} {pos : Pos} {o e f : Expr} {fd fk fx : LE} {k : Nat}
theorem op_neD0 (hu : X.A.units < cLine) : OpR X (compareOp .NotEq) rNeD0 := by
  intro pins s σ H x y v u Q I rx ry h
  obtain ⟨a, b, us, rfl, rfl, ea, eb, q⟩ := h
  obtain rfl : v = Value.ref a := rx
  obtain rfl : u = Value.ref b := ry
  obtain ⟨_, ya, va, ra, da⟩ := (show ObjOk X.prog X.w H s.heap a (.dK us) from I.hok a _ ea)
  obtain ⟨_, yb, vb, rb, db⟩ := (show ObjOk X.prog X.w H s.heap b (.dK []) from I.hok b _ eb)
  have e1 := ra.length
  have e2 := rb.length
  cases us with
  | nil =>
    refine PySem.W.keq_ne (knd := mixKind X.prog X.w) (r := true) ya yb da db hu (fun _ => hits_all rb ra (fun p hp => nomatch hp)) (fin_bl I q ?_)
    simp at e1 e2 ⊢
    simp [← e1, ← e2]
  | cons c cs =>
    refine PySem.W.keq_ne (knd := mixKind X.prog X.w) (r := true) ya yb da db hu (fun z => ?_) (fin_bl I q ?_)
    · rw [← e1, ← e2] at z; simp at z
    · rw [← e1, ← e2]; simp
theorem op_eqD0 (hu : X.A.units < cLine) : OpR X (compareOp .Eq) rEqD0 := by
  intro pins s σ H x y v u Q I rx ry h
  obtain ⟨a, b, us, rfl, rfl, ea, eb, q⟩ := h
  obtain rfl : v = Value.ref a := rx
  obtain rfl : u = Value.ref b := ry
  obtain ⟨_, ya, va, ra, da⟩ := (show ObjOk X.prog X.w H s.heap a (.dK us) from I.hok a _ ea)
  obtain ⟨_, yb, vb, rb, db⟩ := (show ObjOk X.prog X.w H s.heap b (.dK []) from I.hok b _ eb)
  have e1 := ra.length
  have e2 := rb.length
  cases us with
  | nil =>
    refine PySem.W.keq_eq (knd := mixKind X.prog X.w) (r := true) ya yb da db hu (fun _ => hits_all rb ra (fun p hp => nomatch hp)) (fin_bl I q ?_)
    simp at e1 e2 ⊢
    simp [← e1, ← e2]
  | cons c cs =>
    refine PySem.W.keq_eq (knd := mixKind X.prog X.w) (r := true) ya yb da db hu (fun z => ?_) (fin_bl I q ?_)
    · rw [← e1, ← e2] at z; simp at z
    · rw [← e1, ← e2]; simp
def oNe0 : O2 := fun d e st => match dicL d st, dicL e st with
  | some (_, ks), some (_, []) => .ok (.bl (!ks.isEmpty)) st
  | _, _ => .stuck
def oEq0 : O2 := fun d e st => match dicL d st, dicL e st with
  | some (_, ks), some (_, []) => .ok (.bl ks.isEmpty) st
  | _, _ => .stuck
theorem Kvs.empty {w : Wd} {us : List (Key × V)} {ks : List (Key × D)} (h : Kvs w us ks) : us.isEmpty = ks.isEmpty := by
  have e := h.length
  cases us <;> cases ks <;> simp_all
theorem sim_ne0 {K : PySem.W.Frag} : SimR2 K T rNeD0 oNe0 := fun E w H st x y d e Q r dx dy p => by
  unfold oNe0 at p
  cases q1 : dicL d st with
  | none => rw [q1] at p; exact p.elim
  | some a =>
    obtain ⟨j, ks⟩ := a
    cases q2 : dicL e st with
    | none => rw [q1, q2] at p; exact p.elim
    | some b =>
      obtain ⟨j2, ls⟩ := b
      rw [q1, q2] at p
      cases ls with
      | cons c cs => exact p.elim
      | nil =>
        obtain ⟨pa, us, rfl, _, _, h1, h2⟩ := dic_at r dx q1
        obtain ⟨pb, us', rfl, _, _, h3, h4⟩ := dic_at r dy q2
        obtain rfl : us' = [] := by
          have := h4.length
          cases us' <;> simp_all
        refine ⟨pa, pb, us, rfl, rfl, h1, h3, ?_⟩
        rw [h2.empty]
        exact p.here r (.bl _)
theorem sim_eq0 {K : PySem.W.Frag} : SimR2 K T rEqD0 oEq0 := fun E w H st x y d e Q r dx dy p => by
  unfold oEq0 at p
  cases q1 : dicL d st with
  | none => rw [q1] at p; exact p.elim
  | some a =>
    obtain ⟨j, ks⟩ := a
    cases q2 : dicL e st with
    | none => rw [q1, q2] at p; exact p.elim
    | some b =>
      obtain ⟨j2, ls⟩ := b
      rw [q1, q2] at p
      cases ls with
      | cons c cs => exact p.elim
      | nil =>
        obtain ⟨pa, us, rfl, _, _, h1, h2⟩ := dic_at r dx q1
        obtain ⟨pb, us', rfl, _, _, h3, h4⟩ := dic_at r dy q2
        obtain rfl : us' = [] := by
          have := h4.length
          cases us' <;> simp_all
        refine ⟨pa, pb, us, rfl, rfl, h1, h3, ?_⟩
        rw [h2.empty]
        exact p.here r (.bl _)
theorem x_ne0 (hr : Room k X.A) (ha : PEf X T E o fd) (hb : PEf X T E e fk) (hm : behindInMarks .NotEq e = false := by rfl) : PEf X T E (.Compare o [.NotEq] [e] pos) (fOp oNe0 fd fk) := x_cmp (op_neD0 (Nat.lt_of_le_of_lt (Nat.le_add_right _ _) hr.units)) sim_ne0 ha hb hm
theorem x_tne0 (hr : Room k X.A) (ha : PEf X T E o fd) (hb : PEf X T E e fk) (hm : behindInMarks .NotEq e = false := by rfl) : PTf X T E (.Compare o [.NotEq] [e] pos) (fTest (fOp oNe0 fd fk)) := x_tcmp (op_neD0 (Nat.lt_of_le_of_lt (Nat.le_add_right _ _) hr.units)) sim_ne0 ha hb hm
theorem x_eq0 (hr : Room k X.A) (ha : PEf X T E o fd) (hb : PEf X T E e fk) (hm : behindInMarks .Eq e = false := by rfl) : PEf X T E (.Compare o [.Eq] [e] pos) (fOp oEq0 fd fk) := x_cmp (op_eqD0 (Nat.lt_of_le_of_lt (Nat.le_add_right _ _) hr.units)) sim_eq0 ha hb hm
theorem x_teq0 (hr : Room k X.A) (ha : PEf X T E o fd) (hb : PEf X T E e fk) (hm : behindInMarks .Eq e = false := by rfl) : PTf X T E (.Compare o [.Eq] [e] pos) (fTest (fOp oEq0 fd fk)) := x_tcmp (op_eqD0 (Nat.lt_of_le_of_lt (Nat.le_add_right _ _) hr.units)) sim_eq0 ha hb hm
def fDsetd (fd fk fx : LE) : LE := fun env st => (fd env st).bind fun d st1 => if isDic d st1 = true then (fk env st1).bind fun e st2 => (fx env st2).bind fun z st3 => match dicL d st3, keyD e with
  | some (j, kvs), some k => if kvs.length < lim then (match valD kvs k with
    | some v => .ok v st3
    | none => .ok z (st3.set j (.dic (setD kvs k z)))) else .stuck
  | _, _ => .stuck else .stuck
theorem x_dsetd {apos cpos : Pos} (ho : PEf X T E o fd) (he : PEf X T E e fk) (hf : PEf X T E f fx) (m : M2 X o "setdefault" apos e f cpos := by exact ⟨rfl, rfl, rfl, rfl⟩) : PEf X T E (.Call (.Attribute o "setdefault" apos) [e, f] [] cpos) (fDsetd fd fk fx) := pe_to (pe_dsetd ho he hf m) fun w σ H env st Q he r p => by
  refine ⟨w, env, st, he, r, p.bind fun w1 x H1 d st1 s1 r1 dx p1 => ?_⟩
  by_cases c : isDic d st1 = true
  · rw [if_pos c] at p1
    obtain ⟨a, rfl, ia⟩ := isDic_at r1 dx c
    refine ⟨a, rfl, ia, w1, env, st1, he.mono s1.le, r1, p1.bind fun w2 y H2 e st2 s2 r2 dy p2 => ?_⟩
    refine ⟨w2, env, st2, (he.mono s1.le).mono s2.le, r2, p2.bind fun w3 z H3 f st3 s3 r3 dz p3 => ?_⟩
    cases q1 : dicL d st3 with
    | none => rw [q1] at p3; exact p3.elim
    | some jk =>
      obtain ⟨j, kvs⟩ := jk
      cases q2 : keyD e with
      | none => rw [q1, q2] at p3; exact p3.elim
      | some kk =>
        rw [q1, q2] at p3
        dsimp only at p3
        by_cases cl : kvs.length < lim
        · rw [if_pos cl] at p3
          obtain ⟨a', us, ea, g, hv, hH, ha, hs, ey⟩ := dget_at r3 ((dx.mono s2.le).mono s3.le) (dy.mono s3.le) q1 q2
          cases ea
          refine ⟨us, kk, hH, ey, by rw [hv.length, lim_eq]; exact cl, fun v hvv => ?_, fun hn => ?_⟩
          · cases q3 : valD kvs kk with
            | none =>
              rw [(hv.val kk).1 q3] at hvv
              cases hvv
            | some v' =>
              rw [q3] at p3
              obtain ⟨u, h1, h2⟩ := (hv.val kk).2 v' q3
              rw [h1] at hvv
              cases hvv
              exact p3.here r3 h2
          · cases q3 : valD kvs kk with
            | none =>
              rw [q3] at p3
              obtain ⟨s4, r4⟩ := r3.putDic ha hs (hv.put dz kk)
              exact p3 w3 _ _ s4 r4 dz
            | some v' =>
              obtain ⟨u, h1, h2⟩ := (hv.val kk).2 v' q3
              rw [h1] at hn
              cases hn
        · rw [if_neg cl] at p3
          exact p3.elim
  · rw [if_neg c] at p1
    exact p1.elim
end
end Fk
/-! FkU: the plain functions of fields, methods, makes, slices, dicts, sorted sets, evaluated. -/
namespace Fk
open PySem PySem.Spec PyProof.Rows L2
/-! ### fields -/
theorem insOf_ref {k : Nat} {c : Str} {fs : List (Str × D)} {st : Store} (h : st[k]? = some (.ins c fs)) : insOf c (.ref k) st = some (k, fs) := by
  show (match st[k]? with
    | some (.ins c' fs) => if c' = c then some (k, fs) else none
    | _ => none) = _
  rw [h]
  exact if_pos rfl
theorem oFld_ref {k : Nat} {c f : Str} {fs : List (Str × D)} {z : D} {st : Store} (h : st[k]? = some (.ins c fs)) (hf : fs.lookup f = some z) : oFld c f (.ref k) st = .ok z st := by
  unfold oFld
  rw [insOf_ref h]
  dsimp only
  rw [hf]
def kSetF1 (c f : Str) (fa : LE) (env : DEnv) : D → Store → RS := fun y st1 => (fa env st1).go env fun d st2 => match insOf c d st2 with
  | some (k, fs) => if fs.length < 1000 then .nx env (st2.set k (.ins c (putD f y fs))) else .stuck
  | none => .stuck
def kSetF2 (c f : Str) (env : DEnv) (y : D) : D → Store → RS := fun d st2 => match insOf c d st2 with
  | some (k, fs) => if fs.length < 1000 then .nx env (st2.set k (.ins c (putD f y fs))) else .stuck
  | none => .stuck
@[simp] theorem fSetF_eq (c f : Str) (fv fa : LE) (env : DEnv) (st : Store) : fSetF c f fv fa env st = (fv env st).go env (kSetF1 c f fa env) := (rfl)
@[simp] theorem kSetF1_eq (c f : Str) (fa : LE) (env : DEnv) (y : D) (st : Store) : kSetF1 c f fa env y st = (fa env st).go env (kSetF2 c f env y) := (rfl)
theorem kSetF2_ref {k : Nat} {c : Str} {fs : List (Str × D)} {st : Store} (h : st[k]? = some (.ins c fs)) (hl : fs.length < 1000) (f : Str) (env : DEnv) (y : D) : kSetF2 c f env y (.ref k) st = .nx env (st.set k (.ins c (putD f y fs))) := by
  unfold kSetF2
  rw [insOf_ref h]
  exact if_pos hl
/-! ### methods, makes -/
def kMeth (c m : Str) (n : Nat) (fm : FM) (g : LA) (env : DEnv) : D → Store → Res D := fun d st1 => match insOf c d st1 with
  | some (_, fs) => (match fs.lookup m with
    | none => (g env st1).bind fun ds st2 => if ds.length + 1 = n then fm (d :: ds) st2 else .stuck
    | some _ => .stuck)
  | none => .stuck
def kMeth2 (n : Nat) (fm : FM) (d : D) : List D → Store → Res D := fun ds st2 => if ds.length + 1 = n then fm (d :: ds) st2 else .stuck
@[simp] theorem fMeth_eq (c m : Str) (n : Nat) (fm : FM) (fa : LE) (g : LA) (env : DEnv) (st : Store) : fMeth c m n fm fa g env st = (fa env st).bind (kMeth c m n fm g env) := (rfl)
theorem kMeth_ref {k : Nat} {c m : Str} {fs : List (Str × D)} {st : Store} (h : st[k]? = some (.ins c fs)) (hm : fs.lookup m = none) (n : Nat) (fm : FM) (g : LA) (env : DEnv) : kMeth c m n fm g env (.ref k) st = (g env st).bind (kMeth2 n fm (.ref k)) := by
  unfold kMeth
  rw [insOf_ref h]
  dsimp only
  rw [hm]
  rfl
@[simp] theorem kMeth2_0 (fm : FM) (d : D) (st : Store) : kMeth2 1 fm d [] st = fm [d] st := (rfl)
@[simp] theorem kMeth2_1 (fm : FM) (d a : D) (st : Store) : kMeth2 2 fm d [a] st = fm [d, a] st := (rfl)
@[simp] theorem kMeth2_2 (fm : FM) (d a b : D) (st : Store) : kMeth2 3 fm d [a, b] st = fm [d, a, b] st := (rfl)
@[simp] theorem kMeth2_3 (fm : FM) (d a b c : D) (st : Store) : kMeth2 4 fm d [a, b, c] st = fm [d, a, b, c] st := (rfl)
def kMake (c : Str) (n : Nat) (fm : FM) : List D → Store → Res D := fun ds st1 => if ds.length + 1 = n then (fm (.ref st1.length :: ds) (st1 ++ [.ins c []])).bind fun z st2 => (match z with
  | .non => .ok (.ref st1.length) st2
  | _ => .stuck) else .stuck
def kMake2 (k : Nat) : D → Store → Res D := fun z st2 => match z with
  | .non => .ok (.ref k) st2
  | _ => .stuck
@[simp] theorem fMake_eq (c : Str) (n : Nat) (fm : FM) (g : LA) (env : DEnv) (st : Store) : fMake c n fm g env st = (g env st).bind (kMake c n fm) := (rfl)
@[simp] theorem kMake_1 (c : Str) (fm : FM) (a : D) (st : Store) : kMake c 2 fm [a] st = (fm [.ref st.length, a] (st ++ [.ins c []])).bind (kMake2 st.length) := (rfl)
@[simp] theorem kMake_2 (c : Str) (fm : FM) (a b : D) (st : Store) : kMake c 3 fm [a, b] st = (fm [.ref st.length, a, b] (st ++ [.ins c []])).bind (kMake2 st.length) := (rfl)
@[simp] theorem kMake_3 (c : Str) (fm : FM) (a b d : D) (st : Store) : kMake c 4 fm [a, b, d] st = (fm [.ref st.length, a, b, d] (st ++ [.ins c []])).bind (kMake2 st.length) := (rfl)
@[simp] theorem kMake2_eq (k : Nat) (st : Store) : kMake2 k .non st = .ok (.ref k) st := (rfl)
/-! ### dicts -/
@[simp] theorem fDic0_eq (env : DEnv) (st : Store) : fDic0 env st = .ok (.ref st.length) (st ++ [.dic []]) := (rfl)
theorem dicL_ref {k : Nat} {kvs : List (Key × D)} {st : Store} (h : st[k]? = some (.dic kvs)) : dicL (.ref k) st = some (k, kvs) := by
  show (match st[k]? with
    | some (.dic kvs) => some (k, kvs)
    | _ => none) = _
  rw [h]
@[simp] theorem keyD_int (i : Int) : keyD (.int i) = some (.inl i) := (rfl)
@[simp] theorem keyD_str (s : Str) : keyD (.str s) = some (.inr s) := (rfl)
theorem isDic_ref {k : Nat} {kvs : List (Key × D)} {st : Store} (h : st[k]? = some (.dic kvs)) : isDic (.ref k) st = true := by
  unfold isDic
  rw [dicL_ref h]
  rfl
theorem oDget_ref {k : Nat} {kvs : List (Key × D)} {st : Store} {e z : D} {j : Key} (h : st[k]? = some (.dic kvs)) (he : keyD e = some j) (hv : valD kvs j = some z) : oDget (.ref k) e st = .ok z st := by
  unfold oDget
  rw [dicL_ref h, he]
  dsimp only
  rw [hv]
theorem oDin_ref {k : Nat} {kvs : List (Key × D)} {st : Store} {e : D} {j : Key} (h : st[k]? = some (.dic kvs)) (he : keyD e = some j) (neg : Bool) : oDin neg e (.ref k) st = .ok (.bl (if neg then !(valD kvs j).isSome else (valD kvs j).isSome)) st := by
  unfold oDin
  rw [dicL_ref h, he]
def kDget1 (fk fx : LE) (env : DEnv) : D → Store → Res D := fun d st1 => if isDic d st1 = true then (fk env st1).bind fun e st2 => (fx env st2).bind fun z st3 => match dicL d st3, keyD e with
  | some (_, kvs), some k => .ok ((valD kvs k).getD z) st3
  | _, _ => .stuck else .stuck
def kDget2 (d : D) (fx : LE) (env : DEnv) : D → Store → Res D := fun e st2 => (fx env st2).bind fun z st3 => match dicL d st3, keyD e with
  | some (_, kvs), some k => .ok ((valD kvs k).getD z) st3
  | _, _ => .stuck
def kDget3 (d e : D) : D → Store → Res D := fun z st3 => match dicL d st3, keyD e with
  | some (_, kvs), some k => .ok ((valD kvs k).getD z) st3
  | _, _ => .stuck
@[simp] theorem fDget2_eq (fd fk fx : LE) (env : DEnv) (st : Store) : fDget2 fd fk fx env st = (fd env st).bind (kDget1 fk fx env) := (rfl)
theorem kDget1_ref {k : Nat} {kvs : List (Key × D)} {st : Store} (h : st[k]? = some (.dic kvs)) (fk fx : LE) (env : DEnv) : kDget1 fk fx env (.ref k) st = (fk env st).bind (kDget2 (.ref k) fx env) := if_pos (isDic_ref h)
@[simp] theorem kDget2_eq (d : D) (fx : LE) (env : DEnv) (e : D) (st : Store) : kDget2 d fx env e st = (fx env st).bind (kDget3 d e) := (rfl)
theorem kDget3_ref {k : Nat} {kvs : List (Key × D)} {st : Store} {e : D} {j : Key} (h : st[k]? = some (.dic kvs)) (he : keyD e = some j) (z : D) : kDget3 (.ref k) e z st = .ok ((valD kvs j).getD z) st := by
  unfold kDget3
  rw [dicL_ref h, he]
def kDpop1 (fk fx : LE) (env : DEnv) : D → Store → Res D := fun d st1 => if isDic d st1 = true then (fk env st1).bind fun e st2 => (fx env st2).bind fun z st3 => match dicL d st3, keyD e with
  | some (j, kvs), some k => (match valD kvs k with
    | some v => .ok v (st3.set j (.dic (delD kvs k)))
    | none => .ok z st3)
  | _, _ => .stuck else .stuck
def kDpop2 (d : D) (fx : LE) (env : DEnv) : D → Store → Res D := fun e st2 => (fx env st2).bind fun z st3 => match dicL d st3, keyD e with
  | some (j, kvs), some k => (match valD kvs k with
    | some v => .ok v (st3.set j (.dic (delD kvs k)))
    | none => .ok z st3)
  | _, _ => .stuck
def kDpop3 (d e : D) : D → Store → Res D := fun z st3 => match dicL d st3, keyD e with
  | some (j, kvs), some k => (match valD kvs k with
    | some v => .ok v (st3.set j (.dic (delD kvs k)))
    | none => .ok z st3)
  | _, _ => .stuck
@[simp] theorem fDpop2_eq (fd fk fx : LE) (env : DEnv) (st : Store) : fDpop2 fd fk fx env st = (fd env st).bind (kDpop1 fk fx env) := (rfl)
theorem kDpop1_ref {k : Nat} {kvs : List (Key × D)} {st : Store} (h : st[k]? = some (.dic kvs)) (fk fx : LE) (env : DEnv) : kDpop1 fk fx env (.ref k) st = (fk env st).bind (kDpop2 (.ref k) fx env) := if_pos (isDic_ref h)
@[simp] theorem kDpop2_eq (d : D) (fx : LE) (env : DEnv) (e : D) (st : Store) : kDpop2 d fx env e st = (fx env st).bind (kDpop3 d e) := (rfl)
theorem delD_none {kvs : List (Key × D)} {k : Key} (h : valD kvs k = none) : delD kvs k = kvs := by
  unfold delD
  refine List.filter_eq_self.mpr fun p hp => ?_
  unfold valD at h
  have h2 : kvs.find? (fun p => decide (p.1 = k)) = none := by simpa using h
  have := List.find?_eq_none.mp h2 p hp
  simpa using this
theorem set_same {st : Store} {k : Nat} {c : Cell} (h : st[k]? = some c) : st.set k c = st := by
  refine List.ext_getElem? fun i => ?_
  by_cases e : i = k
  · subst e
    rw [List.getElem?_set_self (List.getElem?_eq_some_iff.mp h).1, h]
  · rw [List.getElem?_set_ne (fun z => e z.symm)]
/-- there or not: the dict without it; what is told is not asked for -/
theorem kDpop3_ref {k : Nat} {kvs : List (Key × D)} {st : Store} {e : D} {j : Key} (h : st[k]? = some (.dic kvs)) (he : keyD e = some j) (z : D) : ∃ v, kDpop3 (.ref k) e z st = .ok v (st.set k (.dic (delD kvs j))) := by
  unfold kDpop3
  rw [dicL_ref h, he]
  dsimp only
  cases q : valD kvs j with
  | some v => exact ⟨v, rfl⟩
  | none => exact ⟨z, by rw [delD_none q, set_same h]⟩
def kDset1 (fk fx : LE) (env : DEnv) : D → Store → Res D := fun d st1 => if isDic d st1 = true then (fk env st1).bind fun e st2 => (fx env st2).bind fun z st3 => match dicL d st3, keyD e with
  | some (j, kvs), some k => if kvs.length < lim then (match valD kvs k with
    | some v => .ok v st3
    | none => .ok z (st3.set j (.dic (setD kvs k z)))) else .stuck
  | _, _ => .stuck else .stuck
def kDset2 (d : D) (fx : LE) (env : DEnv) : D → Store → Res D := fun e st2 => (fx env st2).bind fun z st3 => match dicL d st3, keyD e with
  | some (j, kvs), some k => if kvs.length < lim then (match valD kvs k with
    | some v => .ok v st3
    | none => .ok z (st3.set j (.dic (setD kvs k z)))) else .stuck
  | _, _ => .stuck
def kDset3 (d e : D) : D → Store → Res D := fun z st3 => match dicL d st3, keyD e with
  | some (j, kvs), some k => if kvs.length < lim then (match valD kvs k with
    | some v => .ok v st3
    | none => .ok z (st3.set j (.dic (setD kvs k z)))) else .stuck
  | _, _ => .stuck
@[simp] theorem fDsetd_eq (fd fk fx : LE) (env : DEnv) (st : Store) : fDsetd fd fk fx env st = (fd env st).bind (kDset1 fk fx env) := (rfl)
theorem kDset1_ref {k : Nat} {kvs : List (Key × D)} {st : Store} (h : st[k]? = some (.dic kvs)) (fk fx : LE) (env : DEnv) : kDset1 fk fx env (.ref k) st = (fk env st).bind (kDset2 (.ref k) fx env) := if_pos (isDic_ref h)
@[simp] theorem kDset2_eq (d : D) (fx : LE) (env : DEnv) (e : D) (st : Store) : kDset2 d fx env e st = (fx env st).bind (kDset3 d e) := (rfl)
theorem kDset3_there {k : Nat} {kvs : List (Key × D)} {st : Store} {e v : D} {j : Key} (h : st[k]? = some (.dic kvs)) (he : keyD e = some j) (hl : kvs.length < lim) (hv : valD kvs j = some v) (z : D) : kDset3 (.ref k) e z st = .ok v st := by
  unfold kDset3
  rw [dicL_ref h, he]
  dsimp only
  rw [if_pos hl, hv]
theorem kDset3_new {k : Nat} {kvs : List (Key × D)} {st : Store} {e : D} {j : Key} (h : st[k]? = some (.dic kvs)) (he : keyD e = some j) (hl : kvs.length < lim) (hv : valD kvs j = none) (z : D) : kDset3 (.ref k) e z st = .ok z (st.set k (.dic (setD kvs j z))) := by
  unfold kDset3
  rw [dicL_ref h, he]
  dsimp only
  rw [if_pos hl, hv]
def kDput1 (fd fk : LE) (env : DEnv) : D → Store → RS := fun v st1 => (fd env st1).go env fun d st2 => (fk env st2).go env fun e st3 => match dicL d st3, keyD e with
  | some (j, kvs), some k => if kvs.length < lim then .nx env (st3.set j (.dic (setD kvs k v))) else .stuck
  | _, _ => .stuck
def kDput2 (fk : LE) (env : DEnv) (v : D) : D → Store → RS := fun d st2 => (fk env st2).go env fun e st3 => match dicL d st3, keyD e with
  | some (j, kvs), some k => if kvs.length < lim then .nx env (st3.set j (.dic (setD kvs k v))) else .stuck
  | _, _ => .stuck
def kDput3 (env : DEnv) (v d : D) : D → Store → RS := fun e st3 => match dicL d st3, keyD e with
  | some (j, kvs), some k => if kvs.length < lim then .nx env (st3.set j (.dic (setD kvs k v))) else .stuck
  | _, _ => .stuck
@[simp] theorem fDput_eq (fv fd fk : LE) (env : DEnv) (st : Store) : fDput fv fd fk env st = (fv env st).go env (kDput1 fd fk env) := (rfl)
@[simp] theorem kDput1_eq (fd fk : LE) (env : DEnv) (v : D) (st : Store) : kDput1 fd fk env v st = (fd env st).go env (kDput2 fk env v) := (rfl)
@[simp] theorem kDput2_eq (fk : LE) (env : DEnv) (v d : D) (st : Store) : kDput2 fk env v d st = (fk env st).go env (kDput3 env v d) := (rfl)
theorem kDput3_ref {k : Nat} {kvs : List (Key × D)} {st : Store} {e : D} {j : Key} (h : st[k]? = some (.dic kvs)) (he : keyD e = some j) (hl : kvs.length < lim) (env : DEnv) (v : D) : kDput3 env v (.ref k) e st = .nx env (st.set k (.dic (setD kvs j v))) := by
  unfold kDput3
  rw [dicL_ref h, he]
  exact if_pos hl
theorem oNe0_ref {k j : Nat} {kvs : List (Key × D)} {st : Store} (h : st[k]? = some (.dic kvs)) (h0 : st[j]? = some (.dic [])) : oNe0 (.ref k) (.ref j) st = .ok (.bl (!kvs.isEmpty)) st := by
  unfold oNe0
  rw [dicL_ref h, dicL_ref h0]
theorem oSortD_ref {k : Nat} {kvs : List (Key × D)} {ks : List Int} {st : Store} (h : st[k]? = some (.dic kvs)) (hk : kvs.map (·.1) = ks.map Sum.inl) (hl : ks.length < 64) : oSortD [.ref k] st = .ok (.lst ((sortI ks).map D.int)) st := by
  have e : ∀ (kvs : List (Key × D)) (ks : List Int), kvs.map (·.1) = ks.map Sum.inl → keysI kvs = some ks := fun kvs => by
    induction kvs with
    | nil =>
      intro ks h
      cases ks with
      | nil => rfl
      | cons _ _ => cases h
    | cons p r ih =>
      intro ks h
      cases ks with
      | nil => cases h
      | cons k ks =>
        obtain ⟨a, b⟩ := p
        rw [List.map_cons, List.map_cons] at h
        injection h with h1 h2
        dsimp only at h1
        subst h1
        show (keysI r).map (k :: ·) = _
        rw [ih ks h2]
        rfl
  unfold oSortD
  dsimp only
  rw [dicL_ref h]
  dsimp only
  rw [e _ _ hk]
  exact if_pos hl
/-! ### sorted sets -/
def kSc (lg : LG) (ft : LT) (fe : LE) (envw : DEnv) : IT → Store → Res D := fun it st1 => (noex (scRun it.2 lg ft fe envw it.1 st1)).bind fun ks st2 => if (sortU ks).length < 64 then .ok (.lst ((sortU ks).map D.int)) st2 else .stuck
@[simp] theorem fSortSc_eq (fi : LI) (lg : LG) (ft : LT) (fe : LE) (vs : List Nat) (env : DEnv) (st : Store) : fSortSc fi lg ft fe vs env st = (fi env st).bind (kSc lg ft fe (wipeD env vs)) := (rfl)
theorem kSc_of {lg : LG} {ft : LT} {fe : LE} {envw : DEnv} {it : IT} {st st2 : Store} {ks : List Int} (h : scRun it.2 lg ft fe envw it.1 st = .ok ks st2) (hl : (sortU ks).length < 64) : kSc lg ft fe envw it st = .ok (.lst ((sortU ks).map D.int)) st2 := by
  unfold kSc
  rw [h]
  exact if_pos hl
theorem scRun_map {g : Store → Bool} {lg : LG} {ft : LT} {fe : LE} {envw : DEnv} {st : Store} (hg : g st = true) : ∀ {items : List D} (φ : D → Int),
    (∀ d ∈ items, ∃ e1, lg d envw st = .nx e1 st ∧ ft e1 st = .ok true st ∧ fe e1 st = .ok (.int (φ d)) st) → scRun g lg ft fe envw items st = .ok (items.map φ) st
  | [], φ, _ => by rw [scRun, if_pos hg]; rfl
  | d :: ds, φ, h => by
    obtain ⟨e1, h1, h2, h3⟩ := h d List.mem_cons_self
    have ih := scRun_map hg φ (fun x hx => h x (List.mem_cons_of_mem _ hx)) (items := ds)
    rw [scRun, if_pos hg, h1]
    dsimp only
    rw [h2]
    dsimp only [noex, Res.bind]
    rw [if_pos rfl, h3]
    dsimp only [noex, Res.bind]
    rw [ih]
    rfl
theorem tupsOf_map : ∀ l : List (List Int), tupsOf (l.map fun a => D.tup (a.map D.int)) = some l := fun l => by
  induction l with
  | nil => rfl
  | cons a l ih =>
    have e : intsOf (a.map D.int) = some a := by
      clear ih
      induction a with
      | nil => rfl
      | cons x a iha =>
        rw [List.map_cons]
        unfold intsOf
        rw [iha]
        rfl
    rw [List.map_cons]
    unfold tupsOf
    simp only [e, ih]
theorem oSortSet_lst {l : List (List Int)} (h : okTs l = true) (hl : l.length < 64) (st : Store) : oSortSet (.lst (l.map fun a => D.tup (a.map D.int))) st = .ok (.lst ((sortT l).map fun a => D.tup (a.map D.int))) st := by
  have e : rdOf (.lst (l.map fun a => D.tup (a.map D.int))) st = some (l.map fun a => D.tup (a.map D.int)) := rfl
  unfold oSortSet
  rw [e]
  dsimp only
  rw [tupsOf_map]
  exact if_pos ⟨h, hl⟩
/-! ### slices -/
def kSl1 (fl fh : Option LE) (env : DEnv) : D → Store → Res D := fun d st1 => (fPart fl env st1).bind fun lo st2 => (fPart fh env st2).bind fun hi st3 => oSl d lo hi st3
def kSl2 (d : D) (fh : Option LE) (env : DEnv) : Option Int → Store → Res D := fun lo st2 => (fPart fh env st2).bind fun hi st3 => oSl d lo hi st3
def kSl3 (d : D) (lo : Option Int) : Option Int → Store → Res D := fun hi st3 => oSl d lo hi st3
def kPart : D → Store → Res (Option Int) := fun d st1 => match d with
  | .int i => .ok (some i) st1
  | _ => .stuck
@[simp] theorem fSl_eq (fa : LE) (fl fh : Option LE) (env : DEnv) (st : Store) : fSl fa fl fh env st = (fa env st).bind (kSl1 fl fh env) := (rfl)
@[simp] theorem kSl1_eq (fl fh : Option LE) (env : DEnv) (d : D) (st : Store) : kSl1 fl fh env d st = (fPart fl env st).bind (kSl2 d fh env) := (rfl)
@[simp] theorem kSl2_eq (d : D) (fh : Option LE) (env : DEnv) (lo : Option Int) (st : Store) : kSl2 d fh env lo st = (fPart fh env st).bind (kSl3 d lo) := (rfl)
@[simp] theorem kSl3_eq (d : D) (lo hi : Option Int) (st : Store) : kSl3 d lo hi st = oSl d lo hi st := (rfl)
@[simp] theorem fPart_none (env : DEnv) (st : Store) : fPart none env st = .ok none st := (rfl)
@[simp] theorem fPart_some (f : LE) (env : DEnv) (st : Store) : fPart (some f) env st = (f env st).bind kPart := (rfl)
@[simp] theorem kPart_int (i : Int) (st : Store) : kPart (.int i) st = .ok (some i) st := (rfl)
@[simp] theorem oSl_tup (ds : List D) (lo hi : Option Int) (st : Store) : oSl (.tup ds) lo hi st = .ok (.tup (cutD ds lo hi)) st := (rfl)
@[simp] theorem oSl_lst (ds : List D) (lo hi : Option Int) (st : Store) : oSl (.lst ds) lo hi st = .ok (.lst (cutD ds lo hi)) st := (rfl)
theorem oSl_ref {k : Nat} {xs : List D} {st : Store} (h : st[k]? = some (.lst xs)) (lo hi : Option Int) : oSl (.ref k) lo hi st = .ok (.lst (cutD xs lo hi)) st := by
  have e : rdOf (.ref k) st = some xs := by
    show (match st[k]? with | some (.lst xs) => some xs | _ => none) = some xs
    rw [h]
  show (match rdOf (.ref k) st with
    | some ds => Res.ok (D.lst (cutD ds lo hi)) st
    | none => .stuck) = _
  rw [e]
theorem take_min' {α : Type} (l : List α) (k : Nat) : l.take (min k l.length) = l.take k := by
  by_cases h : k ≤ l.length
  · rw [Nat.min_eq_left h]
  · rw [Nat.min_eq_right (by omega), List.take_of_length_le (Nat.le_refl _), List.take_of_length_le (by omega)]
theorem drop_min' {α : Type} (l : List α) (k : Nat) : l.drop (min k l.length) = l.drop k := by
  by_cases h : k ≤ l.length
  · rw [Nat.min_eq_left h]
  · rw [Nat.min_eq_right (by omega), List.drop_eq_nil_of_le (Nat.le_refl _), List.drop_eq_nil_of_le (by omega)]
theorem cutD_to (xs : List D) (k : Nat) : cutD xs none (some (k : Int)) = xs.take k := by
  unfold cutD
  rw [HT.sIx_none, HT.sIx_nat, List.drop_zero, Nat.sub_zero, take_min']
theorem cutD_from (xs : List D) (k : Nat) : cutD xs (some (k : Int)) none = xs.drop k := by
  unfold cutD
  rw [HT.sIx_none, HT.sIx_nat, drop_min']
  refine List.take_of_length_le ?_
  rw [List.length_drop]
  omega
theorem cutD_at (xs : List D) (k j : Nat) : cutD xs (some (k : Int)) (some (j : Int)) = (xs.drop k).take (j - k) := by
  unfold cutD
  rw [HT.sIx_nat, HT.sIx_nat, drop_min']
  by_cases h : j ≤ xs.length
  · rw [Nat.min_eq_left h]
    by_cases h2 : k ≤ xs.length
    · rw [Nat.min_eq_left h2]
    · rw [List.drop_eq_nil_of_le (by omega)]
      simp
  · rw [Nat.min_eq_right (by omega)]
    rw [List.take_of_length_le (l := xs.drop k) (i := j - k) (by rw [List.length_drop]; omega)]
    refine List.take_of_length_le ?_
    rw [List.length_drop]
    omega
/-! ### loops that may end the function -/
theorem forRun_or {g : Store → Bool} {lg : LG} {body : LS} {items : List D} (P : Nat → DEnv → Store → Prop) (R : D → Store → Prop) (hg : ∀ i e s, P i e s → g s = true)
    (step : ∀ i d e s, items[i]? = some d → P i e s → ∃ e1 s1, lg d e s = .nx e1 s1 ∧ ((∃ e2 s2, body e1 s1 = .nx e2 s2 ∧ P (i + 1) e2 s2) ∨ ∃ z s2, body e1 s1 = .rt z s2 ∧ R z s2)) {env : DEnv} {st : Store} (h0 : P 0 env st) :
    (∃ e s, forRun g lg body items env st = .nx e s ∧ P items.length e s) ∨ ∃ z s, forRun g lg body items env st = .rt z s ∧ R z s := by
  have key : ∀ (ds : List D) (i : Nat) (e : DEnv) (s : Store), items.drop i = ds → i ≤ items.length → P i e s → (∃ e' s', forRun g lg body ds e s = .nx e' s' ∧ P items.length e' s') ∨ ∃ z s', forRun g lg body ds e s = .rt z s' ∧ R z s' := fun ds => by
    induction ds with
    | nil =>
      intro i e s hd hl hp
      have hi : i = items.length := by
        have := congrArg List.length hd
        simp at this
        omega
      subst hi
      exact .inl ⟨e, s, forRun_nil (hg _ e s hp), hp⟩
    | cons d ds ih =>
      intro i e s hd hl hp
      have hlt : i < items.length := by
        have := congrArg List.length hd
        simp at this
        omega
      have e1 : items[i]? = some d := by
        have : (items.drop i)[0]? = some d := by rw [hd]; rfl
        simpa using this
      obtain ⟨ea, sa, h1, h2⟩ := step i d e s e1 hp
      rcases h2 with ⟨eb, sb, h2, h3⟩ | ⟨z, sb, h2, h3⟩
      · rw [forRun_cons (hg i e s hp) h1 (.inl h2)]
        refine ih (i + 1) eb sb ?_ hlt h3
        have : (items.drop i).drop 1 = ds := by rw [hd]; rfl
        rw [← this, List.drop_drop]
      · exact .inr ⟨z, sb, forRun_rt (hg i e s hp) h1 h2, h3⟩
  exact key items 0 env st (by simp) (Nat.zero_le _) h0
/-- the first that is found; the store stays -/
theorem forRun_find {g : Store → Bool} {lg : LG} {body : LS} {st : Store} (hg : g st = true) (P : DEnv → Prop) (r : D → Option D) : ∀ {items : List D},
    (∀ d ∈ items, ∀ e, P e → ∃ e1, lg d e st = .nx e1 st ∧ match r d with
      | some z => body e1 st = .rt z st
      | none => ∃ e2, body e1 st = .nx e2 st ∧ P e2) → ∀ {env : DEnv}, P env → match items.findSome? r with
      | some z => forRun g lg body items env st = .rt z st
      | none => ∃ e2, forRun g lg body items env st = .nx e2 st ∧ P e2
  | [], _, env, p => ⟨env, forRun_nil hg, p⟩
  | d :: ds, h, env, p => by
    obtain ⟨e1, h1, h2⟩ := h d List.mem_cons_self env p
    rw [List.findSome?_cons]
    cases q : r d with
    | some z =>
      rw [q] at h2
      exact forRun_rt hg h1 h2
    | none =>
      rw [q] at h2
      obtain ⟨e2, h3, h4⟩ := h2
      dsimp only
      rw [forRun_cons hg h1 (.inl h3)]
      exact forRun_find hg P r (fun x hx => h x (List.mem_cons_of_mem _ hx)) h4
theorem insU_len (a : Int) : ∀ l : List Int, (insU a l).length ≤ l.length + 1
  | [] => by simp [insU]
  | b :: l => by
    have ih := insU_len a l
    unfold insU
    by_cases c : a < b
    · rw [if_pos c]; simp
    · rw [if_neg c]
      by_cases c2 : a = b
      · rw [if_pos c2]; simp
      · rw [if_neg c2, List.length_cons, List.length_cons]
        omega
theorem sortU_len : ∀ l : List Int, (sortU l).length ≤ l.length
  | [] => by simp [sortU]
  | a :: l => by
    have := insU_len a (sortU l)
    have := sortU_len l
    show (insU a (sortU l)).length ≤ l.length + 1
    omega
end Fk
/-! FkV: defs with defaults, calls by keyword. -/
namespace Fk
open PySem PySem.Spec PyProof.Rows L2
abbrev PKf (X : Cx) (T : List (Addr × Str)) (E : XK) (kws : List Keyword) (f : LA) : Prop := PK X kws (tOf X.K T E Dats f)
/-- as FoP; behind the n written values stand defaults -/
structure FoPd (P : Program) (w : World) (K : PySem.W.Frag) (mg : Str → Option Value) (base : Heap) (T : List (Addr × Str)) (j : Nat) (a : Str × Option Str) (n : Nat) (dd : List D) (f : FM) : Prop where
  ex : ∃ (fd : FuncData) (ps : List Str) (dvs : List V) (ds : List Value), FnOk P w K mg base (L2.CX P w) j (He.fAd K a) fd ps (spOf K T (n + dd.length) f) ∧ Binds K fd ps ds ∧ Vals dvs ds ∧ ∀ wd : Wd, Dats wd dvs dd
  kp : PySem.W.keepIn K (.ref (He.fAd K a)) = true
/-- as FoP; behind n written values stand those that are named -/
structure FoPk (P : Program) (w : World) (K : PySem.W.Frag) (mg : Str → Option Value) (base : Heap) (T : List (Addr × Str)) (j : Nat) (a : Str × Option Str) (n : Nat) (ks : List Str) (f : FM) : Prop where
  ex : ∃ (fd : FuncData) (ps : List Str), FnOk P w K mg base (L2.CX P w) j (He.fAd K a) fd ps (spOf K T (n + ks.length) f) ∧ KBn K fd ps n ks (fun us ws => us ++ ws) (fun vs zs => vs ++ zs)
  kp : PySem.W.keepIn K (.ref (He.fAd K a)) = true
section
variable {P : Program} {w : World} {K : PySem.W.Frag} {mg : Str → Option Value} {base : Heap} {T : List (Addr × Str)} {name qual : Str} {params : Arguments} {body : List Stmt} {scope : Scope} {kws : List (Str × V)} {f : Addr} {fd : FuncData} {N ps : List Str} {k j n : Nat} {fb : LS} {a : Str × Option Str}
theorem fo_defD {fm : FM} (F : FunD K name qual params body scope [] kws (He.fAd K a) fd) (F1 : FnOk P w K mg base (L2.CX P w) j (He.fAd K a) fd ps (spOf K T ps.length fm)) (n : Nat) (dd : List D) (hk : kws ≠ []) (hn : n + kws.length = ps.length) (hd : ∀ wd : Wd, Dats wd (kws.map (·.2)) dd)
    (hb : ∀ (D : Addr) (doc pm : Value) (an : Option Addr) (cdv ct : Value) (us ks : List Value), us.length = n → ks.length = kws.length →
      KwChain D ((kws.map (·.1)).zip ks) (bindArgs (PySem.W.fnOf name qual params body scope .none (.ref D) doc pm an cdv ct) ⟨us, []⟩) (ps.zip (us ++ ks))) : FoPd P w K mg base T j a n dd fm := by
  obtain ⟨ds, r, b⟩ := F.binds0 n hk hn hb
  have hl : kws.length = dd.length := by
    have := (hd ⟨fun _ => none, [], fun _ => none⟩).length
    simpa using this
  refine ⟨⟨fd, ps, _, ds, ?_, b, r, hd⟩, F.kp⟩
  rw [← hl, hn]
  exact F1
theorem fo_defK {fm : FM} (F : FunD K name qual params body scope [] kws (He.fAd K a) fd) (F1 : FnOk P w K mg base (L2.CX P w) j (He.fAd K a) fd ps (spOf K T ps.length fm)) (n : Nat) (ks : List Str) (hk : kws ≠ []) (hn : n + ks.length = ps.length)
    (hb : ∀ (D : Addr) (doc pm : Value) (an : Option Addr) (cdv ct : Value) (us mv ws : List Value), us.length = n → mv.length = ([] : List (Str × V)).length → ws.length = ks.length →
      KwChain D ((([] : List (Str × V)).map (·.1)).zip mv) (bindArgs (PySem.W.fnOf name qual params body scope .none (.ref D) doc pm an cdv ct) ⟨us, ks.zip ws⟩) (ps.zip (us ++ ws))) : FoPk P w K mg base T j a n ks fm := by
  obtain ⟨mv, b⟩ := F.kbinds0 n ks [] (fun us mv ws => us ++ ws) hk (fun q h => nomatch h) (fun r1 _ r3 => r1.append r3) hb
  refine ⟨⟨fd, ps, ?_, b⟩, F.kp⟩
  rw [hn]
  exact F1
end
/-! ### calls -/
def fCallD (n : Nat) (dd : List D) (fm : FM) (g : LA) : LE := fun env st => (g env st).bind fun ds st1 => if ds.length = n then fm (ds ++ dd) st1 else .stuck
def fCallK (n m : Nat) (fm : FM) (g h : LA) : LE := fun env st => (g env st).bind fun ds st1 => (h env st1).bind fun es st2 => if ds.length = n ∧ es.length = m then fm (ds ++ es) st2 else .stuck
section
variable {X : Cx} {T : List (Addr × Str)} {E : XK} {pos p apos kpos : Pos} {x m c : Str} {nm : Option Str} {j k n : Nat} {dd : List D} {ks : List Str} {fm : FM} {g h : LA} {e o : Expr} {es : List Expr} {kws : List Keyword} {fa : LE}
theorem x_knil : PKf X T E [] fNil := by
  refine ⟨fun pos pins s σ H Q I h => ?_⟩
  obtain ⟨w, env, st, he, r, p⟩ := h
  exact pk_nil.run pos pins s σ H Q I (p.here r .nil)
theorem x_kcons (ha : PEf X T E e fa) (hr : PKf X T E kws g) : PKf X T E (⟨nm, e, kpos⟩ :: kws) (fCons fa g) := by
  refine ⟨fun pos pins s σ H Q I h => ?_⟩
  obtain ⟨w, env, st, he, r, p⟩ := h
  refine (pk_cons ha hr).run pos pins s σ H Q I ?_
  refine ⟨w, env, st, he, r, p.bind fun w1 v H1 d st1 s1 r1 dx p1 => ?_⟩
  refine ⟨w1, env, st1, he.mono s1.le, r1, p1.bind fun w2 vs H2 ds st2 s2 r2 dv p2 => ?_⟩
  exact p2.here r2 (.cons (dx.mono s2.le) dv)
theorem x_callD (F : FoPd X.prog X.w X.K X.mg X.base T j (x, none) n dd fm) (hr : Room k X.A) (px : Passes (L2.CX X.prog X.w) X E) (hm : X.mg x = some (.ref (He.ga X.K x))) (ha : PAf X T E (e :: es) g) (hjk : j ≤ k := by decide) (hg : Gl X x := by rfl)
    (hdb : (x == ("__debug__" : Str)) = false := by decide) (he : starEach (e :: es) X.env = (false, eval e X.env) :: starEach es X.env := by rfl) (hpl : (backTo pos (starEach es X.env)).any (·.1) = false := by rfl) :
    PEf X T E (.Call (.Name x p) (e :: es) [] pos) (fCallD n dd fm g) := by
  obtain ⟨⟨fd, ps, dvs, ds, F1, b, rv, hd⟩, kp⟩ := F
  refine pe_to (pe_call F1 (hr.mono hjk) hg hm kp b rv px ha hdb he hpl) fun w σ H env st Q he r p => ?_
  refine ⟨w, env, st, he, r, p.bind fun w1 vs H1 ds st1 s1 r1 dv p1 => ?_⟩
  by_cases q : ds.length = n
  · rw [if_pos q] at p1
    have dv2 := dv.append (hd w1)
    exact ⟨by rw [dv2.length, List.length_append, q], w1, _, st1, dv2, r1, p1⟩
  · rw [if_neg q] at p1
    exact p1.elim
theorem x_callK (F : FoPk X.prog X.w X.K X.mg X.base T j (x, none) n ks fm) (hr : Room k X.A) (px : Passes (L2.CX X.prog X.w) X E) (hm : X.mg x = some (.ref (He.ga X.K x))) (ha : PAf X T E (e :: es) g) (hkw : PKf X T E kws h)
    (hks : (backToKw pos (keywordEach kws X.env)).filterMap (·.1) = ks := by rfl) (hjk : j ≤ k := by decide) (hall : (backToKw pos (keywordEach kws X.env)).all (·.1.isSome) = true := by rfl) (hg : Gl X x := by rfl)
    (hdb : (x == ("__debug__" : Str)) = false := by decide) (he : starEach (e :: es) X.env = (false, eval e X.env) :: starEach es X.env := by rfl)
    (hpl : ((backTo pos (starEach (e :: es) X.env)).any (·.1) || (backToKw pos (keywordEach kws X.env)).any (·.1.isNone)) = false := by rfl) :
    PEf X T E (.Call (.Name x p) (e :: es) kws pos) (fCallK n ks.length fm g h) := by
  obtain ⟨⟨fd, ps, F1, b⟩, kp⟩ := F
  refine pe_to (pe_callN F1 (hr.mono hjk) hg hm kp b px ha hkw hall hks hdb he hpl) fun w σ H env st Q he r p => ?_
  refine ⟨w, env, st, he, r, p.bind fun w1 vs H1 ds st1 s1 r1 dv p1 => ?_⟩
  refine ⟨w1, env, st1, he.mono s1.le, r1, p1.bind fun w2 zs H2 es st2 s2 r2 dz p2 => ?_⟩
  by_cases q : ds.length = n ∧ es.length = ks.length
  · rw [if_pos q] at p2
    have dv2 := (dv.mono s2.le).append dz
    exact ⟨by rw [dv.length, q.1], by rw [dz.length, q.2], by rw [dv2.length, List.length_append, q.1, q.2], w2, _, st2, dv2, r2, p2⟩
  · rw [if_neg q] at p2
    exact p2.elim
end
/-! ### evaluated -/
def kCallD (n : Nat) (dd : List D) (fm : FM) : List D → Store → Res D := fun ds st1 => if ds.length = n then fm (ds ++ dd) st1 else .stuck
@[simp] theorem fCallD_eq (n : Nat) (dd : List D) (fm : FM) (g : LA) (env : DEnv) (st : Store) : fCallD n dd fm g env st = (g env st).bind (kCallD n dd fm) := (rfl)
@[simp] theorem kCallD_1 (dd : List D) (fm : FM) (a : D) (st : Store) : kCallD 1 dd fm [a] st = fm (a :: dd) st := (rfl)
@[simp] theorem kCallD_2 (dd : List D) (fm : FM) (a b : D) (st : Store) : kCallD 2 dd fm [a, b] st = fm (a :: b :: dd) st := (rfl)
def kCallK1 (n m : Nat) (fm : FM) (h : LA) (env : DEnv) : List D → Store → Res D := fun ds st1 => (h env st1).bind fun es st2 => if ds.length = n ∧ es.length = m then fm (ds ++ es) st2 else .stuck
def kCallK2 (n m : Nat) (fm : FM) (ds : List D) : List D → Store → Res D := fun es st2 => if ds.length = n ∧ es.length = m then fm (ds ++ es) st2 else .stuck
@[simp] theorem fCallK_eq (n m : Nat) (fm : FM) (g h : LA) (env : DEnv) (st : Store) : fCallK n m fm g h env st = (g env st).bind (kCallK1 n m fm h env) := (rfl)
@[simp] theorem kCallK1_eq (n m : Nat) (fm : FM) (h : LA) (env : DEnv) (ds : List D) (st : Store) : kCallK1 n m fm h env ds st = (h env st).bind (kCallK2 n m fm ds) := (rfl)
@[simp] theorem kCallK2_21 (fm : FM) (a b c : D) (st : Store) : kCallK2 2 1 fm [a, b] [c] st = fm [a, b, c] st := (rfl)
@[simp] theorem kCallK2_11 (fm : FM) (a c : D) (st : Store) : kCallK2 1 1 fm [a] [c] st = fm [a, c] st := (rfl)
end Fk
namespace Fk
open PySem PySem.Spec PyProof.Rows L2
theorem Fx.exc {fa : List He.Fa} {fn : List He.DefD} {tb : List TbD} {w : World} {K : PySem.W.Frag} {mg : Str → Option Value} (z : Fx fa fn tb w K mg) {x : Str} (i : Nat) (h : fa[i]? = some (.exc x) := by rfl) : PySem.W.excIn K (He.ga K x) He.veBase "ValueError.__new__" = true ∧ PySem.W.keepIn K (.ref (He.ga K x)) = true ∧ PySem.W.subIn K (.ref (He.ga K x)) (.type "BaseException") = some true ∧ PySem.W.typeIn K (.ref (He.ga K x)) = some (.type "type") := by
  obtain ⟨_, X, G, c⟩ := z
  exact He.exc_ok (c.d.fact i h)
end Fk
/-! FkW: in, of lists; comprehensions with two clauses; evaluated. -/
namespace Fk
open PySem PySem.Spec PyProof.Rows L2
theorem any_eqv {d : D} {a : PyData} (hd : D.py d = some a) : ∀ {xs : List D} {ys : List PyData}, D.pys xs = some ys → (ys.any fun z => PyData.eqv z a) = xs.any fun z => eqD z d
  | [], ys, h => by cases (show some [] = some ys from h); rfl
  | x :: xs, ys, h => by
    have h' : (match D.py x, D.pys xs with
      | some a, some b => some (a :: b)
      | _, _ => none) = some ys := h
    cases q1 : D.py x with
    | none => rw [q1] at h'; cases h'
    | some b =>
      cases q2 : D.pys xs with
      | none => rw [q1, q2] at h'; cases h'
      | some bs =>
        rw [q1, q2] at h'
        cases h'
        rw [List.any_cons, List.any_cons, any_eqv hd q2, eqv_D x d b a q1 hd]
theorem oIn_any {e d : D} {xs : List D} {st : Store} (he : (e = .lst xs) ∨ ∃ k, e = .ref k ∧ st[k]? = some (.lst xs)) (h1 : rdyD d = true) (h2 : rdyDs xs = true) (h3 : depD d ≤ 64) (h4 : depDs xs ≤ 63) (neg : Bool) :
    oIn neg d e st = .ok (.bl (if neg then !(xs.any fun z => eqD z d) else xs.any fun z => eqD z d)) st := by
  obtain ⟨a, p1, p2, p3⟩ := rdy_py d h1
  obtain ⟨ys, q1, q2, q3⟩ := rdys_py xs h2
  have hr : rdyD (.lst xs) = true := by simpa [rdyD] using h2
  have hdp : depD (.lst xs) ≤ 64 := by simp only [depD]; omega
  obtain ⟨b, b1, b2, b3⟩ := rdy_py (.lst xs) hr
  have hb : b = .list ys := by
    have e : D.py (.lst xs) = (D.pys xs).map PyData.list := rfl
    rw [e, q1] at b1
    cases b1
    rfl
  subst hb
  have s1 : SeqAt.shaped a = true := by unfold SeqAt.shaped; simp [p2, p3, h3]
  have s2 : SeqAt.shaped (.list ys) = true := by unfold SeqAt.shaped; simp [b2, b3, hdp]
  have key : ∀ g : PyData → PyData → Res D, py2 d (.lst xs) st g = g a (.list ys) := fun g => by
    unfold py2
    rw [topOf_rdy h1, topOf_rdy hr, p1, b1]
    exact if_pos ⟨s1, s2⟩
  have fin : (py2 d (.lst xs) st fun a b => (match b with
      | .list bs => .ok (.bl (if neg then !(bs.any fun z => PyData.eqv z a) else bs.any fun z => PyData.eqv z a)) st
      | _ => .stuck)) = Res.ok (.bl (if neg then !(xs.any fun z => eqD z d) else xs.any fun z => eqD z d)) st := by
    rw [key]
    show Res.ok (D.bl (if neg then !(ys.any fun z => PyData.eqv z a) else ys.any fun z => PyData.eqv z a)) st = _
    rw [any_eqv p1 q1]
  rcases he with rfl | ⟨k, rfl, hk⟩
  · exact fin
  · unfold oIn
    dsimp only
    rw [topOf_ref hk]
    exact fin
theorem eqD_tups (a b : List Int) : eqD (.tup (a.map D.int)) (.tup (b.map D.int)) = decide (a = b) := by
  have e : ∀ a b : List Int, eqDs (a.map D.int) (b.map D.int) = decide (a = b) := fun a => by
    induction a with
    | nil => intro b; cases b <;> simp [eqDs]
    | cons x a ih =>
      intro b
      cases b with
      | nil => simp [eqDs]
      | cons y b =>
        simp only [List.map_cons, eqDs, ih, eqD]
        by_cases h : x = y <;> by_cases h2 : a = b <;> simp [h, h2]
  simp only [eqD]
  exact e a b
theorem rdy_tupI (a : List Int) : rdyD (.tup (a.map D.int)) = true ∧ depD (.tup (a.map D.int)) ≤ 1 ∧ clrD (.tup (a.map D.int)) = true := by
  refine ⟨?_, ?_, ?_⟩
  · simp only [rdyD]
    exact rdyDs_all.mpr fun x hx => by obtain ⟨y, _, rfl⟩ := List.mem_map.mp hx; simp [rdyD]
  · simp only [depD]
    have : depDs (a.map D.int) ≤ 0 := depDs_le.mpr fun x hx => by obtain ⟨y, _, rfl⟩ := List.mem_map.mp hx; simp [depD]
    omega
  · simp only [clrD]
    exact clrDs_all.mpr fun x hx => by obtain ⟨y, _, rfl⟩ := List.mem_map.mp hx; simp [clrD]
theorem rdy_tups (l : List (List Int)) : rdyDs (l.map fun a => D.tup (a.map D.int)) = true ∧ depDs (l.map fun a => D.tup (a.map D.int)) ≤ 1 ∧ clrDs (l.map fun a => D.tup (a.map D.int)) = true :=
  ⟨rdyDs_all.mpr fun x hx => by obtain ⟨y, _, rfl⟩ := List.mem_map.mp hx; exact (rdy_tupI y).1, depDs_le.mpr fun x hx => by obtain ⟨y, _, rfl⟩ := List.mem_map.mp hx; exact (rdy_tupI y).2.1, clrDs_all.mpr fun x hx => by obtain ⟨y, _, rfl⟩ := List.mem_map.mp hx; exact (rdy_tupI y).2.2⟩
theorem any_tups (a : List Int) : ∀ l : List (List Int), ((l.map fun a => D.tup (a.map D.int)).any fun z => eqD z (.tup (a.map D.int))) = decide (a ∈ l)
  | [] => by simp
  | b :: l => by
    rw [List.map_cons, List.any_cons, any_tups a l, eqD_tups]
    by_cases h : b = a
    · simp [h]
    · have h' : ¬ a = b := fun z => h z.symm
      simp [h, h']
/-- a tuple of ints in a list of such -/
theorem oIn_tups {e : D} {l : List (List Int)} {st : Store} (he : (e = .lst (l.map fun a => D.tup (a.map D.int))) ∨ ∃ k, e = .ref k ∧ st[k]? = some (.lst (l.map fun a => D.tup (a.map D.int)))) (a : List Int) (neg : Bool) :
    oIn neg (.tup (a.map D.int)) e st = .ok (.bl (if neg then !decide (a ∈ l) else decide (a ∈ l))) st := by
  obtain ⟨r1, r2, _⟩ := rdy_tupI a
  obtain ⟨l1, l2, _⟩ := rdy_tups l
  rw [oIn_any he r1 l1 (by omega) (by omega)]
  rw [any_tups]
/-! ### comprehensions with two clauses -/
def kLc2 (lg : LG) (ft : LT) (fi1 : LI) (lg1 : LG) (ft1 : LT) (fe : LE) (vs1 : List Nat) (envw : DEnv) : IT → Store → Res D := fun it st1 => (noex (lc2Run it.2 lg ft fi1 lg1 ft1 fe vs1 envw it.1 st1)).bind fun ys st2 => if ys.length ≤ lim then .ok (.lst ys) st2 else .stuck
@[simp] theorem fLc2_eq (fi : LI) (lg : LG) (ft : LT) (fi1 : LI) (lg1 : LG) (ft1 : LT) (fe : LE) (vs vs1 : List Nat) (env : DEnv) (st : Store) : fLc2 fi lg ft fi1 lg1 ft1 fe vs vs1 env st = (fi env st).bind (kLc2 lg ft fi1 lg1 ft1 fe vs1 (wipeD env vs)) := (rfl)
theorem kLc2_of {lg : LG} {ft : LT} {fi1 : LI} {lg1 : LG} {ft1 : LT} {fe : LE} {vs1 : List Nat} {envw : DEnv} {it : IT} {st st2 : Store} {ys : List D} (h : lc2Run it.2 lg ft fi1 lg1 ft1 fe vs1 envw it.1 st = .ok ys st2) (hl : ys.length ≤ lim) : kLc2 lg ft fi1 lg1 ft1 fe vs1 envw it st = .ok (.lst ys) st2 := by
  unfold kLc2
  rw [h]
  exact if_pos hl
theorem lc2Run_pure {lg : LG} {ft : LT} {fi1 : LI} {lg1 : LG} {ft1 : LT} {fe : LE} {vs1 : List Nat} {envw : DEnv} {g : Store → Bool} {st : Store} (hg : g st = true) : ∀ {items : List D} (t : D → Bool) (parts : D → List D) (φ : D → D → D),
    (∀ d ∈ items, ∃ e1, lg d envw st = .nx e1 st ∧ ft e1 st = .ok (t d) st ∧ (t d = true → (∃ g1 : Store → Bool, g1 st = true ∧ fi1 e1 st = .ok (parts d, g1) st) ∧ ∀ x ∈ parts d, ∃ e2, lg1 x (wipeD e1 vs1) st = .nx e2 st ∧ ft1 e2 st = .ok true st ∧ fe e2 st = .ok (φ d x) st)) →
    lc2Run g lg ft fi1 lg1 ft1 fe vs1 envw items st = .ok ((items.filter t).flatMap fun d => (parts d).map (φ d)) st
  | [], t, parts, φ, _ => by rw [lc2Run, if_pos hg]; rfl
  | d :: ds, t, parts, φ, h => by
    obtain ⟨e1, h1, h2, h3⟩ := h d List.mem_cons_self
    have ih := lc2Run_pure (lg := lg) (ft := ft) (fi1 := fi1) (lg1 := lg1) (ft1 := ft1) (fe := fe) (vs1 := vs1) (envw := envw) hg (items := ds) t parts φ fun x hx => h x (List.mem_cons_of_mem _ hx)
    rw [lc2Run, if_pos hg, h1]
    dsimp only
    rw [h2]
    cases q : t d with
    | false =>
      rw [List.filter_cons, if_neg (by rw [q]; decide)]
      exact ih
    | true =>
      obtain ⟨⟨g1, hg1, h4⟩, h5⟩ := h3 q
      have h6 := lcRun_map (g := g1) (lg := lg1) (ft := ft1) (fe := fe) (envw := wipeD e1 vs1) (st := st) hg1 (items := parts d) (φ d) h5
      rw [List.filter_cons, if_pos q, List.flatMap_cons]
      show ((noex (fi1 e1 st)).bind _) = _
      rw [h4]
      show ((lcRun g1 lg1 ft1 fe (wipeD e1 vs1) (parts d) st).bind _) = _
      rw [h6]
      show ((lc2Run g lg ft fi1 lg1 ft1 fe vs1 envw ds st).bind _) = _
      rw [ih]
      rfl
@[simp] theorem fRaise_eq (c : Str) (env : DEnv) (st : Store) : fRaise c env st = .ex ⟨c, none⟩ env st := (rfl)
end Fk
/-! FkX: xs[::k] of lists, k 1 or -1; list * int. -/
namespace Fk
open PySem PySem.Spec PyProof.Rows L2
theorem pick_all (its : List Value) : slicePick its.toArray none none (some 1) = its.toArray := by
  unfold slicePick
  have hb : sliceBounds none none (some 1) its.toArray.size = (0, (its.length : Int), 1) := by simp [sliceBounds]
  rw [hb]
  dsimp only
  unfold sliceRange
  by_cases h : its = []
  · subst h
    rfl
  · have h0 : 0 < its.length := List.length_pos_iff.mpr h
    rw [if_pos (by decide), if_pos (by omega)]
    have e : (((its.length : Int) - 0 + 1 - 1) / 1).toNat = its.length := by omega
    dsimp only
    rw [e, List.filterMap_map]
    congr 1
    have : ∀ l : List Value, (List.range l.length).filterMap (fun k => l[k]?) = l := fun l => by
      induction l with
      | nil => rfl
      | cons a l ih =>
        rw [List.length_cons, List.range_succ_eq_map, List.filterMap_cons]
        simp only [List.getElem?_cons_zero]
        rw [List.filterMap_map]
        congr 1
    refine Eq.trans ?_ (this its)
    congr 1
    funext k
    have : (0 + 1 * (k : Int)).toNat = k := by omega
    show its.toArray[(0 + 1 * (k : Int)).toNat]? = its[k]?
    rw [this]
    simp
theorem fm_congr {α β : Type} {f g : α → Option β} : ∀ {l : List α}, (∀ k ∈ l, f k = g k) → l.filterMap f = l.filterMap g
  | [], _ => rfl
  | a :: l, h => by rw [List.filterMap_cons, List.filterMap_cons, h a List.mem_cons_self, fm_congr fun k hk => h k (List.mem_cons_of_mem _ hk)]
theorem pick_back (its : List Value) : slicePick its.toArray none none (some (-1)) = its.reverse.toArray := by
  unfold slicePick
  have hb : sliceBounds none none (some (-1)) its.toArray.size = ((its.length : Int) - 1, -1, -1) := by simp [sliceBounds]
  rw [hb]
  dsimp only
  unfold sliceRange
  by_cases h : its = []
  · subst h
    rfl
  · have h0 : 0 < its.length := List.length_pos_iff.mpr h
    rw [if_neg (by decide), if_pos (by omega)]
    have e : (((its.length : Int) - 1 - -1 - -1 - 1) / (- -1)).toNat = its.length := by
      have : (its.length : Int) - 1 - -1 - -1 - 1 = its.length := by omega
      rw [this]
      simp
    dsimp only
    rw [e, List.filterMap_map]
    congr 1
    refine List.ext_getElem? fun i => ?_
    have key : ∀ n, n ≤ its.length → (List.range n).filterMap (fun k => its[its.length - 1 - k]?) = (its.drop (its.length - n)).reverse := fun n => by
      induction n with
      | zero => intro _; simp
      | succ n ih =>
        intro hn
        rw [List.range_succ, List.filterMap_append, ih (by omega)]
        have hl : its.length - 1 - n < its.length := by omega
        rw [show its.length - (n + 1) = its.length - 1 - n by omega, List.drop_eq_getElem_cons hl, List.reverse_cons]
        rw [show its.length - 1 - n + 1 = its.length - n by omega]
        congr 1
        rw [List.filterMap_cons, List.getElem?_eq_getElem hl]
        rfl
    have k2 := key its.length (Nat.le_refl _)
    rw [Nat.sub_self, List.drop_zero] at k2
    rw [← k2]
    congr 1
    refine fm_congr fun k hk => ?_
    have hk2 : k < its.length := List.mem_range.mp hk
    have : ((its.length : Int) - 1 + -1 * (k : Int)).toNat = its.length - 1 - k := by omega
    show its.toArray[((its.length : Int) - 1 + -1 * (k : Int)).toNat]? = its[its.length - 1 - k]?
    rw [this]
    simp
def tSlS (K : PySem.W.Frag) (te ts : TE) : TE := fun σ H Q => te σ H fun x H1 => ts σ H1 fun y H2 => ∃ a xs k, x = .ref a ∧ y = .int k ∧ SqL K H2 a xs ∧ ((k = 1 ∧ ∀ p, H2 p = none → Q (.ref p) (upd H2 p (.lst xs))) ∨ (k = -1 ∧ ∀ p, H2 p = none → Q (.ref p) (upd H2 p (.lst xs.reverse))))
theorem pe_slS {X : Cx} {e c : Expr} {te ts : TE} {pos p2 : Pos} (he : PE X e te) (hc : PE X c ts) : PE X (.Subscript e (.Slice none none (some c) p2) pos) (tSlS X.K te ts) := by
  refine ⟨fun pins s σ H Q I h => ?_⟩
  refine Subscript_ (thn (he.run pins s σ H _ I h) fun v s1 ⟨x, H1, I1, r1, q1⟩ => ?_)
  refine wpAny_Slice ?_
  rw [evalPart_none]
  refine wpAny_pure ?_
  refine wpAny_pure ?_
  rw [evalPart_some]
  refine thn (hc.run pins s1 σ H1 _ I1 q1) fun vs s2 ⟨y, H2, I2, r2, q2⟩ => ?_
  obtain ⟨a, xs, k, rfl, rfl, hx, q⟩ := q2
  cases r1
  obtain ⟨t, rfl⟩ := r2
  obtain ⟨its, r, ht, hz⟩ := I2.list hx
  have hlen := r.length
  have I4 : Inv X pins σ H2 { s2 with heap := s2.heap.push { cls := .type "slice", data := .fields #[.none, .none, .int k t] } } := I2.kept (t' := s2.toks) fun b ob q => Heap.get?_push_of_some _ q
  have ht4 := ht
  obtain ⟨its4, r4, ht4, hz4⟩ := I4.list hx
  have hlen4 := r4.length
  show wpAny (model X.prog X.w) X.A (subscriptTail e (.Slice none none (some c) p2) (.ref a) (.ref s2.heap.objs.size)) (EP X pins σ Q) X.xe { s2 with heap := s2.heap.push { cls := .type "slice", data := .fields #[.none, .none, .int k t] } }
  refine tail_any (ops := [.ref a, .ref s2.heap.objs.size]) ht4.isList.typeIs slot_list_getitem.lookup ?_ (by with_unfolding_all rfl)
  have hk : k = 1 ∨ k = -1 := by
    rcases q with ⟨h, _⟩ | ⟨h, _⟩
    · exact .inl h
    · exact .inr h
  refine wpAny_getItem_list_slice ht4.isList (Heap.IsSliceOf.new ..) .none .none (.int k t) (by rcases hk with h | h <;> (rw [h]; decide)) ?_ (by rw [List.size_toArray]; omega)
  have fin : ∀ (ys : List V) (us : List Value), Vals ys us → ys.length ≤ sizeLine → (∀ p, H2 p = none → Q (.ref p) (upd H2 p (.lst ys))) → EP X pins σ Q (.ref ((s2.heap.push { cls := .type "slice", data := .fields #[.none, .none, .int k t] } : Heap).objs.size)) { s2 with heap := (s2.heap.push { cls := .type "slice", data := .fields #[.none, .none, .int k t] } : Heap).push { cls := .type "list", data := .seq us.toArray } } := fun ys us ry hy hq => by
    refine ⟨.ref _, _, I4.laid (t' := s2.toks) (o := .lst ys) (fun b ob q => Heap.get?_push_of_some _ q) (Nat.le_refl _) ?_, rfl, hq _ (I4.hok.fresh (Nat.le_refl _))⟩
    exact ⟨hy, us, 0, ry, Heap.get?_push_size _ rfl⟩
  rcases q with ⟨rfl, q⟩ | ⟨rfl, q⟩
  · rw [pick_all]
    exact fin xs its4 r4 hz4 q
  · rw [pick_back]
    exact fin xs.reverse its4.reverse r4.reverse (by rw [List.length_reverse]; exact hz4) q
def fSlS (fa fs : LE) : LE := fun env st => (fa env st).bind fun d st1 => (fs env st1).bind fun e st2 => match rdOf d st2, e with
  | some xs, .int k => if k = 1 then .ok (.lst xs) st2 else if k = -1 then .ok (.lst xs.reverse) st2 else .stuck
  | _, _ => .stuck
section
variable {X : Cx} {T : List (Addr × Str)} {E : XK} {a b c : Expr} {fa fb fs : LE} {pos p2 : Pos} {K : PySem.W.Frag}
theorem x_slS (ha : PEf X T E a fa) (hs : PEf X T E c fs) : PEf X T E (.Subscript a (.Slice none none (some c) p2) pos) (fSlS fa fs) := pe_to (pe_slS ha hs) fun w σ H env st Q e r p => by
  refine ⟨w, env, st, e, r, p.bind fun w1 x H1 d st1 s1 r1 dx p1 => ?_⟩
  refine ⟨w1, env, st1, e.mono s1.le, r1, p1.bind fun w2 y H2 k st2 s2 r2 dy p2 => ?_⟩
  cases q : rdOf d st2 with
  | none => rw [q] at p2; exact p2.elim
  | some ds =>
    obtain ⟨l, vs, e1, h1, h2⟩ := rd_at r2 (dx.mono s2.le) q
    rw [q] at p2
    cases dy with
    | int k =>
      have p3 : Post X.K T E Dat w2 H2 (if k = 1 then .ok (.lst ds) st2 else if k = -1 then .ok (.lst ds.reverse) st2 else .stuck) Q := p2
      refine ⟨l, vs, k, e1, rfl, h1, ?_⟩
      by_cases c1 : k = 1
      · rw [if_pos c1] at p3
        exact .inl ⟨c1, p3.newL r2 h2⟩
      · rw [if_neg c1] at p3
        by_cases c2 : k = -1
        · rw [if_pos c2] at p3
          exact .inr ⟨c2, p3.newL r2 h2.reverse⟩
        · rw [if_neg c2] at p3
          exact p3.elim
    | _ => exact p2.elim
/-- list * int -/
def oMulL : O2 := fun d e st => match lstOf d st, e with
  | some a, .int k => if -(2 ^ 63) ≤ k ∧ k < 2 ^ 63 ∧ a.length * k.toNat ≤ lim then .ok (.lst (List.replicate k.toNat a).flatten) st else .stuck
  | _, _ => .stuck
theorem sim_mulL : SimR2 K T rRep oMulL := fun E w H st x y d e Q r dx dy p => by
  cases q : lstOf d st with
  | none => unfold oMulL at p; rw [q] at p; exact p.elim
  | some ds =>
    unfold oMulL at p
    rw [q] at p
    obtain ⟨l, vs, e1, h1, h2⟩ := lst_at r dx q
    cases dy with
    | int k =>
      have p3 : Post K T E Dat w H (if -(2 ^ 63) ≤ k ∧ k < 2 ^ 63 ∧ ds.length * k.toNat ≤ lim then .ok (.lst (List.replicate k.toNat ds).flatten) st else .stuck) Q := p
      by_cases c : -(2 ^ 63) ≤ k ∧ k < 2 ^ 63 ∧ ds.length * k.toNat ≤ lim
      · rw [if_pos c] at p3
        exact ⟨l, k, vs, e1, rfl, h1, c.1, c.2.1, by rw [h2.length, lim_eq]; exact c.2.2, p3.newL r (h2.rep _)⟩
      · rw [if_neg c] at p3
        exact p3.elim
    | _ => exact p.elim
theorem x_mulL (ha : PEf X T E a fa) (hb : PEf X T E b fb) : PEf X T E (.BinOp a .Mult b pos) (fOp oMulL fa fb) := x_op op_rep sim_mulL ha hb
end
/-! ### evaluated -/
def kSlS1 (fs : LE) (env : DEnv) : D → Store → Res D := fun d st1 => (fs env st1).bind fun e st2 => match rdOf d st2, e with
  | some xs, .int k => if k = 1 then .ok (.lst xs) st2 else if k = -1 then .ok (.lst xs.reverse) st2 else .stuck
  | _, _ => .stuck
def kSlS2 (d : D) : D → Store → Res D := fun e st2 => match rdOf d st2, e with
  | some xs, .int k => if k = 1 then .ok (.lst xs) st2 else if k = -1 then .ok (.lst xs.reverse) st2 else .stuck
  | _, _ => .stuck
@[simp] theorem fSlS_eq (fa fs : LE) (env : DEnv) (st : Store) : fSlS fa fs env st = (fa env st).bind (kSlS1 fs env) := (rfl)
@[simp] theorem kSlS1_eq (fs : LE) (env : DEnv) (d : D) (st : Store) : kSlS1 fs env d st = (fs env st).bind (kSlS2 d) := (rfl)
@[simp] theorem kSlS2_1 (xs : List D) (st : Store) : kSlS2 (.lst xs) (.int 1) st = .ok (.lst xs) st := (rfl)
@[simp] theorem kSlS2_m (xs : List D) (st : Store) : kSlS2 (.lst xs) (.int (-1)) st = .ok (.lst xs.reverse) st := (rfl)
theorem oMulL_of {a : List D} {k : Int} (h : -(2 ^ 63) ≤ k ∧ k < 2 ^ 63 ∧ a.length * k.toNat ≤ lim) (st : Store) : oMulL (.lst a) (.int k) st = .ok (.lst (List.replicate k.toNat a).flatten) st := if_pos h
end Fk
/-! FkY: list.count, list.index of flat items; what a work tells, or the kind of its refusal. -/
namespace Fk
open PySem PySem.Spec PyProof.Rows L2
/-! ### list.count, list.index -/
def rCnt (K : PySem.W.Frag) : V → List V → Hp → VK → Prop := fun x xs H Q => ∃ (a : Addr) (ys : List V) (y : V), x = V.ref a ∧ xs = [y] ∧ SqL K H a ys ∧ flatV y = true ∧ ys.all flatV = true ∧ Q (.int ((ys.countP fun z => eqV z y : Nat) : Int)) H
theorem countP_vals {y : V} : ∀ {ys : List V} {us : List Value}, Vals ys us → ys.all flatV = true → us.countP (eqU y) = ys.countP fun z => eqV z y
  | [], _, .nil, _ => rfl
  | z :: zs, _, .cons (b := u) h r, f => by
    have f2 : flatV z = true ∧ zs.all flatV = true := by simpa using f
    rw [List.countP_cons, List.countP_cons, countP_vals r f2.2, eqU_of h f2.1]
theorem mt_cnt {X : Cx} : MtR X "list.count" (rCnt X.K) := by
  intro pins s σ H x xs v us Q I rx rxs h
  obtain ⟨a, ys, y, rfl, rfl, hs, fy, fys, q⟩ := h
  cases rx
  cases rxs with
  | cons ry rt =>
    rename_i uy ut
    cases rt
    obtain ⟨its, rv, ⟨⟨cls, dd, data, sl⟩, n, ho, hc, hdn, hd⟩, hlen⟩ := I.list hs
    simp only at hc hd
    subst hc hd
    refine call_meets PySem.F.slot_list_count ⟨_, ho, rfl⟩ PySem.F.entry_list_count (PySem.F.args_list_count_2 _ _)
      (SeqAt.list_countAt a its.toArray n dd sl uy (eqU y)) ⟨ho, fun u' hu' => mem_eqAt ry fy rv fys u' (by simpa using hu'), ?_⟩
    refine ⟨.int _, H, I.tok _, ⟨s.toks, ?_⟩, q⟩
    show Value.int ((its.toArray.toList.countP (eqU y) : Nat) : Int) s.toks = _
    rw [show its.toArray.toList = its by simp, countP_vals rv fys]
theorem countP_D {w : Wd} {y : V} {e : D} (hy : Dat w y e) (fy : flatD e = true) : ∀ {ys : List V} {ds : List D}, Dats w ys ds → ds.all flatD = true → (ys.countP fun z => eqV z y) = ds.countP fun z => eqFlat z e
  | _, _, .nil, _ => rfl
  | _, d :: ds, .cons h r, f => by
    have f2 : flatD d = true ∧ ds.all flatD = true := by simpa using f
    rw [List.countP_cons, List.countP_cons, countP_D hy fy r f2.2, eqFlat_V h hy f2.1 fy]
def oCnt : OM := fun d ds st => match rdOf d st, ds with
  | some xs, [e] => if flatD e = true ∧ xs.all flatD = true then .ok (.int ((xs.countP fun z => eqFlat z e : Nat) : Int)) st else .stuck
  | _, _ => .stuck
theorem sim_cnt {K : PySem.W.Frag} {T : List (Addr × Str)} : SimM K T (rCnt K) oCnt := fun E w H st x xs d ds Q r dx dv p => by
  unfold oCnt at p
  cases q : rdOf d st with
  | none => rw [q] at p; exact p.elim
  | some zs =>
    rw [q] at p
    obtain ⟨a, us, rfl, h1, h2⟩ := rd_at r dx q
    cases dv with
    | nil => exact p.elim
    | cons hy rest =>
      cases rest with
      | cons _ _ => exact p.elim
      | nil =>
        rename_i y e
        have p' : Post K T E Dat w H (if flatD e = true ∧ zs.all flatD = true then .ok (.int ((zs.countP fun z => eqFlat z e : Nat) : Int)) st else .stuck) Q := p
        by_cases c : flatD e = true ∧ zs.all flatD = true
        · rw [if_pos c] at p'
          refine ⟨a, us, y, rfl, rfl, h1, flat_D hy c.1, flat_Ds h2 c.2, ?_⟩
          rw [countP_D hy c.1 h2 c.2]
          exact p'.here r (.int _)
        · rw [if_neg c] at p'
          exact p'.elim
def idxF (e : D) : List D → Option Nat
  | [] => none
  | d :: ds => if eqFlat d e = true then some 0 else (idxF e ds).map (· + 1)
theorem idxF_at {w : Wd} {y : V} {e : D} (hy : Dat w y e) (fy : flatD e = true) : ∀ {ys : List V} {ds : List D} {j : Nat}, Dats w ys ds → ds.all flatD = true → idxF e ds = some j → ∃ z, ys[j]? = some z ∧ eqV z y = true ∧ ∀ (m : Nat) (z' : V), m < j → ys[m]? = some z' → eqV z' y = false
  | _, [], _, .nil, _, h => by cases h
  | v :: vs, d :: ds, j, .cons h r, f, hj => by
    have f2 : flatD d = true ∧ ds.all flatD = true := by simpa using f
    have ev := eqFlat_V h hy f2.1 fy
    have hj' : (if eqFlat d e = true then some 0 else (idxF e ds).map (· + 1)) = some j := hj
    by_cases c : eqFlat d e = true
    · rw [if_pos c] at hj'
      cases hj'
      exact ⟨v, rfl, ev.trans c, fun m z' hm => absurd hm (Nat.not_lt_zero _)⟩
    · rw [if_neg c] at hj'
      cases q : idxF e ds with
      | none => rw [q] at hj'; cases hj'
      | some i =>
        rw [q] at hj'
        cases hj'
        obtain ⟨z, h1, h2, h3⟩ := idxF_at hy fy r f2.2 q
        refine ⟨z, by simpa using h1, h2, fun m z' hm hz => ?_⟩
        cases m with
        | zero =>
          have : v = z' := by simpa using hz
          rw [← this, ev]
          simpa using c
        | succ m => exact h3 m z' (Nat.lt_of_succ_lt_succ hm) (by simpa using hz)
def oIdx : OM := fun d ds st => match rdOf d st, ds with
  | some xs, [e] => if flatD e = true ∧ xs.all flatD = true then (match idxF e xs with
    | some j => .ok (.int ((j : Nat) : Int)) st
    | none => .stuck) else .stuck
  | _, _ => .stuck
theorem sim_idx {K : PySem.W.Frag} {T : List (Addr × Str)} : SimM K T (rIndex K) oIdx := fun E w H st x xs d ds Q r dx dv p => by
  unfold oIdx at p
  cases q : rdOf d st with
  | none => rw [q] at p; exact p.elim
  | some zs =>
    rw [q] at p
    obtain ⟨a, us, rfl, h1, h2⟩ := rd_at r dx q
    cases dv with
    | nil => exact p.elim
    | cons hy rest =>
      cases rest with
      | cons _ _ => exact p.elim
      | nil =>
        rename_i y e
        have p' : Post K T E Dat w H (if flatD e = true ∧ zs.all flatD = true then (match idxF e zs with
          | some j => .ok (.int ((j : Nat) : Int)) st
          | none => .stuck) else .stuck) Q := p
        by_cases c : flatD e = true ∧ zs.all flatD = true
        · rw [if_pos c] at p'
          cases q2 : idxF e zs with
          | none => rw [q2] at p'; exact p'.elim
          | some j =>
            rw [q2] at p'
            obtain ⟨z, z1, z2, z3⟩ := idxF_at hy c.1 h2 c.2 q2
            exact ⟨a, us, y, j, z, rfl, rfl, h1, flat_D hy c.1, flat_Ds h2 c.2, z1, z2, z3, p'.here r (.int _)⟩
        · rw [if_neg c] at p'
          exact p'.elim
section
variable {X : Cx} {T : List (Addr × Str)} {E : XK} {o e : Expr} {fa fe : LE} {apos pos : Pos}
theorem x_cnt (ho : PEf X T E o fa) (he : PEf X T E e fe) (hbase : attributeBase o "count" X.env (eval o X.env) = eval o X.env := by rfl)
    (hfew : ((backTo pos (starEach [e] X.env)).all (fun x => !x.1) && (backToKw pos (keywordEach [] X.env)).all (fun x => x.1.isSome)
      && decide ([e].length + ([] : List Keyword).length + (if ([] : List Keyword).isEmpty then 0 else 1) < 30)) = true := by rfl)
    (hline : (apos.endLine == pos.line) = true := by rfl) (hs : starEach [e] X.env = (false, eval e X.env) :: starEach [] X.env := by rfl) : PEf X T E (.Call (.Attribute o "count" apos) [e] [] pos) (fBM isL oCnt fa (fCons fe fNil)) :=
  x_bm PySem.F.plainAttrs_list PySem.F.slot_list_count PySem.F.type_list_count mt_cnt sim_cnt ty_list ho (x_cons he x_nil hs) hbase hfew hline hs
theorem x_idx (ho : PEf X T E o fa) (he : PEf X T E e fe) (hbase : attributeBase o "index" X.env (eval o X.env) = eval o X.env := by rfl)
    (hfew : ((backTo pos (starEach [e] X.env)).all (fun x => !x.1) && (backToKw pos (keywordEach [] X.env)).all (fun x => x.1.isSome)
      && decide ([e].length + ([] : List Keyword).length + (if ([] : List Keyword).isEmpty then 0 else 1) < 30)) = true := by rfl)
    (hline : (apos.endLine == pos.line) = true := by rfl) (hs : starEach [e] X.env = (false, eval e X.env) :: starEach [] X.env := by rfl) : PEf X T E (.Call (.Attribute o "index" apos) [e] [] pos) (fBM isL oIdx fa (fCons fe fNil)) :=
  x_bm PySem.F.plainAttrs_list PySem.F.slot_list_index PySem.F.type_list_index mt_index sim_idx ty_list ho (x_cons he x_nil hs) hbase hfew hline hs
end
end Fk
/-! FkZ: the kind of a refusal: a work's lambda, called in a try. -/
namespace Fk
open PySem PySem.Spec PyProof.Rows L2
/-! ### what is said of the classes -/
def excB (K : PySem.W.Frag) (D : Addr) : Bool :=
  He.eqO (PySem.W.findIn K (.ref D) "__getattribute__") (some (some (.builtin "BaseException.__getattribute__"))) && (He.eqO (PySem.W.findIn K (.ref D) "__getattr__") (some none) && (decide (PySem.W.subIn K (.ref D) (.type "BaseException") = some true) &&
  (PySem.W.hasDictIn K D && (He.eqO (PySem.W.findIn K (.ref D) "__class__") (some (some (.builtin "object.__class__"))) && (He.eqO (PySem.W.specialIn K (.builtin "object.__class__") "__get__") (some (some (.builtin "getset_descriptor.__get__"))) &&
  (decide (PySem.W.takesIn K (.builtin "object.__class__") = some true) && decide (PySem.W.mroIn K D (.type "object") = some true)))))))
theorem excB_ok {K : PySem.W.Frag} {D : Addr} (h : excB K D = true) : ExcC K D := by
  obtain ⟨h1, h⟩ := Bool.and_eq_true_iff.mp h
  obtain ⟨h2, h⟩ := Bool.and_eq_true_iff.mp h
  obtain ⟨h3, h⟩ := Bool.and_eq_true_iff.mp h
  obtain ⟨h4, h⟩ := Bool.and_eq_true_iff.mp h
  obtain ⟨h5, h⟩ := Bool.and_eq_true_iff.mp h
  obtain ⟨h6, h⟩ := Bool.and_eq_true_iff.mp h
  obtain ⟨h7, h8⟩ := Bool.and_eq_true_iff.mp h
  exact ⟨He.eqO_ok h1, He.eqO_ok h2, of_decide_eq_true h3, h4, He.eqO_ok h5, He.eqO_ok h6, of_decide_eq_true h7, of_decide_eq_true h8⟩
def kAll : List Str := ["BadCells", "BadDeed", "BadCount", "TooMany", "Broken", "BadSaying", "BadCell", "BadWorth", "Gone", "BadKey", "BadRoot", "Full", "Busy", "NoBlock", "BadWrites", "BadHall", "BadText"]
def kNum : List Str := ["BadDeed", "BadWrites", "BadHall", "BadText"]
/-- those that may be, none with a number -/
def kindB (occ : List Str) (K : PySem.W.Frag) : Bool := occ.all fun C => decide (C ∈ kAll ∧ C ∉ kNum) && (excB K (He.ga K C) && ((kAll.all fun D => decide (PySem.W.kitOne K (.ref (He.ga K C)) (.ref (He.ga K D)) = some (C == D))) &&
  (decide (PySem.W.kitOne K (.ref (He.ga K C)) (.type "ValueError") = some true) && decide (PySem.W.exmOne K (.ref (He.ga K C)) (.ref (He.ga K "KeepError")) = some true))))
structure KindC (K : PySem.W.Frag) (C : Str) : Prop where
  mem : C ∈ kAll
  num : C ∉ kNum
  exc : ExcC K (He.ga K C)
  kit : ∀ D ∈ kAll, PySem.W.kitOne K (.ref (He.ga K C)) (.ref (He.ga K D)) = some (C == D)
  ve : PySem.W.kitOne K (.ref (He.ga K C)) (.type "ValueError") = some true
  exm : PySem.W.exmOne K (.ref (He.ga K C)) (.ref (He.ga K "KeepError")) = some true
theorem kindB_ok {occ : List Str} {K : PySem.W.Frag} (h : kindB occ K = true) {C : Str} (hC : C ∈ occ) : KindC K C := by
  have h := List.all_eq_true.mp h C hC
  obtain ⟨h1, h⟩ := Bool.and_eq_true_iff.mp h
  obtain ⟨h2, h⟩ := Bool.and_eq_true_iff.mp h
  obtain ⟨h3, h⟩ := Bool.and_eq_true_iff.mp h
  obtain ⟨h4, h5⟩ := Bool.and_eq_true_iff.mp h
  have h1 := of_decide_eq_true h1
  exact ⟨h1.1, h1.2, excB_ok h2, fun D hD => of_decide_eq_true (List.all_eq_true.mp h3 D hD), of_decide_eq_true h4, of_decide_eq_true h5⟩
/-! ### readings by hand -/
def tIs (i : Nat) (a : Addr) (b : Bool) : TE := fun σ H Q => σ[i]? = some (some (.ref a)) ∧ Q (.bl b) H
theorem pe_imp {X : Cx} {e : Expr} {t t' : TE} (h : PE X e t) (k : ∀ σ H Q, t' σ H Q → t σ H Q) : PE X e t' := ⟨fun pins s σ H Q I x => h.run pins s σ H Q I (k σ H Q x)⟩
section
variable {X : Cx} {a : Addr} {oe : Obj} {pn : List (Addr × Obj)} {i : Nat} {C D e : Str} {b : Bool} {p p1 p2 pos : Pos}
theorem pe_isE (hz : Zc (.ref (He.ga X.K C)) none oe) (hf : ∃ vs, oe.data = .fields vs) (kc : KindC X.K C) (hD : D ∈ kAll) (hm : X.mg "isinstance" = none) (hmD : X.mg D = some (.ref (He.ga X.K D)))
    (hN : X.N[i]? = some e := by rfl) (hv : Vis X.env.scope e := by first | exact Or.inl rfl | exact Or.inr (Or.inl rfl) | exact Or.inr (Or.inr rfl)) (hg : Gl X "isinstance" := by rfl) (hg2 : Gl X D := by rfl) (hd : (e == ("__debug__" : Str)) = false := by decide) (hcd : (e == ("__classdict__" : Str)) = false := by decide) (hdb : (D == ("__debug__" : Str)) = false := by decide)
    (he : starEach [.Name e p1, .Name D p2] X.env = (false, eval (.Name e p1) X.env) :: starEach [.Name D p2] X.env := by rfl) (he2 : starEach [.Name D p2] X.env = (false, eval (.Name D p2) X.env) :: starEach [] X.env := by rfl) (hpl : (backTo pos (starEach [.Name D p2] X.env)).any (·.1) = false := by rfl) :
    PE (X.suite a ((a, oe) :: pn)) (.Call (.Name "isinstance" p) [.Name e p1, .Name D p2] [] pos) (tIs i a (C == D)) :=
  pe_imp (pe_callB (X := X.suite a ((a, oe) :: pn)) (call_isE kc.exc hz hf) hg hm (by decide +kernel) (pa_cons (pe_var (i := i) hN hv hd hcd) (pa_cons (pe_glob (v := .ref (He.ga X.K D)) hg2 hmD rfl hdb) pa_nil he2) he) (by decide) (by decide) he hpl)
    fun σ H Q h => ⟨.ref a, h.1, ⟨.ref (He.ga X.K D), .ref (He.ga X.K D), C == D, rfl, fun u r => r, kc.kit D hD, h.2⟩⟩
theorem pe_isV (hz : Zc (.ref (He.ga X.K C)) none oe) (hf : ∃ vs, oe.data = .fields vs) (kc : KindC X.K C) (hm : X.mg "isinstance" = none) (hmV : X.mg "ValueError" = none)
    (hN : X.N[i]? = some e := by rfl) (hv : Vis X.env.scope e := by first | exact Or.inl rfl | exact Or.inr (Or.inl rfl) | exact Or.inr (Or.inr rfl)) (hg : Gl X "isinstance" := by rfl) (hg2 : Gl X "ValueError" := by rfl) (hd : (e == ("__debug__" : Str)) = false := by decide) (hcd : (e == ("__classdict__" : Str)) = false := by decide)
    (he : starEach [.Name e p1, .Name "ValueError" p2] X.env = (false, eval (.Name e p1) X.env) :: starEach [.Name "ValueError" p2] X.env := by rfl) (he2 : starEach [.Name "ValueError" p2] X.env = (false, eval (.Name "ValueError" p2) X.env) :: starEach [] X.env := by rfl) (hpl : (backTo pos (starEach [.Name "ValueError" p2] X.env)).any (·.1) = false := by rfl) :
    PE (X.suite a ((a, oe) :: pn)) (.Call (.Name "isinstance" p) [.Name e p1, .Name "ValueError" p2] [] pos) (tIs i a true) :=
  pe_imp (pe_callB (X := X.suite a ((a, oe) :: pn)) (call_isE kc.exc hz hf) hg hm (by decide +kernel) (pa_cons (pe_var (i := i) hN hv hd hcd) (pa_cons (pe_bltn (v := .ty "ValueError") hg2 hmV (by decide +kernel) rfl) pa_nil he2) he) (by decide) (by decide) he hpl)
    fun σ H Q h => ⟨.ref a, h.1, ⟨.ty "ValueError", .type "ValueError", true, rfl, fun u r => r, kc.ve, h.2⟩⟩
end
/-! ### rules that stand in a suite, too -/
section
variable {X : Cx} {T : List (Addr × Str)} {E : XK} {a b : Expr} {fa fb : LE} {pos : Pos}
theorem x_tneU (hu : X.A.units + 64 < cLine) (ha : PEf X T E a fa) (hb : PEf X T E b fb) : PTf X T E (.Compare a [.NotEq] [b] pos) (fTest (fOp oNe fa fb)) := x_tcmp (op_neD hu) sim_ne ha hb
theorem x_teqU (hu : X.A.units + 64 < cLine) (ha : PEf X T E a fa) (hb : PEf X T E b fb) : PTf X T E (.Compare a [.Eq] [b] pos) (fTest (fOp oEq fa fb)) := x_tcmp (op_eqD hu) sim_eq ha hb
theorem x_tinU (hu : X.A.units + 65 < cLine) (ha : PEf X T E a fa) (hb : PEf X T E b fb) (hm : behindInMarks .In b = false := by rfl) : PTf X T E (.Compare a [.In] [b] pos) (fTest (fOp (oIn false) fa fb)) := x_tcmp (op_in_seq.or (op_in_str.or (op_inD hu))) (sim_in fun _ _ _ _ h => h) ha hb hm
theorem x_neverE {e : Expr} : PEf X T E e fStuckE := ⟨fun pins s σ H Q I h => by
  obtain ⟨w, env, st, _, _, p⟩ := h
  exact p.elim⟩
theorem psx {ι : Type} {ss : List Stmt} {P : ι → Prop} {t : ι → TS} (h : ∀ i, P i → PSs X ss (t i)) : PSs X ss (fun D σ H => ∃ i, P i ∧ t i D σ H) := ⟨fun pins s σ H D I ⟨i, hp, ht⟩ => (h i hp).run pins s σ H D I ht⟩
end
/-! ### the suite that tells the kind -/
def tK (a : Addr) (C : Str) : List Str → TA
  | [] => tNil
  | D :: r => tCons (tIs 1 a (C == D)) (tK a C r)
def tW : List Str → TA
  | [] => tNil
  | x :: r => tCons (tC (.str x)) (tW r)
noncomputable def fA : LT := fTest (fOp oNe (fBM isL oCnt (fVar 2) (fCons (fC (.bl true)) fNil)) (fC (.int 1)))
noncomputable def fRest : LS := fSeq (fAsg (fOp oIx (fVar 3) (fBM isL oIdx (fVar 2) (fCons (fC (.bl true)) fNil))) (gN 4)) (fSeq (fIfS (fTest (fOp (oIn false) (fVar 4) (fTup (fCons (fC (.str "BadDeed")) (fCons (fC (.str "BadWrites")) (fCons (fC (.str "BadHall")) fNil)))))) fStuck fNext) (fRet (fIf (fTest (fOp oEq (fVar 4) (fC (.str "BadText")))) fStuckE (fVar 4))))
def tSuite (K : PySem.W.Frag) (T : List (Addr × Str)) (E : XK) (a : Addr) (C : Str) : TS :=
  tSeq (tAsg (tLst (tK a C ["BadCells", "BadDeed", "BadCount", "TooMany"])) (gName 2))
  (tSeq (tAsg (tOp rCat (tVar 2) (tLst (tK a C ["Broken", "BadSaying", "BadCell"]))) (gName 2))
  (tSeq (tAsg (tOp rCat (tVar 2) (tLst (tK a C ["BadWorth", "Gone", "BadKey", "BadRoot"]))) (gName 2))
  (tSeq (tAsg (tOp rCat (tVar 2) (tLst (tK a C ["Full", "Busy", "NoBlock", "BadWrites"]))) (gName 2))
  (tSeq (tAsg (tOp rCat (tVar 2) (tLst (tK a C ["BadHall", "BadText"]))) (gName 2))
  (tSeq (tAsg (tLst (tW ["BadCells", "BadDeed", "BadCount", "TooMany", "Broken", "BadSaying", "BadCell", "BadWorth", "Gone"])) (gName 3))
  (tSeq (tAsg (tOp rCat (tVar 3) (tLst (tW ["BadKey", "BadRoot", "Full", "Busy", "NoBlock", "BadWrites", "BadHall", "BadText"]))) (gName 3))
  (tSeq (tIfS (tOr (tOf K T E eqB fA) (tNot (tB (tIs 1 a true)))) (tRet (tC (.str "other"))) tNext)
  (tOfS K T (W0 E) fRest))))))))
theorem tK_ans {a : Addr} {C : Str} : ∀ {l : List Str} {σ : L2.St} {H : Hp} {Q : List V → Hp → Prop}, σ[1]? = some (some (.ref a)) → Q (l.map fun D => V.bl (C == D)) H → tK a C l σ H Q
  | [], _, _, _, _, q => q
  | D :: r, _, _, _, h, q => ⟨h, tK_ans (l := r) h q⟩
theorem tW_ans : ∀ {l : List Str} {σ : L2.St} {H : Hp} {Q : List V → Hp → Prop}, Q (l.map V.str) H → tW l σ H Q
  | [], _, _, _, q => q
  | D :: r, _, _, _, q => tW_ans (l := r) q
def Ext (H H' : Hp) : Prop := ∀ b o, H b = some o → H' b = some o
theorem Ext.new {H : Hp} {p : Addr} {o : HO} (hp : H p = none) : Ext H (upd H p o) := fun b u h => by
  rw [upd_ne (fun z => by rw [z, hp] at h; cases h)]
  exact h
theorem Ext.trans {H H1 H2 : Hp} (x : Ext H H1) (y : Ext H1 H2) : Ext H H2 := fun b o h => y b o (x b o h)
/-- the list in slot i is made longer -/
theorem cat_ans {i : Nat} {t : TA} {xs ys : List V} {l : Addr} {σ : L2.St} {H : Hp} {Q : VK} (ht : ∀ Q' : List V → Hp → Prop, Q' ys H → t σ H Q') (hl : σ[i]? = some (some (.ref l))) (hH : H l = some (.lst xs)) (hz : xs.length ≤ 100 ∧ ys.length ≤ 100) (q : ∀ p H', Ext H H' → H' p = some (.lst (xs ++ ys)) → Q (.ref p) H') :
    tOp rCat (tVar i) (tLst t) σ H Q := by
  have hs := sizeLine_eq
  refine ⟨.ref l, hl, ht _ ⟨by omega, fun p np => ⟨l, p, xs, ys, rfl, rfl, ?_, upd_same, by omega, fun p2 np2 => q p2 _ (Ext.trans (Ext.new np) (Ext.new np2)) upd_same⟩⟩⟩
  exact Ext.new np _ _ hH
theorem lst_ans {t : TA} {ys : List V} {σ : L2.St} {H : Hp} {Q : VK} (ht : ∀ Q' : List V → Hp → Prop, Q' ys H → t σ H Q') (hz : ys.length ≤ 100) (q : ∀ p H', Ext H H' → H' p = some (.lst ys) → Q (.ref p) H') : tLst t σ H Q := by
  have hs := sizeLine_eq
  exact ht _ ⟨by omega, fun p np => q p _ (Ext.new np) upd_same⟩
theorem set_get {σ : L2.St} {i : Nat} {v : Option V} (h : i < σ.length) : (σ.set i v)[i]? = some v := List.getElem?_set_self h
def kIx (C : Str) : Nat := kAll.findIdx (· == C)
theorem kinds_of : ∀ C ∈ kAll, idxF (.bl true) (kAll.map fun x => D.bl (C == x)) = some (kIx C) ∧ kAll[kIx C]? = some C ∧ ((kAll.map fun x => D.bl (C == x)).countP fun z => eqFlat z (.bl true)) = 1 ∧ PyData.strOk C = true := by decide +kernel
theorem kinds_not : ∀ C ∈ kAll, C ∉ kNum → (C == ("BadText" : Str)) = false ∧ ((kNum.take 3).any fun x => eqFlat (D.str x) (.str C)) = false := by decide +kernel
theorem fA_at {C : Str} (hC : C ∈ kAll) (o0 o1 o3 o4 : Option D) : fA [o0, o1, some (.lst (kAll.map fun x => D.bl (C == x))), o3, o4] [] = .ok false [] := by
  obtain ⟨h1, h2, h3, h4⟩ := kinds_of C hC
  have hc : oCnt (.lst (kAll.map fun x => D.bl (C == x))) [.bl true] [] = .ok (.int 1) [] := by
    have e : oCnt (.lst (kAll.map fun x => D.bl (C == x))) [.bl true] [] = (if flatD (.bl true) = true ∧ (kAll.map fun x => D.bl (C == x)).all flatD = true then Res.ok (.int (((kAll.map fun x => D.bl (C == x)).countP fun z => eqFlat z (.bl true) : Nat) : Int)) [] else .stuck) := rfl
    rw [e, if_pos ⟨rfl, rfl⟩, h3]
    rfl
  have hb : ∀ o g env, kBM1 isL o g env (.lst (kAll.map fun x => D.bl (C == x))) [] = (g env []).bind (o (.lst (kAll.map fun x => D.bl (C == x)))) := fun _ _ _ => rfl
  generalize kAll.map (fun x => D.bl (C == x)) = L at *
  unfold fA
  simp [hb, hc]
theorem fRest_at {C : Str} (hC : C ∈ kAll) (hn : C ∉ kNum) (o0 o1 o4 : Option D) : fRest [o0, o1, some (.lst (kAll.map fun x => D.bl (C == x))), some (.lst (kAll.map D.str)), o4] [] = .rt (.str C) [] := by
  obtain ⟨h1, h2, h3, h4⟩ := kinds_of C hC
  obtain ⟨n1, n2⟩ := kinds_not C hC hn
  have hc : oIdx (.lst (kAll.map fun x => D.bl (C == x))) [.bl true] [] = .ok (.int (kIx C)) [] := by
    have e : oIdx (.lst (kAll.map fun x => D.bl (C == x))) [.bl true] [] = (if flatD (.bl true) = true ∧ (kAll.map fun x => D.bl (C == x)).all flatD = true then (match idxF (.bl true) (kAll.map fun x => D.bl (C == x)) with
      | some j => Res.ok (.int ((j : Nat) : Int)) []
      | none => .stuck) else .stuck) := rfl
    rw [e, if_pos ⟨rfl, rfl⟩, h1]
  have hb : ∀ o g env, kBM1 isL o g env (.lst (kAll.map fun x => D.bl (C == x))) [] = (g env []).bind (o (.lst (kAll.map fun x => D.bl (C == x)))) := fun _ _ _ => rfl
  have hx : atI (kAll.map D.str) (kIx C : Int) = some (.str C) := by
    have hl : kIx C < kAll.length := (List.getElem?_eq_some_iff.mp h2).1
    rw [atI_nat (by rw [List.length_map]; exact hl), List.getElem?_map, h2]
    rfl
  have hin : oIn false (.str C) (.tup [.str "BadDeed", .str "BadWrites", .str "BadHall"]) [] = .ok (.bl false) [] := by
    show (if flatD (.str C) = true ∧ [D.str "BadDeed", D.str "BadWrites", D.str "BadHall"].all flatD = true then Res.ok (D.bl ([D.str "BadDeed", D.str "BadWrites", D.str "BadHall"].any fun z => eqFlat z (.str C))) [] else .stuck) = _
    rw [if_pos ⟨rfl, rfl⟩]
    have : ([D.str "BadDeed", D.str "BadWrites", D.str "BadHall"].any fun z => eqFlat z (.str C)) = false := n2
    rw [this]
  have s1 : PyData.strOk "BadText" = true := by decide +kernel
  generalize kAll.map (fun x => D.bl (C == x)) = L at *
  generalize kAll.map D.str = M at *
  unfold fRest
  simp [hb, hc, hx, hin, oEq_str h4 s1, n1]
theorem bools_at {w : Wd} {C : Str} : ∀ l : List Str, Dats w (l.map fun x => V.bl (C == x)) (l.map fun x => D.bl (C == x))
  | [] => .nil
  | x :: l => .cons (.bl _) (bools_at l)
theorem suite_ans {K : PySem.W.Frag} {T : List (Addr × Str)} {E : XK} {C : Str} (hC : C ∈ kAll) (hn : C ∉ kNum) {a : Addr} (u0 u2 u3 u4 : Option V) {H0 : Hp} {D0 : Ends} (hT : LamX.Tabs T H0) (hq : ∀ H', LamX.ExtN H0 H' → LamX.Tabs T H' → D0.rt (.str C) H') : tSuite K T E a C D0 [u0, some (.ref a), u2, u3, u4] H0 := by
  unfold tSuite tSeq tAsg gName
  refine lst_ans (ys := (["BadCells", "BadDeed", "BadCount", "TooMany"] : List Str).map fun x => V.bl (C == x)) (fun Q' q => tK_ans rfl q) (by simp) fun p1 H1 x1 y1 => ?_
  refine cat_ans (ys := (["Broken", "BadSaying", "BadCell"] : List Str).map fun x => V.bl (C == x)) (fun Q' q => tK_ans rfl q) rfl y1 (by simp) fun p2 H2 x2 y2 => ?_
  refine cat_ans (ys := (["BadWorth", "Gone", "BadKey", "BadRoot"] : List Str).map fun x => V.bl (C == x)) (fun Q' q => tK_ans rfl q) rfl y2 (by simp) fun p3 H3 x3 y3 => ?_
  refine cat_ans (ys := (["Full", "Busy", "NoBlock", "BadWrites"] : List Str).map fun x => V.bl (C == x)) (fun Q' q => tK_ans rfl q) rfl y3 (by simp) fun p4 H4 x4 y4 => ?_
  refine cat_ans (ys := (["BadHall", "BadText"] : List Str).map fun x => V.bl (C == x)) (fun Q' q => tK_ans rfl q) rfl y4 (by simp) fun p5 H5 x5 y5 => ?_
  dsimp only
  refine lst_ans (ys := (["BadCells", "BadDeed", "BadCount", "TooMany", "Broken", "BadSaying", "BadCell", "BadWorth", "Gone"] : List Str).map V.str) (fun Q' q => tW_ans q) (by simp) fun p6 H6 x6 y6 => ?_
  refine cat_ans (ys := (["BadKey", "BadRoot", "Full", "Busy", "NoBlock", "BadWrites", "BadHall", "BadText"] : List Str).map V.str) (fun Q' q => tW_ans q) rfl y6 (by simp) fun p7 H7 x7 y7 => ?_
  have y5' : H7 p5 = some (.lst (kAll.map fun x => V.bl (C == x))) := (x6.trans x7) _ _ y5
  have y7' : H7 p7 = some (.lst (kAll.map V.str)) := y7
  let w : Wd := ⟨fun p => if p = p5 then some (.lst (kAll.map fun x => V.bl (C == x))) else if p = p7 then some (.lst (kAll.map V.str)) else none, [], fun _ => none⟩
  have xs : Ext H0 H7 := (((((x1.trans x2).trans x3).trans x4).trans x5).trans x6).trans x7
  have r : Rel K T w H7 [] := by
    refine ⟨fun b o h => ?_, rfl, List.nodup_nil, fun k c p h _ => (by cases h), hT.ext xs, fun p vs h => (by cases h), fun b ps h => ?_⟩
    · have h' : (if b = p5 then some (.lst (kAll.map fun x => V.bl (C == x))) else if b = p7 then some (.lst (kAll.map V.str)) else none) = some o := h
      by_cases e1 : b = p5
      · rw [if_pos e1] at h'
        rw [e1, y5']
        exact h'
      · rw [if_neg e1] at h'
        by_cases e2 : b = p7
        · rw [if_pos e2] at h'
          rw [e2, y7']
          exact h'
        · rw [if_neg e2] at h'
          cases h'
    · have h' : (if b = p5 then some (.lst (kAll.map fun x => V.bl (C == x))) else if b = p7 then some (.lst (kAll.map V.str)) else none) = some (HO.tbl ps) := h
      split at h'
      · cases h'
      · split at h' <;> cases h'
  have d5 : Dat w (.ref p5) (.lst (kAll.map fun x => D.bl (C == x))) := .lst (by simp [w]) (bools_at kAll)
  have hne : p7 ≠ p5 := fun z => by
    rw [z, y5'] at y7'
    have : (kAll.map fun x => V.bl (C == x)) = kAll.map V.str := by
      have := Option.some.inj y7'
      injection this
    cases this
  have d7 : Dat w (.ref p7) (.lst (kAll.map D.str)) := .lst (by simp [w, hne]) (Dats.of_strs _)
  have he : EnvR w [u0, some (.ref a), some (.ref p5), some (.ref p7), u4] [none, none, some (.lst (kAll.map fun x => D.bl (C == x))), some (.lst (kAll.map D.str)), none] := by
    refine ⟨rfl, fun i d h => ?_⟩
    match i, h with
    | 0, h => cases h
    | 1, h => cases h
    | 2, h => cases h; exact ⟨_, rfl, d5⟩
    | 3, h => cases h; exact ⟨_, rfl, d7⟩
    | 4, h => cases h
    | n + 5, h => cases h
  refine ⟨w, _, [], he, r, ?_⟩
  rw [fA_at hC]
  intro w1 c1 H8 s8 r8 e8
  cases (show c1 = false from e8)
  show (if false = true then _ else _)
  refine ⟨rfl, true, rfl, ?_⟩
  show (if (!true) = true then _ else _)
  refine ⟨w1, _, [], he.mono s8.le, r8, ?_⟩
  rw [fRest_at hC hn]
  intro w2 v H9 s9 r9 dv
  cases dv
  refine hq H9 (fun b o h hn => ?_) r9.tabs
  have hk := s8.keep b o (xs b o h) (fun z => nomatch z) hn
  refine s9.keep b o hk (fun z => ?_) hn
  rcases Classical.em (b ∈ w.ads) with h1 | h1
  · cases h1
  · exact (s8.new b z h1).no (xs b o h) hn
theorem pss_len {X : Cx} {ss : List Stmt} {t : TS} (h : PSs X ss t) : PSs X ss (fun D σ H => σ.length = X.N.length → t D σ H) := ⟨fun pins s σ H D I x => h.run pins s σ H D I (x I.len)⟩
/-- the kind of what the lambda's work refuses -/
def TTk (K : PySem.W.Frag) (T : List (Addr × Str)) (occ : List Str) : (XK → Hp → VK → Prop) → Hp → VK → Prop := fun tl H Q =>
  tl (fun cls d H' => ∃ C, (C ∈ occ ∧ cls = .ref (He.ga K C) ∧ d = none) ∧ LamX.Tabs T H' ∧ ∀ H'', LamX.ExtN H' H'' → LamX.Tabs T H'' → Q (.str C) H'') H Q
def tKind (K : PySem.W.Frag) (T : List (Addr × Str)) (E : XK) (occ : List Str) (a : Addr) (cls : Value) (d : Option Addr) : TS := fun D σ H => σ.length = 5 → ∃ C, (C ∈ occ ∧ cls = .ref (He.ga K C) ∧ d = none) ∧ tSuite K T E a C D σ H
/-- from what is wished to the suite -/
theorem kind_wish {K : PySem.W.Frag} {T : List (Addr × Str)} {E : XK} {occ : List Str} (hk : ∀ C ∈ occ, KindC K C) {Q : VK} {nx bk ct : L2.St → Hp → Prop} {Wout : WX} (cls : Value) (d : Option Addr) (σ : L2.St) (H : Hp)
    (h : ∃ C, (C ∈ occ ∧ cls = .ref (He.ga K C) ∧ d = none) ∧ LamX.Tabs T H ∧ ∀ H'', LamX.ExtN H H'' → LamX.Tabs T H'' → Q (.str C) H'') :
    wAs K (.ref (He.ga K "KeepError")) 1 (tKind K T E occ) Wout { nx := nx, rt := Q, bk := bk, ct := ct } cls d σ H := by
  obtain ⟨C, ⟨hC, rfl, rfl⟩, hT, q⟩ := h
  refine ⟨true, (hk C hC).exm, fun _ a ha hl => ⟨C, ⟨hC, rfl, rfl⟩, ?_⟩, fun z => nomatch z⟩
  rw [List.length_set] at hl
  match σ, hl with
  | [x0, x1, x2, x3, x4], _ => exact suite_ans (hk C hC).mem (hk C hC).num x0 x2 x3 x4 hT q
end Fk
/-! FkZa: a work's lambda, called by the def that tells its kind. -/
namespace Fk
open PySem PySem.Spec PyProof.Rows L2
section
variable {K : PySem.W.Frag} {T : List (Addr × Str)} {w : Wd} {H H1 : Hp} {st : Store}
theorem Rel.extN (r : Rel K T w H st) (x : LamX.ExtN H H1) (t : LamX.Tabs T H1) : Rel K T w H1 st := by
  refine ⟨fun a o h => x a o (r.fr a o h) (fun ps z => r.nt a ps (by rw [h, z])), r.len, r.nd, fun k c p h1 h2 => ?_, t, r.scr, r.nt⟩
  have y := r.at_ k c p h1 h2
  refine y.mono (Le.refl w) (fun hc => y.noF hc) fun o e => ?_
  obtain ⟨o', e', n⟩ := y.nt
  rw [e] at e'
  cases e'
  exact x p o e n
theorem Stp.extN (x : LamX.ExtN H H1) : Stp w H w H1 := ⟨Le.refl w, fun p h n => absurd h n, fun a o h _ n => x a o h n, fun a f o h => by
  rcases Classical.em (∃ ps, o = HO.tbl ps) with z | z
  · exact z
  · exact f o (x a o h fun ps e => z ⟨ps, e⟩), fun a h n => absurd n h⟩
end
/-- what the kind's def tells -/
def kKind (occ : List Str) : Res D → Res D
  | .ok d st => .ok d st
  | .ex x st => if x.num = none ∧ x.c ∈ occ then .ok (.str x.c) st else .stuck
  | .stuck => .stuck
def fKind (occ : List Str) (fb : LE) : LE := fun env st => kKind occ (fb env st)
@[simp] theorem fKind_eq (occ : List Str) (fb : LE) (env : DEnv) (st : Store) : fKind occ fb env st = kKind occ (fb env st) := (rfl)
@[simp] theorem kKind_ok (occ : List Str) (d : D) (st : Store) : kKind occ (.ok d st) = .ok d st := (rfl)
@[simp] theorem kKind_ex (occ : List Str) (c : Str) (st : Store) : kKind occ (.ex ⟨c, none⟩ st) = if c ∈ occ then .ok (.str c) st else .stuck := by
  unfold kKind
  simp
theorem sim_kind {K : PySem.W.Frag} {T : List (Addr × Str)} {E : XK} {occ : List Str} {fb : LE} : Sim K T E Dat (LamX.tLam T (TTk K T occ) fun E' => tOf K T E' Dat fb) (fKind occ fb) := fun w σ H env st Q he r p => by
  refine ⟨r.tabs, fun H1 x1 t1 => ?_⟩
  have s1 : Stp w H w H1 := Stp.extN x1
  refine ⟨w, env, st, he, r.extN x1 t1, ?_⟩
  have p' : Post K T E Dat w H (kKind occ (fb env st)) Q := p
  cases h : fb env st with
  | ok d st' =>
    rw [h] at p'
    exact fun w' v H' s' r' dv => p' w' v H' (s1.trans s') r' dv
  | ex x st' =>
    rw [h] at p'
    have p' : Post K T E Dat w H (if x.num = none ∧ x.c ∈ occ then .ok (.str x.c) st' else .stuck) Q := p'
    by_cases q : x.num = none ∧ x.c ∈ occ
    · rw [if_pos q] at p'
      intro w' c od H' s' r' z
      refine ⟨x.c, ⟨q.2, z.1, ?_⟩, r'.tabs, fun H2 x2 t2 => p' w' (.str x.c) H2 ((s1.trans s').trans (Stp.extN x2)) (r'.extN x2 t2) (.str _)⟩
      have z2 := z.2
      rw [q.1] at z2
      exact z2
    · rw [if_neg q] at p'
      exact p'.elim
  | stuck =>
    rw [h] at p'
    exact p'.elim
/-! ### the rule -/
structure Knd (X : Cx) (T : List (Addr × Str)) (occ : List Str) : Prop where
  fn : ∃ (pg : Arguments) (bg : List Stmt) (sg : Scope) (fd : FuncData) (Ng : List Str), FunD X.K "_law_kind" "_law_kind" pg bg sg [] [] (He.fAd X.K ("_law_kind", none)) fd ∧ FnScope Ng ["_law_work"] sg ∧ Binds X.K fd ["_law_work"] [] ∧ Ng[0]? = some ("_law_work" : Str) ∧ Vis sg "_law_work" ∧
    ∀ (cdg : Value) (q : Str), LamX.GivesTo X Ng "_law_kind" sg (He.fAd X.K ("_law_kind", none)) cdg bg "_law_work" q (TTk X.K T occ)
  mg : X.mg "_law_kind" = some (.ref (He.ga X.K "_law_kind"))
  tab : ∃ c P, LamX.TabB X.base X.mg c P ∧ X.env.code = .ref c ∧ (P, X.env.qual ++ "<lambda>") ∈ T ∧ ∀ p ∈ T, p.1 = P → p.2 = X.env.qual ++ "<lambda>"
section
variable {X : Cx} {T : List (Addr × Str)} {E : XK} {occ : List Str} {params : Arguments} {body : Expr} {scope : Scope} {fb : LE} {p lpos pos : Pos} {j k : Nat}
theorem px_any {Y : Cx} (tk : Takes Y (fun cls d _ H => E cls d H)) : Passes (L2.CX Y.prog Y.w) Y E := passes_call tk fun _ _ _ _ h => h
theorem px_lam {A : Around} {outer : List Env} {s : Shared} {H : Hp} {f c' : Addr} : Passes (L2.CX (LamX.lamCx X A outer s H E scope f c').prog (LamX.lamCx X A outer s H E scope f c').w) (LamX.lamCx X A outer s H E scope f c') E := px_any (takes_of rfl rfl rfl rfl)
theorem x_kind (kk : Knd X T occ) (hr : Room j X.A) (L : LamX.LamS X.env.scope scope)
    (hbody : ∀ (A : Around) (outer : List Env) (s : Shared) (H : Hp) (E' : XK) (f c' : Addr), Room k (LamX.lamCx X A outer s H E' scope f c').A → Passes (L2.CX (LamX.lamCx X A outer s H E' scope f c').prog (LamX.lamCx X A outer s H E' scope f c').w) (LamX.lamCx X A outer s H E' scope f c') E' → PEf (LamX.lamCx X A outer s H E' scope f c') T E' body fb)
    (hjk : k + 2 ≤ j := by decide) (hg : Gl X "_law_kind" := by rfl) (hdef : defaultsOf params X.env = ([], []) := by rfl)
    (hbind : ∀ (q : Str) (cl : List (Str × Addr)) (pm cv ctv : Value), bindArgs (PySem.W.kla_fn "<lambda>" q params body scope cl pm cv ctv) ⟨[], []⟩ = pure [] := by intro _ _ _ _ _; rfl) :
    PEf X T E (.Call (.Name "_law_kind" p) [.Lambda params body scope lpos] [] pos) (fKind occ fb) := by
  obtain ⟨pg, bg, sg, fd, Ng, F, Sg, hb, hNg, hva, hG⟩ := kk.fn
  obtain ⟨c, P, TB, hcode, hmT, hu⟩ := kk.tab
  have kp := F.kp
  obtain ⟨oc, od, dV, kV, doc, pm, an, cdv, ct, osl, rfl, lk, hcd, _, _⟩ := F.ex
  exact pe_to (LamX.pe_lamcall (k := k) (t := fun E' => tOf X.K T E' Dat fb) hg kk.mg kp lk hcd hb Sg hNg hva (hG cdv _) TB hcode hmT hu (hr.mono hjk) L hdef hbind (fun A outer s H E f c' hr => hbody A outer s H E f c' hr px_lam)) sim_kind
end
section
variable {P : Program} {w : World} {K : PySem.W.Frag} {mg : Str → Option Value} {base : Heap} {T : List (Addr × Str)} {name qual : Str} {params : Arguments} {body : List Stmt} {scope : Scope} {dvs : List V} {kws : List (Str × V)} {a : He.Defn} {fd : FuncData} {N ps : List Str} {k : Nat} {fb : LS}
/-- fn_def, the def's code object told -/
theorem fn_defC (F : FunD K name qual params body scope dvs kws (He.fAd K a) fd) (S : FnScope N ps scope)
    (h : ∀ (cdv : Value) (A : Around) (outer : List Env) (s : Shared) (H : Hp) (E : XK), cdv = .ref (He.cT K a).1 → Room k (A.deeper (envOfC qual scope s.heap.objs.size (He.fAd K a) cdv)) →
      PSsf (cxOf (L2.CX P w) P w K mg base N qual scope (He.fAd K a) cdv A outer s H E) T (W0 E) body fb) : FnOk P w K mg base (L2.CX P w) (k + 1) (He.fAd K a) fd ps (spOf K T ps.length (runB N.length fb)) := by
  obtain ⟨oc, od, dV, kV, doc, pm, an, cdv, ct, osl, rfl, lk, hcd, _, _⟩ := F.ex
  obtain ⟨c, rfl⟩ := He.codeIn_ref hcd
  have hc : Value.ref c = .ref (He.cT K a).1 := congrArg Value.ref (He.codeOf_eq lk rfl).symm
  refine fn_of lk hcd S (fun vs H Q E h => h.1) fun A outer s H vs Q E hr hsp => ⟨_, h _ A outer s H E hc hr, ?_⟩
  obtain ⟨hl, w0, ds, st, hv, r, p⟩ := hsp
  refine ⟨w0, _, st, start_env (N := N) hv, r, ?_⟩
  unfold runB at p
  cases q : fb (ds.map some ++ List.replicate (N.length - ds.length) none) st with
  | nx e s1 =>
    rw [q] at p
    exact fun w' σ' H' s' e' r' => p w' .non H' s' r' .non
  | rt d s1 =>
    rw [q] at p
    exact fun w' v H' s' r' dv => p w' v H' s' r' dv
  | ex x e s1 =>
    rw [q] at p
    exact fun w' c od σ' H' s' e' r' z => p w' c od H' s' r' z
  | bk e s1 => rw [q] at p; exact p.elim
  | ct e s1 => rw [q] at p; exact p.elim
  | stuck => rw [q] at p; exact p.elim
end
/-! ### the hook -/
structure SaysK (fa : List He.Fa) (fn : List He.DefD) (tb : List TbD) (tf : List He.Defn) (ex : PySem.W.Frag → Bool) (w : World) (h : Heap) (K : PySem.W.Frag) : Prop where
  f : SaysF fa fn tb w K
  more : ex K = true
  hd : ∀ p ∈ tf, PySem.W.codeHdIn K (He.cT K p).1 (He.cT K p).2 = true
  out : ∀ p ∈ tf, K.lookup (He.cT K p).2 = none
  empty : ∀ p ∈ tf, h.get? (He.cT K p).2 = some { cls := .none, data := .fields #[] }
abbrev AlK : Type := AlF × Bool
def obsK (n : Nat) (fa : List He.Fa) (fn : List He.DefD) (tb : List TbD) (tf : List He.Defn) (ex : PySem.W.Frag → Bool) (g : Addr → Option Obj) : AlK := (obsF fa fn tb (He.frT g (He.asD g n)), ex (He.frT g (He.asD g n)) && He.tabsB g tf (He.frT g (He.asD g n)))
def valK (fn : List He.DefD) (tb : List TbD) (w : World) : AlK := (valF fn tb w, true)
theorem saysK_of {n : Nat} {fa : List He.Fa} {fn : List He.DefD} {tb : List TbD} {tf : List He.Defn} {ex : PySem.W.Frag → Bool} {w : World} {h : Heap} (e : obsK n fa fn tb tf ex h.get? = valK fn tb w) : SaysK fa fn tb tf ex w h (He.frT h.get? (He.asD h.get? n)) := by
  have e1 : obsF fa fn tb (He.frT h.get? (He.asD h.get? n)) = valF fn tb w := congrArg (fun z : AlK => z.1) e
  have e2 : (ex (He.frT h.get? (He.asD h.get? n)) && He.tabsB h.get? tf (He.frT h.get? (He.asD h.get? n))) = true := congrArg (fun z : AlK => z.2) e
  have e3 : He.obsX n fa fn (tb.map tabOf) tf ex h.get? = He.valX fn (tb.map tabOf) w := by
    have z1 : He.obsT fa fn (tb.map tabOf) (He.frT h.get? (He.asD h.get? n)) = He.valT fn (tb.map tabOf) w := congrArg (fun z : AlF => z.1) e1
    unfold He.obsX He.valX
    rw [z1, e2]
  have s := He.saysX_of e3
  exact ⟨e1, s.more, s.hd, s.out, s.empty⟩
def hookK (n : Nat) (fa : List He.Fa) (fn : List He.DefD) (tb : List TbD) (tf : List He.Defn) (ex : PySem.W.Frag → Bool) : PySem.W.Hook where
  α := AlK
  obs := fun s => obsK n fa fn tb tf ex s.heap.get?
  val := fun w => valK fn tb w
  says := fun w h => ∃ K : PySem.W.Frag, K.In h ∧ SaysK fa fn tb tf ex w h K
  of := fun _ _ e => ⟨_, He.frT_in, saysK_of e⟩
  keeps := fun _ _ _ ⟨K, hK, c⟩ k => ⟨K, PySem.W.Frag.In.keeps hK k, ⟨c.f, c.more, c.hd, c.out, fun p hp => k _ _ (c.empty p hp)⟩⟩
theorem obsK_eq {n : Nat} {fa : List He.Fa} {fn : List He.DefD} {tb : List TbD} {tf : List He.Defn} {ex : PySem.W.Frag → Bool} {g : Addr → Option Obj} {s : Shared} (h : ∀ a, g a = s.heap.get? a) : obsK n fa fn tb tf ex g = (hookK n fa fn tb tf ex).obs s := by
  have e : g = s.heap.get? := funext h
  rw [e] <;> rfl
/-- the law's table -/
abbrev lawT (K : PySem.W.Frag) : List (Addr × Str) := [((He.cT K ("law", none)).2, ("law" ++ ".<locals>.") ++ "<lambda>")]
theorem lawT_tabs {K : PySem.W.Frag} {H : Hp} (h : ∀ p ∈ [He.cT K ("law", none)], H p.2 = some (.tbl #[])) : LamX.Tabs (lawT K) H := fun p hp => by
  cases List.mem_singleton.mp hp
  exact LamX.TabS.nil (h _ (List.mem_singleton.mpr rfl))
end Fk
/-! FkZb: list.index of deep items. -/
namespace Fk
open PySem PySem.Spec PyProof.Rows L2
def oIdxD : OM := fun d ds st => match ds with
  | [e] => py2 e d st fun a b => (match b with
    | .list ys => (match ys.findIdx? fun z => PyData.eqv z a with
      | some j => .ok (.int ((j : Nat) : Int)) st
      | none => .stuck)
    | _ => .stuck)
  | _ => .stuck
theorem sim_idxD {K : PySem.W.Frag} {T : List (Addr × Str)} : SimM K T (rIndexD K) oIdxD := fun E w H st x xs d ds Q r dx dv p => by
  cases dv with
  | nil => exact p.elim
  | cons hy rest =>
    cases rest with
    | cons _ _ => exact p.elim
    | nil =>
      obtain ⟨a, b, h1, h2, s1, s2, p'⟩ := py2_at r hy dx p
      cases h2 with
      | @lst q vs ys hq ha =>
        dsimp only at p'
        cases q2 : ys.findIdx? (fun z => PyData.eqv z a) with
        | none => rw [q2] at p'; exact p'.elim
        | some j =>
          rw [q2] at p'
          obtain ⟨hj, z1, z2⟩ := List.findIdx?_eq_some_iff_getElem.mp q2
          refine ⟨_, _, a, ys, j, ys[j], rfl, rfl, .lst hq ha, h1, s2, s1, List.getElem?_eq_getElem hj, z1, fun m z' hm hz => ?_, p'.here r (.int _)⟩
          have hml : m < ys.length := by omega
          rw [List.getElem?_eq_getElem hml] at hz
          cases hz
          simpa using z2 m hm
      | _ => exact p'.elim
section
variable {X : Cx} {T : List (Addr × Str)} {E : XK} {o e : Expr} {fa fe : LE} {apos pos : Pos} {k : Nat}
theorem x_idxD (hr : Room k X.A) (ho : PEf X T E o fa) (he : PEf X T E e fe) (hbase : attributeBase o "index" X.env (eval o X.env) = eval o X.env := by rfl)
    (hfew : ((backTo pos (starEach [e] X.env)).all (fun x => !x.1) && (backToKw pos (keywordEach [] X.env)).all (fun x => x.1.isSome)
      && decide ([e].length + ([] : List Keyword).length + (if ([] : List Keyword).isEmpty then 0 else 1) < 30)) = true := by rfl)
    (hline : (apos.endLine == pos.line) = true := by rfl) (hs : starEach [e] X.env = (false, eval e X.env) :: starEach [] X.env := by rfl) : PEf X T E (.Call (.Attribute o "index" apos) [e] [] pos) (fBM isL oIdxD fa (fCons fe fNil)) :=
  x_bm PySem.F.plainAttrs_list PySem.F.slot_list_index PySem.F.type_list_index (mt_indexD (by have := hr.un; omega)) sim_idxD ty_list ho (x_cons he x_nil hs) hbase hfew hline hs
end
theorem findIdx_D {d : D} {a : PyData} (hd : D.py d = some a) : ∀ {xs : List D} {ys : List PyData}, D.pys xs = some ys → ys.findIdx? (fun z => PyData.eqv z a) = xs.findIdx? fun z => eqD z d
  | [], ys, h => by cases (show some [] = some ys from h); rfl
  | x :: xs, ys, h => by
    have h' : (match D.py x, D.pys xs with
      | some a, some b => some (a :: b)
      | _, _ => none) = some ys := h
    cases q1 : D.py x with
    | none => rw [q1] at h'; cases h'
    | some b =>
      cases q2 : D.pys xs with
      | none => rw [q1, q2] at h'; cases h'
      | some bs =>
        rw [q1, q2] at h'
        cases h'
        rw [List.findIdx?_cons, List.findIdx?_cons, findIdx_D hd q2, eqv_D x d b a q1 hd]
theorem oIdxD_at {e d : D} {xs : List D} {st : Store} (he : (e = .lst xs) ∨ ∃ k, e = .ref k ∧ st[k]? = some (.lst xs)) (h1 : rdyD d = true) (h2 : rdyDs xs = true) (h3 : depD d ≤ 64) (h4 : depDs xs ≤ 63) {j : Nat} (hj : xs.findIdx? (fun z => eqD z d) = some j) :
    oIdxD e [d] st = .ok (.int (j : Int)) st := by
  obtain ⟨a, p1, p2, p3⟩ := rdy_py d h1
  obtain ⟨ys, q1, q2, q3⟩ := rdys_py xs h2
  have hr : rdyD (.lst xs) = true := by simpa [rdyD] using h2
  have hdp : depD (.lst xs) ≤ 64 := by simp only [depD]; omega
  obtain ⟨b, b1, b2, b3⟩ := rdy_py (.lst xs) hr
  have hb : b = .list ys := by
    have e : D.py (.lst xs) = (D.pys xs).map PyData.list := rfl
    rw [e, q1] at b1
    cases b1
    rfl
  subst hb
  have s1 : SeqAt.shaped a = true := by unfold SeqAt.shaped; simp [p2, p3, h3]
  have s2 : SeqAt.shaped (.list ys) = true := by unfold SeqAt.shaped; simp [b2, b3, hdp]
  have top : topOf e st = .lst xs := by
    rcases he with rfl | ⟨k, rfl, hk⟩
    · exact topOf_rdy hr st
    · exact topOf_ref hk
  have key : ∀ g : PyData → PyData → Res D, py2 d e st g = g a (.list ys) := fun g => by
    unfold py2
    rw [topOf_rdy h1, top, p1, b1]
    exact if_pos ⟨s1, s2⟩
  show py2 d e st _ = _
  rw [key]
  dsimp only
  rw [findIdx_D p1 q1, hj]
theorem oIdxD_tups {e : D} {l : List (List Int)} {st : Store} (he : (e = .lst (l.map fun a => D.tup (a.map D.int))) ∨ ∃ k, e = .ref k ∧ st[k]? = some (.lst (l.map fun a => D.tup (a.map D.int)))) (a : List Int) {j : Nat} (hj : l.findIdx? (fun z => decide (z = a)) = some j) :
    oIdxD e [.tup (a.map D.int)] st = .ok (.int (j : Int)) st := by
  obtain ⟨r1, r2, _⟩ := rdy_tupI a
  obtain ⟨t1, t2, _⟩ := rdy_tups l
  refine oIdxD_at he r1 t1 (by omega) (by omega) ?_
  rw [List.findIdx?_map]
  have : ((fun z => eqD z (D.tup (a.map D.int))) ∘ fun a : List Int => D.tup (a.map D.int)) = fun z => decide (z = a) := by
    funext z
    exact eqD_tups z a
  rw [this, hj]
end Fk
/-! FkZc: min of a list of tuples of ints. -/
namespace Fk
open PySem PySem.Spec PyProof.Rows L2
/-! ### min(l), l a list of data that can be compared -/
def rMinT (K : PySem.W.Frag) : List V → Hp → VK → Prop := fun vs H Q => ∃ (a : Addr) (ys : List V) (x : PyData) (xs : List PyData), vs = [V.ref a] ∧ SqL K H a ys ∧ DpAll K H ys (x :: xs) ∧ PySem.W.AlikeAll (x :: xs) ∧ PyData.canLayAll0 (x :: xs) = true ∧ PyData.depthAll (x :: xs) ≤ 32 ∧
  (PySem.W.minD x xs).canLay0 = true ∧ ∀ (i : Nat) (v : V), ys[i]? = some v → (x :: xs)[i]? = some (PySem.W.minD x xs) → Q v H
theorem cr_minT {X : Cx} (hc : X.calm = true) (hu : X.A.units + 65 < cLine) : CallR X (.builtin "min") (rMinT X.K) := by
  intro pins s σ H vs us Q I r h
  obtain ⟨a, ys, x, xs, rfl, hs, hd, hal, hcl, hdp, hcm, q⟩ := h
  obtain ⟨its, rv, hl, _⟩ := I.list hs
  rw [Vals.ref1 r]
  obtain ⟨as, h4⟩ := Dp.readsAll I (x :: xs) _ its hd rv
  refine PySem.W.min_list_data (I.ok.hd hc) hl.isList (show ReadsAll s.heap its.toArray.toList (x :: xs) as from h4) hal (by omega) fun i v h' tk bs hv hrd hk => ?_
  have hv2 : its[i]? = some v := by simpa using hv
  have hi : i < its.length := (List.getElem?_eq_some_iff.mp hv2).1
  obtain ⟨y, hy, ry⟩ : ∃ y, ys[i]? = some y ∧ RelV y v := by
    have hyl : i < ys.length := by rw [rv.length]; exact hi
    obtain ⟨u, hu2, ru⟩ := rv.get (List.getElem?_eq_getElem hyl)
    rw [hv2] at hu2
    cases hu2
    exact ⟨_, List.getElem?_eq_getElem hyl, ru⟩
  have hmap : its.map (SeqAt.readOf s.heap) = x :: xs := SeqAt.readsAll_map (x :: xs) its as hcl h4
  have hat : (x :: xs)[i]? = some (SeqAt.readOf s.heap v) := by
    rw [← hmap, List.getElem?_map, hv2] <;> rfl
  obtain ⟨bs2, r2, _, _, _⟩ := PySem.W.readsAll_at h4 i v hv2
  have hgd : (x :: xs).getD i .none = SeqAt.readOf s.heap v := by rw [List.getD_eq_getElem?_getD, hat] <;> rfl
  have e1 : SeqAt.readOf h' v = PySem.W.minD x xs := SeqAt.readOf_eq hcm hrd
  have hcv : (SeqAt.readOf s.heap v).canLay0 = true := by
    have hm : SeqAt.readOf s.heap v ∈ x :: xs := List.mem_of_getElem? hat
    have : ∀ l : List PyData, PyData.canLayAll0 l = true → ∀ z ∈ l, z.canLay0 = true := fun l => by
      induction l with
      | nil => intro _ z hz; cases hz
      | cons b l ih =>
        intro hl z hz
        have hl' : b.canLay0 = true ∧ PyData.canLayAll0 l = true := by simpa [PyData.canLayAll0] using hl
        rcases List.mem_cons.mp hz with rfl | hz
        · exact hl'.1
        · exact ih hl'.2 z hz
    exact this _ hcl _ hm
  have e2 : SeqAt.readOf h' v = SeqAt.readOf s.heap v := by
    rw [hgd] at r2
    exact SeqAt.readOf_eq hcv (Reads.keeps hk r2)
  rw [← e2, e1] at hat
  exact ⟨y, H, I.kept hk, ry, q i y hy hat⟩
/-! ### lists of ints, the less -/
def ltL : List Int → List Int → Bool
  | x :: xs, y :: ys => if x = y then ltL xs ys else decide (x < y)
  | [], _ :: _ => true
  | _, [] => false
def minT (a : List Int) (l : List (List Int)) : List Int := l.foldl (fun a y => if ltL y a then y else a) a
theorem lex_ints : ∀ a b : List Int, a.length = b.length → PyProof.Rows.lexLt PyProof.Rows.itemOrd (PySem.W.keyToksAll (a.map PyData.int)) (PySem.W.keyToksAll (b.map PyData.int)) = ltL a b
  | [], [], _ => PyProof.Rows.lex_irrefl _
  | [], _ :: _, h => by cases h
  | _ :: _, [], h => by cases h
  | x :: xs, y :: ys, h => by
    have ih := lex_ints xs ys (by simpa using h)
    rw [List.map_cons, List.map_cons, PySem.W.dataLt_cons (by simp [PySem.W.alike]), PySem.W.dataLt_int, ih]
    have e0 : ltL (x :: xs) (y :: ys) = if x = y then ltL xs ys else decide (x < y) := rfl
    rw [e0]
    by_cases e : x = y
    · simp [e, PyData.eqv]
    · simp [e, PyData.eqv]
def pyT (a : List Int) : PyData := .tuple (a.map PyData.int)
theorem minD_pyT : ∀ (l : List (List Int)) (a : List Int), (∀ b ∈ l, b.length = a.length) → PySem.W.minD (pyT a) (l.map pyT) = pyT (minT a l)
  | [], a, _ => rfl
  | b :: l, a, h => by
    have hb := h b List.mem_cons_self
    have ih := fun c (hc : c.length = a.length) => minD_pyT l c fun d hd => by rw [h d (List.mem_cons_of_mem _ hd), hc]
    have e : PySem.W.dataLt (pyT b) (pyT a) = ltL b a := by
      unfold pyT
      rw [PySem.W.dataLt_tuple, lex_ints b a hb]
    unfold PySem.W.minD minT at *
    rw [List.map_cons, List.foldl_cons, List.foldl_cons, e]
    by_cases c : ltL b a = true
    · rw [if_pos c, if_pos c]
      exact ih b hb
    · rw [if_neg c, if_neg c]
      exact ih a rfl
theorem minT_mem : ∀ (l : List (List Int)) (a : List Int), minT a l ∈ a :: l
  | [], a => List.mem_singleton.mpr rfl
  | b :: l, a => by
    show minT (if ltL b a then b else a) l ∈ _
    have := minT_mem l (if ltL b a then b else a)
    rcases List.mem_cons.mp this with h | h
    · rw [h]
      split
      · exact List.mem_cons_of_mem _ List.mem_cons_self
      · exact List.mem_cons_self
    · exact List.mem_cons_of_mem _ (List.mem_cons_of_mem _ h)
def oMinT : OA := fun ds st => match ds with
  | [d] => (match rdOf d st with
    | some xs => (match tupsOf xs with
      | some (a :: l) => if okTs (a :: l) = true then .ok (.tup ((minT a l).map D.int)) st else .stuck
      | _ => .stuck)
    | none => .stuck)
  | _ => .stuck
theorem py_ints : ∀ a : List Int, D.pys (a.map D.int) = some (a.map PyData.int)
  | [] => rfl
  | x :: a => by
    have ih := py_ints a
    show (match D.py (.int x), D.pys (a.map D.int) with
      | some a, some b => some (a :: b)
      | _, _ => none) = _
    rw [ih]
    rfl
theorem py_tups : ∀ l : List (List Int), D.pys (l.map fun a => D.tup (a.map D.int)) = some (l.map pyT)
  | [] => rfl
  | x :: l => by
    have ih := py_tups l
    show (match D.py (.tup (x.map D.int)), D.pys (l.map fun a => D.tup (a.map D.int)) with
      | some a, some b => some (a :: b)
      | _, _ => none) = _
    have e : D.py (.tup (x.map D.int)) = (D.pys (x.map D.int)).map PyData.tuple := rfl
    rw [ih, e, py_ints]
    rfl
theorem canI : ∀ a : List Int, PyData.canLayAll0 (a.map PyData.int) = true ∧ PyData.depthAll (a.map PyData.int) ≤ 1
  | [] => ⟨by simp [PyData.canLayAll0], by simp [PyData.depthAll]⟩
  | x :: a => by
    obtain ⟨h1, h2⟩ := canI a
    refine ⟨by simp [PyData.canLayAll0, PyData.canLay0, h1], ?_⟩
    simp only [List.map_cons, PyData.depthAll, PyData.depth]
    omega
theorem canT (a : List Int) : (pyT a).canLay0 = true ∧ (pyT a).depth ≤ 2 := by
  obtain ⟨h1, h2⟩ := canI a
  refine ⟨by simp [pyT, PyData.canLay0, h1], ?_⟩
  simp only [pyT, PyData.depth]
  omega
theorem canTs : ∀ l : List (List Int), PyData.canLayAll0 (l.map pyT) = true ∧ PyData.depthAll (l.map pyT) ≤ 3
  | [] => ⟨by simp [PyData.canLayAll0], by simp [PyData.depthAll]⟩
  | a :: l => by
    obtain ⟨h1, h2⟩ := canT a
    obtain ⟨h3, h4⟩ := canTs l
    refine ⟨by simp [PyData.canLayAll0, h1, h3], ?_⟩
    simp only [List.map_cons, PyData.depthAll]
    omega
theorem alikeI : ∀ a b : List Int, PySem.W.alikeAll (a.map PyData.int) (b.map PyData.int) = true
  | [], _ => by simp [PySem.W.alikeAll]
  | _ :: _, [] => by simp [PySem.W.alikeAll]
  | x :: a, y :: b => by simp [PySem.W.alikeAll, PySem.W.alike, alikeI a b]
theorem alikeT (l : List (List Int)) : PySem.W.AlikeAll (l.map pyT) := by
  refine ⟨fun x hx y hy => ?_, fun x hx => ?_⟩
  · obtain ⟨a, _, rfl⟩ := List.mem_map.mp hx
    obtain ⟨b, _, rfl⟩ := List.mem_map.mp hy
    simp [pyT, PySem.W.alike, alikeI]
  · obtain ⟨a, _, rfl⟩ := List.mem_map.mp hx
    intro z
    cases z
theorem pyT_inj {a b : List Int} (h : pyT a = pyT b) : a = b := by
  unfold pyT at h
  injection h with h
  have : ∀ a b : List Int, a.map PyData.int = b.map PyData.int → a = b := fun a => by
    induction a with
    | nil => intro b h; cases b with
      | nil => rfl
      | cons y b => cases h
    | cons x a ih =>
      intro b h
      cases b with
      | nil => cases h
      | cons y b =>
        injection h with h1 h2
        injection h1 with h1
        rw [h1, ih b h2]
  exact this a b h
theorem sim_minT {K : PySem.W.Frag} {T : List (Addr × Str)} : SimRA K T (rMinT K) oMinT := fun E w H st vs ds Q r dv p => by
  unfold oMinT at p
  match ds, dv with
  | [], _ => exact p.elim
  | _ :: _ :: _, _ => exact p.elim
  | [d], dv =>
    obtain ⟨x, rfl, dx⟩ := dv.ofOne
    dsimp only at p
    cases q1 : rdOf d st with
    | none => rw [q1] at p; exact p.elim
    | some xs =>
      rw [q1] at p
      dsimp only at p
      obtain ⟨a, us, rfl, h1, h2⟩ := rd_at r dx q1
      cases q2 : tupsOf xs with
      | none => rw [q2] at p; exact p.elim
      | some l =>
        rw [q2] at p
        cases l with
        | nil => exact p.elim
        | cons b l =>
          dsimp only at p
          have p' : Post K T E Dat w H (if okTs (b :: l) = true then .ok (.tup ((minT b l).map D.int)) st else .stuck) Q := p
          by_cases c : okTs (b :: l) = true
          · rw [if_pos c] at p'
            have ex := tups_at q2
            subst ex
            obtain ⟨n, hn, hok⟩ := okTs_at c
            have hlen : ∀ e ∈ l, e.length = b.length := fun e he => by
              rw [(hok e (List.mem_cons_of_mem _ he)).1, (hok b List.mem_cons_self).1]
            have hm := minD_pyT l b hlen
            have hdp := Dats.dp r h2 (py_tups (b :: l))
            obtain ⟨c1, c2⟩ := canTs (b :: l)
            refine ⟨a, us, pyT b, l.map pyT, rfl, h1, hdp, alikeT (b :: l), c1, by have : PyData.depthAll (pyT b :: l.map pyT) ≤ 3 := c2; omega, by rw [hm]; exact (canT _).1, fun i v hv hi => ?_⟩
            rw [hm] at hi
            obtain ⟨d', hd', dv'⟩ := h2.getV hv
            have hi' : ((b :: l).map pyT)[i]? = some (pyT (minT b l)) := hi
            rw [List.getElem?_map] at hi' hd'
            cases z : (b :: l)[i]? with
            | none => rw [z] at hi'; cases hi'
            | some e =>
              rw [z] at hi' hd'
              have he : e = minT b l := pyT_inj (Option.some.inj hi')
              cases hd'
              rw [he] at dv'
              exact p'.here r dv'
          · rw [if_neg c] at p'
            exact p'.elim
theorem oMinT_lst {a : List Int} {l : List (List Int)} (h : okTs (a :: l) = true) (st : Store) : oMinT [.lst ((a :: l).map fun a => D.tup (a.map D.int))] st = .ok (.tup ((minT a l).map D.int)) st := by
  have e : ∀ l : List (List Int), tupsOf (l.map fun a => D.tup (a.map D.int)) = some l := fun l => by
    induction l with
    | nil => rfl
    | cons a l ih =>
      show (match intsOf (a.map D.int), tupsOf (l.map fun a => D.tup (a.map D.int)) with
        | some a, some b => some (a :: b)
        | _, _ => none) = _
      rw [intsOf_map, ih]
  show (match tupsOf ((a :: l).map fun a => D.tup (a.map D.int)) with
      | some (a :: l) => if okTs (a :: l) = true then Res.ok (D.tup ((minT a l).map D.int)) st else .stuck
      | _ => .stuck) = _
  rw [e]
  exact if_pos h
theorem cr_minTr {X : Cx} {k : Nat} (hc : X.calm = true) (hr : Room k X.A) : CallR X (.builtin "min") (rMinT X.K) := cr_minT hc (by have := hr.un; omega)
end Fk
/-! FkZd: makes and methods with keyword-only parameters; tuple * int; list.pop(i). -/
namespace Fk
open PySem PySem.Spec PyProof.Rows L2
def fMakeD (c : Str) (n : Nat) (dd : List D) (fm : FM) (g : LA) : LE := fun env st => (g env st).bind fun ds st1 => if ds.length + 1 = n then (fm (.ref st1.length :: (ds ++ dd)) (st1 ++ [.ins c []])).bind fun z st2 => (match z with
  | .non => .ok (.ref st1.length) st2
  | _ => .stuck) else .stuck
def fMakeK (c : Str) (n m : Nat) (fm : FM) (g h : LA) : LE := fun env st => (g env st).bind fun ds st1 => (h env st1).bind fun es st2 => if ds.length + 1 = n ∧ es.length = m then (fm (.ref st2.length :: (ds ++ es)) (st2 ++ [.ins c []])).bind fun z st3 => (match z with
  | .non => .ok (.ref st2.length) st3
  | _ => .stuck) else .stuck
def fMethD (c m : Str) (n : Nat) (dd : List D) (fm : FM) (fa : LE) (g : LA) : LE := fun env st => (fa env st).bind fun d st1 => match insOf c d st1 with
  | some (_, fs) => (match fs.lookup m with
    | none => (g env st1).bind fun ds st2 => if ds.length + 1 = n then fm (d :: (ds ++ dd)) st2 else .stuck
    | some _ => .stuck)
  | none => .stuck
def fMethK (c m : Str) (n k : Nat) (fm : FM) (fa : LE) (g h : LA) : LE := fun env st => (fa env st).bind fun d st1 => match insOf c d st1 with
  | some (_, fs) => (match fs.lookup m with
    | none => (g env st1).bind fun ds st2 => (h env st2).bind fun es st3 => if ds.length + 1 = n ∧ es.length = k then fm (d :: (ds ++ es)) st3 else .stuck
    | some _ => .stuck)
  | none => .stuck
/-! ### o.m(e, .., k = v, ..) -/
def tMethN (C : Addr) (m : Str) (n mm : Nat) (sp : Sp) (gV : List V → List V → List V) (E : XK) (ta : TE) (t tk : TA) : TE := fun σ H Q => ta σ H fun x H1 => ∃ a dx fs, x = .ref a ∧ H1 a = some (.ins C dx fs) ∧ fs.lookup m = none ∧
  t σ H1 fun vs H2 => tk σ H2 fun zs H3 => vs.length + 1 = n ∧ zs.length = mm ∧ sp (gV (x :: vs) zs) H3 Q E
section
variable {X : Cx} {CX : CXT} {k n : Nat} {C f : Addr} {m : Str} {fd : FuncData} {ps ks : List Str} {sp : Sp} {E : XK} {p apos pos : Pos} {o e : Expr} {es : List Expr} {kws : List Keyword} {ta : TE} {t tk : TA} {g : List Value → List Value → List Value} {gV : List V → List V → List V}
theorem pe_methN {pl : Sem Bool} (he : PE X o ta) (c : Cls X.K C) (hm : Meth X.K C m f) (F : FnOk X.prog X.w X.K X.mg X.base CX k f fd ps sp) (hr : Room k X.A) (hb : KBn X.K fd ps n ks g gV) (hx : Passes CX X E) (ha : PA X (e :: es) t) (hkw : PK X kws tk)
    (hall : (backToKw pos (keywordEach kws X.env)).all (·.1.isSome) = true := by rfl) (hks : (backToKw pos (keywordEach kws X.env)).filterMap (·.1) = ks := by rfl)
    (hst : starEach (e :: es) X.env = (false, eval e X.env) :: starEach es X.env := by rfl) (hpl : ((backTo pos (starEach (e :: es) X.env)).any (·.1) || (backToKw pos (keywordEach kws X.env)).any (·.1.isNone)) = false := by rfl)
    (ht : eval (.Call (.Attribute o m apos) (e :: es) kws pos) X.env = (do
      let ov ← eval o X.env
      standAt apos.atName
      let (f, first) ← holding [ov] (getMethod ov m pl)
      callWith pos f first (backTo pos (starEach (e :: es) X.env)) (backToKw pos (keywordEach kws X.env))) := by rfl) :
    PE X (.Call (.Attribute o m apos) (e :: es) kws pos) (tMethN C m n ks.length sp gV E ta t tk) := by
  refine ⟨fun pins s σ H Q I h => ?_⟩
  refine PySem.W.methodCall_KW (pl := pl) (thn (he.run pins s σ H _ I h) fun u s1 ⟨x, H1, I1, rx, a, dx, fs, ex, ea, l, q⟩ => ?_) ht
  subst ex
  obtain rfl : u = Value.ref a := rx
  refine getmeth_ok I1 ea c hm l ?_
  refine PySem.W.callWith_KW (first := [.ref a]) (h₀ := X.base) I.ok.mod.kin hm.kp hall (thn (ha.run pos pins s1 σ H1 _ I1 q) fun us s2 ⟨vs, H2, I2, r, q2⟩ => ?_) hpl hst
  refine thn (hkw.run pos pins s2 σ H2 _ I2 q2) fun ws s3 ⟨zs, H3, I3, rz, l1, l2, q3⟩ => ⟨I3.kIn, ?_⟩
  rw [hks]
  exact run_fnN (us := .ref a :: us) (vs := .ref a :: vs) F hr hb hx I3 (.cons rfl r) rz l1 l2 q3
end
section
variable {X : Cx} {T : List (Addr × Str)} {E : XK} {pos p apos : Pos} {m c : Str} {j k n : Nat} {dd : List D} {ks : List Str} {fm : FM} {g h : LA} {e o : Expr} {es : List Expr} {kws : List Keyword} {fa : LE}
theorem x_methD {pl : Sem Bool} (F : FoPd X.prog X.w X.K X.mg X.base T j (c, some m) n dd fm) (hr : Room k X.A) (px : Passes (L2.CX X.prog X.w) X E) (cl : Cls X.K (He.ga X.K c)) (hm : Meth X.K (He.ga X.K c) m (He.ma X.K (He.ga X.K c) m)) (ho : PEf X T E o fa) (ha : PAf X T E (e :: es) g) (hjk : j ≤ k := by decide)
    (hst : starEach (e :: es) X.env = (false, eval e X.env) :: starEach es X.env := by rfl) (hpl : (backTo pos (starEach es X.env)).any (·.1) = false := by rfl)
    (ht : eval (.Call (.Attribute o m apos) (e :: es) [] pos) X.env = (do
      let ov ← eval o X.env
      standAt apos.atName
      let (f, first) ← holding [ov] (getMethod ov m pl)
      callWith pos f first (backTo pos (starEach (e :: es) X.env)) (backToKw pos (keywordEach [] X.env))) := by rfl) :
    PEf X T E (.Call (.Attribute o m apos) (e :: es) [] pos) (fMethD c m n dd fm fa g) := by
  obtain ⟨⟨fd, ps, dvs, ds, F1, b, rv, hd⟩, kp⟩ := F
  refine pe_to (pe_meth ho cl hm F1 (hr.mono hjk) b rv px ha hst hpl ht) fun w σ H env st Q he r p => ?_
  refine ⟨w, env, st, he, r, p.bind fun w1 y H1 d st1 s1 r1 dx p1 => ?_⟩
  cases q : insOf c d st1 with
  | none => rw [q] at p1; exact p1.elim
  | some kf =>
    obtain ⟨k, fs⟩ := kf
    rw [q] at p1
    dsimp only at p1
    cases q2 : fs.lookup m with
    | some _ => rw [q2] at p1; exact p1.elim
    | none =>
      rw [q2] at p1
      dsimp only at p1
      obtain ⟨a, dx', us, rfl, _, _, hH, hf⟩ := ins_at r1 dx q
      refine ⟨a, dx', us, rfl, hH, (hf.look m).1 q2, w1, env, st1, he.mono s1.le, r1, p1.bind fun w2 vs H2 ds st2 s2 r2 dv p2 => ?_⟩
      by_cases z : ds.length + 1 = n
      · rw [if_pos z] at p2
        have dv2 := dv.append (hd w2)
        exact ⟨by rw [List.length_cons, dv2.length, List.length_append]; omega, w2, d :: (ds ++ dd), st2, .cons (dx.mono s2.le) dv2, r2, p2⟩
      · rw [if_neg z] at p2
        exact p2.elim
theorem x_methK {pl : Sem Bool} (F : FoPk X.prog X.w X.K X.mg X.base T j (c, some m) n ks fm) (hr : Room k X.A) (px : Passes (L2.CX X.prog X.w) X E) (cl : Cls X.K (He.ga X.K c)) (hm : Meth X.K (He.ga X.K c) m (He.ma X.K (He.ga X.K c) m)) (ho : PEf X T E o fa) (ha : PAf X T E (e :: es) g) (hkw : PKf X T E kws h)
    (hks : (backToKw pos (keywordEach kws X.env)).filterMap (·.1) = ks := by rfl) (hjk : j ≤ k := by decide) (hall : (backToKw pos (keywordEach kws X.env)).all (·.1.isSome) = true := by rfl)
    (hst : starEach (e :: es) X.env = (false, eval e X.env) :: starEach es X.env := by rfl) (hpl : ((backTo pos (starEach (e :: es) X.env)).any (·.1) || (backToKw pos (keywordEach kws X.env)).any (·.1.isNone)) = false := by rfl)
    (ht : eval (.Call (.Attribute o m apos) (e :: es) kws pos) X.env = (do
      let ov ← eval o X.env
      standAt apos.atName
      let (f, first) ← holding [ov] (getMethod ov m pl)
      callWith pos f first (backTo pos (starEach (e :: es) X.env)) (backToKw pos (keywordEach kws X.env))) := by rfl) :
    PEf X T E (.Call (.Attribute o m apos) (e :: es) kws pos) (fMethK c m n ks.length fm fa g h) := by
  obtain ⟨⟨fd, ps, F1, b⟩, kp⟩ := F
  refine pe_to (pe_methN ho cl hm F1 (hr.mono hjk) b px ha hkw hall hks hst hpl ht) fun w σ H env st Q he r p => ?_
  refine ⟨w, env, st, he, r, p.bind fun w1 y H1 d st1 s1 r1 dx p1 => ?_⟩
  cases q : insOf c d st1 with
  | none => rw [q] at p1; exact p1.elim
  | some kf =>
    obtain ⟨k, fs⟩ := kf
    rw [q] at p1
    dsimp only at p1
    cases q2 : fs.lookup m with
    | some _ => rw [q2] at p1; exact p1.elim
    | none =>
      rw [q2] at p1
      dsimp only at p1
      obtain ⟨a, dx', us, rfl, _, _, hH, hf⟩ := ins_at r1 dx q
      refine ⟨a, dx', us, rfl, hH, (hf.look m).1 q2, w1, env, st1, he.mono s1.le, r1, p1.bind fun w2 vs H2 ds st2 s2 r2 dv p2 => ?_⟩
      refine ⟨w2, env, st2, (he.mono s1.le).mono s2.le, r2, p2.bind fun w3 zs H3 es st3 s3 r3 dz p3 => ?_⟩
      by_cases z : ds.length + 1 = n ∧ es.length = ks.length
      · rw [if_pos z] at p3
        have dv2 := (dv.mono s3.le).append dz
        exact ⟨by rw [dv.length]; exact z.1, by rw [dz.length]; exact z.2, by
          show (V.ref a :: (vs ++ zs)).length = _
          rw [List.length_cons, dv2.length, List.length_append]
          omega, w3, d :: (ds ++ es), st3, .cons ((dx.mono s2.le).mono s3.le) dv2, r3, p3⟩
      · rw [if_neg z] at p3
        exact p3.elim
theorem made_at {K : PySem.W.Frag} {w1 : Wd} {H1 : Hp} {st1 : Store} (r1 : Rel K T w1 H1 st1) {a dxa : Addr} (ha : H1 a = none) (hdx : H1 dxa = none) (hne : dxa ≠ a) :
    ∃ w2, Stp w1 H1 w2 (upd (upd H1 dxa (.own a)) a (.ins (He.ga K c) dxa [])) ∧ Rel K T w2 (upd (upd H1 dxa (.own a)) a (.ins (He.ga K c) dxa [])) (st1 ++ [.ins c []]) ∧ Dat w2 (.ref a) (.ref st1.length) := by
  have hk : ∀ b u, H1 b = some u → upd (upd H1 dxa (.own a)) a (.ins (He.ga K c) dxa []) b = some u := fun b u h => by
    rw [upd_ne (fun q => by rw [q, ha] at h; cases h), upd_ne (fun q => by rw [q, hdx] at h; cases h)]
    exact h
  obtain ⟨s2, r2⟩ := r1.grown ha hk (c := .ins c []) ⟨r1.freeF ha, dxa, [], upd_same, rfl, .nil⟩
  exact ⟨_, s2, r2, .ref (by
    show (w1.ads ++ [a])[st1.length]? = some a
    rw [← r1.len]
    simp)⟩
theorem x_makeD (M : Mk X.K (He.ga X.K c) (He.ma X.K (He.ga X.K c) "__init__")) (F : FoPd X.prog X.w X.K X.mg X.base T j (c, some "__init__") n dd fm) (hr : Room k X.A) (px : Passes (L2.CX X.prog X.w) X E) (hm : X.mg c = some (.ref (He.ga X.K c))) (ha : PAf X T E (e :: es) g) (hjk : j + 1 ≤ k := by decide) (hg : Gl X c := by rfl)
    (hdb : (c == ("__debug__" : Str)) = false := by decide) (he : starEach (e :: es) X.env = (false, eval e X.env) :: starEach es X.env := by rfl) (hpl : (backTo pos (starEach es X.env)).any (·.1) = false := by rfl) :
    PEf X T E (.Call (.Name c p) (e :: es) [] pos) (fMakeD c n dd fm g) := by
  obtain ⟨⟨fd, ps, dvs, ds, F1, b, rv, hd⟩, kp⟩ := F
  refine pe_to (pe_make M F1 (hr.mono hjk) hg hm b rv px ha hdb he hpl) fun w σ H env st Q he r p => ?_
  refine ⟨w, env, st, he, r, p.bind fun w1 vs H1 ds st1 s1 r1 dv p1 => ?_⟩
  by_cases z : ds.length + 1 = n
  · rw [if_pos z] at p1
    intro a dxa ha hdx hne
    obtain ⟨w2, s2, r2, dself⟩ := made_at (c := c) r1 ha hdx hne
    have dv2 := (dv.mono s2.le).append (hd w2)
    refine ⟨by rw [List.length_cons, dv2.length, List.length_append]; omega, w2, .ref st1.length :: (ds ++ dd), _, .cons dself dv2, r2, (Post.pull p1 s2).bind fun w3 v H3 d st3 s3 r3 dvv p3 => ?_⟩
    cases dvv with
    | non => exact ⟨rfl, p3.here r3 (dself.mono s3.le)⟩
    | _ => exact p3.elim
  · rw [if_neg z] at p1
    exact p1.elim
theorem x_makeK (M : Mk X.K (He.ga X.K c) (He.ma X.K (He.ga X.K c) "__init__")) (F : FoPk X.prog X.w X.K X.mg X.base T j (c, some "__init__") (n + 1) ks fm) (hr : Room k X.A) (px : Passes (L2.CX X.prog X.w) X E) (hm : X.mg c = some (.ref (He.ga X.K c))) (ha : PAf X T E (e :: es) g) (hkw : PKf X T E kws h)
    (hks : (backToKw pos (keywordEach kws X.env)).filterMap (·.1) = ks := by rfl) (hjk : j + 1 ≤ k := by decide) (hall : (backToKw pos (keywordEach kws X.env)).all (·.1.isSome) = true := by rfl) (hg : Gl X c := by rfl)
    (hdb : (c == ("__debug__" : Str)) = false := by decide) (he : starEach (e :: es) X.env = (false, eval e X.env) :: starEach es X.env := by rfl)
    (hpl : ((backTo pos (starEach (e :: es) X.env)).any (·.1) || (backToKw pos (keywordEach kws X.env)).any (·.1.isNone)) = false := by rfl) :
    PEf X T E (.Call (.Name c p) (e :: es) kws pos) (fMakeK c (n + 1) ks.length fm g h) := by
  obtain ⟨⟨fd, ps, F1, b⟩, kp⟩ := F
  refine pe_to (pe_makeK M F1 (hr.mono hjk) hg hm b px ha hkw hall hks hdb he hpl) fun w σ H env st Q he r p => ?_
  refine ⟨w, env, st, he, r, p.bind fun w1 vs H1 ds st1 s1 r1 dv p1 => ?_⟩
  refine ⟨w1, env, st1, he.mono s1.le, r1, p1.bind fun w2 zs H2 es st2 s2 r2 dz p2 => ?_⟩
  by_cases z : ds.length + 1 = n + 1 ∧ es.length = ks.length
  · rw [if_pos z] at p2
    refine ⟨by have := z.1; rw [dv.length]; omega, by rw [dz.length]; exact z.2, fun a dxa ha hdx hne => ?_⟩
    obtain ⟨w3, s3, r3, dself⟩ := made_at (c := c) r2 ha hdx hne
    have dv2 := ((dv.mono s2.le).append dz).mono s3.le
    refine ⟨by
      show (V.ref a :: (vs ++ zs)).length = _
      rw [List.length_cons, dv2.length, List.length_append]
      omega, w3, .ref st2.length :: (ds ++ es), _, .cons dself dv2, r3, (Post.pull p2 s3).bind fun w4 v H4 d st4 s4 r4 dvv p4 => ?_⟩
    cases dvv with
    | non => exact ⟨rfl, p4.here r4 (dself.mono s4.le)⟩
    | _ => exact p4.elim
  · rw [if_neg z] at p2
    exact p2.elim
/-! ### tuple * int -/
def oMulT : O2 := fun d e st => match d, e with
  | .tup a, .int k => if a ≠ [] ∧ 2 ≤ k ∧ k ≤ 1000 ∧ a.length ≤ 1000 then .ok (.tup (List.replicate k.toNat a).flatten) st else .stuck
  | _, _ => .stuck
theorem sim_mulT {K : PySem.W.Frag} : SimR2 K T (rRepT K) oMulT := fun E w H st x y d e Q r dx dy p => by
  cases dx with
  | @tup a vs ds hF hv =>
    cases dy with
    | int k =>
      have p3 : Post K T E Dat w H (if ds ≠ [] ∧ 2 ≤ k ∧ k ≤ 1000 ∧ ds.length ≤ 1000 then .ok (.tup (List.replicate k.toNat ds).flatten) st else .stuck) Q := p
      by_cases c : ds ≠ [] ∧ 2 ≤ k ∧ k ≤ 1000 ∧ ds.length ≤ 1000
      · rw [if_pos c] at p3
        refine ⟨a, k, vs, rfl, rfl, SqT.of (r.fr _ _ hF), fun z => ?_, c.2.1, c.2.2.1, by rw [hv.length]; exact c.2.2.2, p3.newT r (Fk.Dats.rep hv _)⟩
        have := hv.length
        rw [z] at this
        exact c.1 (List.eq_nil_of_length_eq_zero this.symm)
      · rw [if_neg c] at p3
        exact p3.elim
    | _ => exact p.elim
  | _ => exact p.elim
theorem x_mulT {a b : Expr} {fa fb : LE} (ha : PEf X T E a fa) (hb : PEf X T E b fb) : PEf X T E (.BinOp a .Mult b pos) (fOp oMulT fa fb) := x_op op_repT sim_mulT ha hb
/-! ### list.pop(i) -/
def oPopAt : OM := fun d ds st => match cellL d st, ds with
  | some (k, xs), [.int i] => if -(2 ^ 63) ≤ i ∧ i < 2 ^ 63 then (match seqIndex? i xs.length with
    | some j => (match xs[j]? with
      | some y => .ok y (st.set k (.lst (xs.eraseIdx j)))
      | none => .stuck)
    | none => .stuck) else .stuck
  | _, _ => .stuck
theorem sim_popAt {K : PySem.W.Frag} : SimM K T rPopAt oPopAt := fun E w H st x xs d ds Q r dx dxs p => by
  unfold oPopAt at p
  cases q : cellL d st with
  | none => rw [q] at p; exact p.elim
  | some kx =>
    obtain ⟨k, ys⟩ := kx
    rw [q] at p
    match ds, dxs with
    | [.int i], .cons d1 .nil =>
      cases d1
      dsimp only at p
      by_cases z : -(2 ^ 63) ≤ i ∧ i < 2 ^ 63
      · rw [if_pos z] at p
        obtain ⟨a, us, rfl, ha', hs', hH, hv⟩ := cell_at r dx q
        cases q2 : seqIndex? i ys.length with
        | none => rw [q2] at p; exact p.elim
        | some j =>
          rw [q2] at p
          dsimp only at p
          cases q3 : ys[j]? with
          | none => rw [q3] at p; exact p.elim
          | some y =>
            rw [q3] at p
            dsimp only at p
            obtain ⟨u, hu, du⟩ := hv.get q3
            obtain ⟨s2, r2⟩ := r.putLst ha' hs' (hv.eraseIdx j)
            exact ⟨a, us, i, j, u, rfl, rfl, hH, z.1, z.2, by rw [hv.length]; exact q2, hu, p w u _ s2 r2 du⟩
      · rw [if_neg z] at p
        exact p.elim
theorem x_popAt {apos : Pos} {o e : Expr} {fa fe : LE} (ho : PEf X T E o fa) (he : PEf X T E e fe)
    (hbase : attributeBase o "pop" X.env (eval o X.env) = eval o X.env := by rfl)
    (hfew : ((backTo pos (starEach [e] X.env)).all (fun x => !x.1) && (backToKw pos (keywordEach [] X.env)).all (fun x => x.1.isSome)
      && decide ([e].length + ([] : List Keyword).length + (if ([] : List Keyword).isEmpty then 0 else 1) < 30)) = true := by rfl)
    (hline : (apos.endLine == pos.line) = true := by rfl) (hs : starEach [e] X.env = (false, eval e X.env) :: starEach [] X.env := by rfl) : PEf X T E (.Call (.Attribute o "pop" apos) [e] [] pos) (fBM isL oPopAt fa (fCons fe fNil)) :=
  x_bm PySem.F.plainAttrs_list PySem.F.slot_list_pop PySem.F.type_list_pop mt_popAt sim_popAt ty_list ho (x_cons he x_nil hs) hbase hfew hline hs
end
/-! ### evaluated -/
def kMakeD (c : Str) (n : Nat) (dd : List D) (fm : FM) : List D → Store → Res D := fun ds st1 => if ds.length + 1 = n then (fm (.ref st1.length :: (ds ++ dd)) (st1 ++ [.ins c []])).bind fun z st2 => (match z with
  | .non => .ok (.ref st1.length) st2
  | _ => .stuck) else .stuck
@[simp] theorem fMakeD_eq (c : Str) (n : Nat) (dd : List D) (fm : FM) (g : LA) (env : DEnv) (st : Store) : fMakeD c n dd fm g env st = (g env st).bind (kMakeD c n dd fm) := (rfl)
@[simp] theorem kMakeD_1 (c : Str) (dd : List D) (fm : FM) (a : D) (st : Store) : kMakeD c 2 dd fm [a] st = (fm (.ref st.length :: a :: dd) (st ++ [.ins c []])).bind (kMake2 st.length) := (rfl)
def kMakeK1 (c : Str) (n m : Nat) (fm : FM) (h : LA) (env : DEnv) : List D → Store → Res D := fun ds st1 => (h env st1).bind fun es st2 => if ds.length + 1 = n ∧ es.length = m then (fm (.ref st2.length :: (ds ++ es)) (st2 ++ [.ins c []])).bind fun z st3 => (match z with
  | .non => .ok (.ref st2.length) st3
  | _ => .stuck) else .stuck
def kMakeK2 (c : Str) (n m : Nat) (fm : FM) (ds : List D) : List D → Store → Res D := fun es st2 => if ds.length + 1 = n ∧ es.length = m then (fm (.ref st2.length :: (ds ++ es)) (st2 ++ [.ins c []])).bind fun z st3 => (match z with
  | .non => .ok (.ref st2.length) st3
  | _ => .stuck) else .stuck
@[simp] theorem fMakeK_eq (c : Str) (n m : Nat) (fm : FM) (g h : LA) (env : DEnv) (st : Store) : fMakeK c n m fm g h env st = (g env st).bind (kMakeK1 c n m fm h env) := (rfl)
@[simp] theorem kMakeK1_eq (c : Str) (n m : Nat) (fm : FM) (h : LA) (env : DEnv) (ds : List D) (st : Store) : kMakeK1 c n m fm h env ds st = (h env st).bind (kMakeK2 c n m fm ds) := (rfl)
@[simp] theorem kMakeK2_11 (c : Str) (fm : FM) (a b : D) (st : Store) : kMakeK2 c 2 1 fm [a] [b] st = (fm [.ref st.length, a, b] (st ++ [.ins c []])).bind (kMake2 st.length) := (rfl)
def kMethD (c m : Str) (n : Nat) (dd : List D) (fm : FM) (g : LA) (env : DEnv) : D → Store → Res D := fun d st1 => match insOf c d st1 with
  | some (_, fs) => (match fs.lookup m with
    | none => (g env st1).bind fun ds st2 => if ds.length + 1 = n then fm (d :: (ds ++ dd)) st2 else .stuck
    | some _ => .stuck)
  | none => .stuck
def kMethD2 (n : Nat) (dd : List D) (fm : FM) (d : D) : List D → Store → Res D := fun ds st2 => if ds.length + 1 = n then fm (d :: (ds ++ dd)) st2 else .stuck
@[simp] theorem fMethD_eq (c m : Str) (n : Nat) (dd : List D) (fm : FM) (fa : LE) (g : LA) (env : DEnv) (st : Store) : fMethD c m n dd fm fa g env st = (fa env st).bind (kMethD c m n dd fm g env) := (rfl)
theorem kMethD_ref {k : Nat} {c m : Str} {fs : List (Str × D)} {st : Store} (h : st[k]? = some (.ins c fs)) (hl : fs.lookup m = none) (n : Nat) (dd : List D) (fm : FM) (g : LA) (env : DEnv) : kMethD c m n dd fm g env (.ref k) st = (g env st).bind (kMethD2 n dd fm (.ref k)) := by
  unfold kMethD
  rw [insOf_ref h]
  dsimp only
  rw [hl]
  rfl
@[simp] theorem kMethD2_1 (dd : List D) (fm : FM) (d a : D) (st : Store) : kMethD2 2 dd fm d [a] st = fm (d :: a :: dd) st := (rfl)
def kMethK (c m : Str) (n k : Nat) (fm : FM) (g h : LA) (env : DEnv) : D → Store → Res D := fun d st1 => match insOf c d st1 with
  | some (_, fs) => (match fs.lookup m with
    | none => (g env st1).bind fun ds st2 => (h env st2).bind fun es st3 => if ds.length + 1 = n ∧ es.length = k then fm (d :: (ds ++ es)) st3 else .stuck
    | some _ => .stuck)
  | none => .stuck
def kMethK2 (n k : Nat) (fm : FM) (h : LA) (env : DEnv) (d : D) : List D → Store → Res D := fun ds st2 => (h env st2).bind fun es st3 => if ds.length + 1 = n ∧ es.length = k then fm (d :: (ds ++ es)) st3 else .stuck
def kMethK3 (n k : Nat) (fm : FM) (d : D) (ds : List D) : List D → Store → Res D := fun es st3 => if ds.length + 1 = n ∧ es.length = k then fm (d :: (ds ++ es)) st3 else .stuck
@[simp] theorem fMethK_eq (c m : Str) (n k : Nat) (fm : FM) (fa : LE) (g h : LA) (env : DEnv) (st : Store) : fMethK c m n k fm fa g h env st = (fa env st).bind (kMethK c m n k fm g h env) := (rfl)
theorem kMethK_ref {j : Nat} {c m : Str} {fs : List (Str × D)} {st : Store} (h0 : st[j]? = some (.ins c fs)) (hl : fs.lookup m = none) (n k : Nat) (fm : FM) (g h : LA) (env : DEnv) : kMethK c m n k fm g h env (.ref j) st = (g env st).bind (kMethK2 n k fm h env (.ref j)) := by
  unfold kMethK
  rw [insOf_ref h0]
  dsimp only
  rw [hl]
  rfl
@[simp] theorem kMethK2_eq (n k : Nat) (fm : FM) (h : LA) (env : DEnv) (d : D) (ds : List D) (st : Store) : kMethK2 n k fm h env d ds st = (h env st).bind (kMethK3 n k fm d ds) := (rfl)
@[simp] theorem kMethK3_11 (fm : FM) (d a b : D) (st : Store) : kMethK3 2 1 fm d [a] [b] st = fm [d, a, b] st := (rfl)
theorem oMulT_of {a : List D} {k : Int} (h : a ≠ [] ∧ 2 ≤ k ∧ k ≤ 1000 ∧ a.length ≤ 1000) (st : Store) : oMulT (.tup a) (.int k) st = .ok (.tup (List.replicate k.toNat a).flatten) st := if_pos h
theorem oPopAt_0 {k : Nat} {x : D} {xs : List D} {st : Store} (h : st[k]? = some (.lst (x :: xs))) : oPopAt (.ref k) [.int 0] st = .ok x (st.set k (.lst xs)) := by
  have e : cellL (.ref k) st = some (k, x :: xs) := by
    show (match st[k]? with
      | some (.lst xs) => some (k, xs)
      | _ => none) = _
    rw [h]
  have e2 : seqIndex? 0 (x :: xs).length = some 0 := by simp [seqIndex?]
  unfold oPopAt
  rw [e]
  dsimp only
  rw [if_pos (by decide), e2]
  rfl
end Fk
/-! FkZe: list + list that is a cell. -/
namespace Fk
open PySem PySem.Spec PyProof.Rows L2
def oAddC : O2 := fun d e st => match lstOf d st, lstOf e st with
  | some a, some b => if a.length + b.length ≤ lim then .ok (.ref st.length) (st ++ [.lst (a ++ b)]) else .stuck
  | _, _ => .stuck
section
variable {K : PySem.W.Frag} {T : List (Addr × Str)}
theorem sim_addC : SimR2 K T rCat oAddC := fun E w H st x y d e Q r dx dy p => by
  unfold oAddC at p
  cases h1 : lstOf d st with
  | none => rw [h1] at p; exact p.elim
  | some a =>
    cases h2 : lstOf e st with
    | none => rw [h1, h2] at p; exact p.elim
    | some b =>
      rw [h1, h2] at p
      have p' : Post K T E Dat w H (if a.length + b.length ≤ lim then .ok (.ref st.length) (st ++ [.lst (a ++ b)]) else .stuck) Q := p
      by_cases q : a.length + b.length ≤ lim
      · rw [if_pos q] at p'
        obtain ⟨l1, v1, e1, g1, k1⟩ := lst_at r dx h1
        obtain ⟨l2, v2, e2, g2, k2⟩ := lst_at r dy h2
        exact ⟨l1, l2, v1, v2, e1, e2, g1, g2, by rw [k1.length, k2.length, lim_eq]; exact q, p'.newC r (k1.append k2)⟩
      · rw [if_neg q] at p'
        exact p'.elim
end
section
variable {X : Cx} {T : List (Addr × Str)} {E : XK} {a b : Expr} {fa fb : LE} {pos : Pos}
theorem x_addC (ha : PEf X T E a fa) (hb : PEf X T E b fb) : PEf X T E (.BinOp a .Add b pos) (fOp oAddC fa fb) := x_op op_cat sim_addC ha hb
end
end Fk
/-! FkZf: a work's lambda with a parameter that is left to its default; tables of several defs. -/
namespace Fk
open PySem PySem.Spec PyProof.Rows L2
/-- names of a lambda of one parameter -/
structure LamP (sc scope : Scope) (N : List Str) (a : Str) : Prop where
  kind : scope.kind = .function
  co : scope.isCoroutine = false
  gen : scope.isGenerator = false
  own : ∀ y ∈ scope.names, y.2 ≠ .cell ∧ (y.2 = .local → y.1 = a)
  par : scope.names.lookup a = some .local
  new : a ∉ N
  free : ∀ y ∈ scope.names, y.2 = .free → sc.names.lookup y.1 = some .cell ∨ sc.names.lookup y.1 = some .free
def lamPB (sc scope : Scope) (N : List Str) (a : Str) : Bool :=
  (decide (scope.kind = .function) && !scope.isCoroutine && !scope.isGenerator && decide (scope.names.lookup a = some .local) && !N.contains a) && scope.names.all fun y => !decide (y.2 = .cell) && (!decide (y.2 = .local) || decide (y.1 = a)) && (!decide (y.2 = .free) || decide (sc.names.lookup y.1 = some .cell) || decide (sc.names.lookup y.1 = some .free))
theorem lamP_by {sc scope : Scope} {N : List Str} {a : Str} (h : lamPB sc scope N a = true) : LamP sc scope N a := by
  unfold lamPB at h
  rw [Bool.and_eq_true] at h
  obtain ⟨h, g⟩ := h
  simp only [Bool.and_eq_true, Bool.not_eq_true', decide_eq_true_eq] at h
  obtain ⟨⟨⟨⟨h1, h2⟩, h3⟩, h4⟩, h5⟩ := h
  rw [List.all_eq_true] at g
  refine ⟨h1, h2, h3, fun y hy => ?_, h4, fun z => ?_, fun y hy e => ?_⟩
  · have q := g y hy
    simp only [Bool.and_eq_true, Bool.or_eq_true, Bool.not_eq_true', decide_eq_true_eq, decide_eq_false_iff_not] at q
    exact ⟨q.1.1, fun e => q.1.2.resolve_left fun z => z e⟩
  · have := List.contains_iff_mem.mpr z
    rw [this] at h5
    cases h5
  · have q := g y hy
    simp only [Bool.and_eq_true, Bool.or_eq_true, Bool.not_eq_true', decide_eq_true_eq, decide_eq_false_iff_not] at q
    rcases q.2 with (z | z) | z
    · exact absurd e z
    · exact .inl z
    · exact .inr z
section
variable {X : Cx} {pins : List (Addr × Obj)} {σ : L2.St} {H HZ : Hp} {s s1 : Shared} {scope : Scope} {a : Str}
theorem LamP.has (L : LamP X.env.scope scope X.N a) (ok : X.Ok) : ∀ y ∈ scope.names, y.2 = .free → ∃ c, X.env.cells.lookup y.1 = some c := fun y hy e => (L.free y hy e).elim (fun k => ok.has _ (.inl k)) fun k => ok.has _ (.inr k)
/-- the made function: what is known of it -/
structure LamD (X : Cx) (H : Hp) (s : Shared) (params : Arguments) (body : Expr) (scope : Scope) (f c' t : Addr) (u : Value) : Prop where
  obj : ∃ (doc pm ctv : Value), s.heap.get? f = some (PySem.W.kdv_obj "<lambda>" (X.env.qual ++ "<lambda>") params (.expr body) scope (cloFrom X.env.cells scope.names []) (.ref t) doc pm c' ctv)
  nf : H f = none
  ff : f ∉ frs X.stack
  tup : s.heap.get? t = some (PySem.W.kdv_tup [u])
  nt : H t = none
  ft : t ∉ frs X.stack
  code : H c' = some (LamX.CodeO c' (X.env.qual ++ "<lambda>"))
theorem lamD_make {T : List (Addr × Str)} {c P : Addr} {params : Arguments} {body : Expr} {pos dp : Pos} {i : Int} {j : Nat} {E : Value → Shared → Prop} {Q : Value → Shared → Prop} (I : Inv X pins σ H s) (TB : LamX.TabB X.base X.mg c P) (hcode : X.env.code = .ref c)
    (hm : (P, X.env.qual ++ "<lambda>") ∈ T) (hu : ∀ p ∈ T, p.1 = P → p.2 = X.env.qual ++ "<lambda>") (hT : LamX.Tabs T H) (hd : params.defaults = [.Constant (.int i) j dp]) (hk0 : params.kw_defaults = []) (hfree : ∀ y ∈ scope.names, y.2 = .free → ∃ c, X.env.cells.lookup y.1 = some c)
    (h : ∀ (f c' t : Addr) (u : Value) (H1 : Hp) (s' : Shared), Inv X pins σ H1 s' → LamX.ExtN H H1 → LamX.Tabs T H1 → LamD X H1 s' params body scope f c' t u → FpOk X pins H1 f → FpOk X pins H1 t → Q (.ref f) s') :
    wpAny (model X.prog X.w) X.A (eval (.Lambda params body scope pos) X.env) Q E s := by
  refine PySem.W.kdv_lam (by rw [hd]; rfl) hk0 ?_
  rw [hd]
  refine PySem.W.kdv_all1 (thn ((pe_int (X := X) (i := i) (j := j) (pos := dp)).run pins s σ H (fun _ H1 => H1 = H) I rfl) fun u s1 hq => PySem.W.kdv_all0 ?_)
  obtain ⟨v, H0, I1, _, rfl⟩ := hq
  obtain ⟨ps, hP, ht, ha⟩ := hT _ hm
  rw [makeFunction_eq]
  simp only [List.zip_nil_right, List.filterMap_nil, List.isEmpty_nil, List.isEmpty_cons, if_true, pure_bind, Bool.false_eq_true, if_false]
  refine wpAny_bind (wpAny_newTextTuple ?_)
  have fpI : ∀ (b : Addr) (Hx : Hp), s1.heap.objs.size ≤ b → Hx b = none → FpOk X pins Hx b := fun b Hx hb hn => I1.fpOk hb hn
  have nofr : ∀ b, s1.heap.objs.size ≤ b → b ∉ frs X.stack := fun b hb z => by
    rcases List.mem_cons.mp (I1.stkSub _ z) with e | e
    · have h1 := I1.lt
      rw [← e] at h1
      exact Nat.lt_irrefl _ (Nat.lt_of_lt_of_le h1 hb)
    · exact I1.nofs hb e
  have I2 : Inv X pins σ H0 { s1 with heap := s1.heap.push (PySem.W.kdv_tup [u]) } := I1.kept (t' := s1.toks) fun b o e => Heap.get?_push_of_some _ e
  have tup2 : (s1.heap.push (PySem.W.kdv_tup [u])).get? s1.heap.objs.size = some (PySem.W.kdv_tup [u]) := Heap.get?_push_size _ rfl
  have size2 : (s1.heap.push (PySem.W.kdv_tup [u])).objs.size = s1.heap.objs.size + 1 := Heap.size_push ..
  have nt0 : H0 s1.heap.objs.size = none := I1.hok.fresh (Nat.le_refl _)
  have ft0 := nofr _ (Nat.le_refl s1.heap.objs.size)
  generalize s1.heap.objs.size = t at *
  generalize hs2 : ({ s1 with heap := s1.heap.push (PySem.W.kdv_tup [u]) } : Shared) = s2 at *
  have tup2 : s2.heap.get? t = some (PySem.W.kdv_tup [u]) := by rw [← hs2]; exact tup2
  have size2 : s2.heap.objs.size = t + 1 := by rw [← hs2]; exact size2
  have bP := TB.bm.keeps I2.bk
  have hP' : s2.heap.get? P = some { cls := .none, data := .fields ps } := I2.hok P _ hP
  cases hc : codeAmong pos ps.toList with
  | some cv =>
    obtain ⟨c', rfl, hco⟩ := ha pos cv hc
    refine PySem.W.kdv_makeTailHit (mg := X.mg) (c := c) (P := P) (ps := ps) (closure_ok hfree) I2.ok.glob (I2.mod.glob.keeps I2.bk) hcode (TB.code.keeps I2.bk) hP' ht hc bP fun ctv doc h' tk hx hsz => ?_
    exact h h'.objs.size c' t u H0 _ (I2.kept fun b o e => Heap.get?_push_of_some _ (hx b o e)) (LamX.ExtN.refl _) hT
      ⟨⟨doc, _, ctv, Heap.get?_push_size _ rfl⟩, I2.hok.fresh hsz, nofr _ (by omega), Heap.get?_push_of_some _ (hx _ _ tup2), nt0, ft0, hco⟩ (fpI _ _ (by omega) (I2.hok.fresh hsz)) (fpI _ _ (Nat.le_refl _) nt0)
  | none =>
    refine PySem.W.kdv_makeTail (mg := X.mg) (c := c) (P := P) (ps := ps) (closure_ok hfree) I2.ok.glob (I2.mod.glob.keeps I2.bk) hcode (TB.code.keeps I2.bk) hP' ht hc TB.gP bP fun c' ctv doc h' tk hx hge hlt hrec htb => ?_
    obtain ⟨c2, oc, vs, tk2, e2, hoc, hdt, hv⟩ := hrec
    cases e2
    have nC : H0 c' = none := I2.hok.fresh hge
    have tP : t ≠ P := fun z => by rw [z, hP] at nt0; cases nt0
    have bot : (h'.push (PySem.W.kdv_obj "<lambda>" (X.env.qual ++ "<lambda>") params (.expr body) scope (cloFrom X.env.cells scope.names []) (.ref t) doc ((X.mg "__name__").getD .none) c' ctv)).get? P = some { cls := .none, data := .fields (ps ++ #[rawInt pos.line, rawInt pos.col, .ref c']) } := Heap.get?_push_of_some _ htb
    have I3 := LamX.inv_table (t' := tk) (more := #[rawInt pos.line, rawInt pos.col, .ref c']) I2 hP (fun b o hb e => Heap.get?_push_of_some _ (hx b o hb e)) bot hge ⟨oc, vs, tk2, Heap.get?_push_of_some _ hoc, hdt, hv⟩
    have hE : LamX.ExtN H0 (upd (upd H0 P (.tbl (ps ++ #[rawInt pos.line, rawInt pos.col, .ref c']))) c' (LamX.CodeO c' (X.env.qual ++ "<lambda>"))) := fun b o e n => by
      rw [upd_ne (ne_of_none e nC), upd_ne fun z => n ps (Option.some.inj (e.symm.trans (by rw [z]; exact hP)))]
      exact e
    have at2 : ∀ b, b ≠ P → b ≠ c' → H0 b = none → upd (upd H0 P (.tbl (ps ++ #[rawInt pos.line, rawInt pos.col, .ref c']))) c' (LamX.CodeO c' (X.env.qual ++ "<lambda>")) b = none := fun b z1 z2 e => by
      rw [upd_ne z2, upd_ne z1]
      exact e
    have lt' : s2.heap.objs.size ≤ h'.objs.size := by omega
    have nf' : H0 h'.objs.size = none := I2.hok.fresh lt'
    refine h h'.objs.size c' t u _ _ I3 hE (fun p hp => ?_) ⟨⟨doc, _, ctv, Heap.get?_push_size _ rfl⟩, at2 _ (fun z => ?_) (Nat.ne_of_gt hlt) nf', nofr _ (by omega), Heap.get?_push_of_some _ (hx _ _ tP tup2), at2 _ tP (Nat.ne_of_lt (Nat.lt_of_lt_of_le (Nat.lt_of_lt_of_eq (Nat.lt_succ_self t) size2.symm) hge)) nt0, ft0, upd_same⟩ (fpI _ _ (by omega) (at2 _ (fun z => ?_) (Nat.ne_of_gt hlt) nf')) (fpI _ _ (Nat.le_refl _) (at2 _ tP (Nat.ne_of_lt (Nat.lt_of_lt_of_le (Nat.lt_of_lt_of_eq (Nat.lt_succ_self t) size2.symm) hge)) nt0))
    · by_cases hb : p.1 = P
      · rw [hu p hp hb, hb]
        have eL : (ps ++ #[rawInt pos.line, rawInt pos.col, .ref c']).toList = ps.toList ++ [rawInt pos.line, rawInt pos.col, .ref c'] := by simp
        refine ⟨_, by rw [upd_ne (ne_of_none hP nC), upd_same], by rw [eL]; exact PySem.TriplesOk_snoc _ _ _ _ ht, fun p' cv hcv => ?_⟩
        rw [eL] at hcv
        rcases LamX.among_app _ ht hcv with z | z
        · obtain ⟨c0, e1, e2⟩ := ha p' cv z
          exact ⟨c0, e1, hE _ _ e2 LamX.codeO_ne⟩
        · exact ⟨c', z, upd_same⟩
      · obtain ⟨ps', a1, a2, a3⟩ := hT p hp
        refine ⟨ps', by rw [upd_ne (ne_of_none a1 nC), upd_ne hb]; exact a1, a2, fun p' cv hcv => ?_⟩
        obtain ⟨c0, e1, e2⟩ := a3 p' cv hcv
        exact ⟨c0, e1, hE _ _ e2 LamX.codeO_ne⟩
    · rw [z, hP] at nf'
      cases nf'
    · rw [z, hP] at nf'
      cases nf'
/-- the lambda's body is entered -/
theorem lamD_start {A : Around} {outer : List Env} {E : XK} {f c' : Addr} {h₁ : Heap} {tk : Nat} {u : Value} (I : Inv X pins σ H s) (L : LamP X.env.scope scope X.N a) (e0 : Env0 X.prog X.w X.K X.mg X.base A outer s1 HZ) (hd : A.handled = none)
    (un : Un (frs X.stack) [] H HZ s.heap s1.heap) (hns : h₁.Ns s1.heap.objs.size fun y => [(a, u)].reverse.lookup y) (kp : ∀ b o, s1.heap.get? b = some o → h₁.get? b = some o) :
    Inv (LamX.lamCx X A outer s1 HZ E scope f c') [] σ HZ { s1 with heap := h₁, toks := tk } := by
  have free_has := L.has I.ok
  have up : ∀ {y c}, (cloFrom X.env.cells scope.names []).lookup y = some c → X.env.cells.lookup y = some c := fun {y c} e => by
    rcases cloFrom_mem (PySem.mem_of_lookup e) with z | ⟨z1, z2⟩
    · cases z
    · obtain ⟨c1, hc⟩ := free_has _ z1 rfl
      have hc : X.env.cells.lookup y = some c1 := hc
      have e2 : c = c1 := by rw [z2, hc] <;> rfl
      rw [e2]
      exact hc
  have caught : ∀ {y}, scope.names.lookup y = some .free → ∃ c, (cloFrom X.env.cells scope.names []).lookup y = some c := fun {y} hl => mem_lookup (cloFrom_has (cells := X.env.cells) (acc := []) (PySem.mem_of_lookup hl))
  have stays : ∀ {c : Addr} {v : Option Value}, H c = none → s.heap.IsCell c v → h₁.IsCell c v := fun {c v} n ⟨o, ho, hd⟩ => by
    obtain ⟨sl, q⟩ := un.any ho n (by simp)
    exact ⟨_, kp _ _ q, hd⟩
  have noX : ∀ b : Addr, b ∉ (LamX.lamCx X A outer s1 HZ E scope f c').ex := fun b z => nomatch (show b ∈ ([] : List Addr) from z)
  refine ⟨⟨e0.mod, L.kind, rfl, rfl, Nat.le_refl _, fun y z c e1 e2 => I.ok.inj y z c (up e1) (up e2), fun y hy => ?_, fun y c z _ => ?_, fun _ => hd, Around.frames_deeper e0.frames, .inr ⟨rfl, rfl⟩, fun b z => absurd z (noX b), e0.bs, e0.bsz, fun b _ _ => noX b,
      fun b z => absurd z (noX b), e0.funs, e0.frf⟩,
    rfl, e0.bare, Un.kept kp, ⟨_, hns, fun i y v e1 e2 e3 => ?_⟩, fun y c e => ?_, e0.hok.fresh (Nat.le_refl _), fun y c e => ?_, fun q hq => (nomatch (show q ∈ ([] : List (Addr × Obj)) from hq)), e0.hok.kept kp, I.len⟩
  · rcases (hy : scope.names.lookup y = some .cell ∨ scope.names.lookup y = some .free) with hy | hy
    · exact absurd rfl (L.own _ (PySem.mem_of_lookup hy)).1
    · exact caught hy
  · exact nomatch (show false = true from z)
  · rcases (e3 : Vis scope y) with k | k | k
    · have ya : y = a := (L.own _ (PySem.mem_of_lookup k)).2 rfl
      exact absurd (List.mem_of_getElem? (show X.N[i]? = some a by rw [← ya]; exact e1)) L.new
    · exact absurd rfl (L.own _ (PySem.mem_of_lookup k)).1
    · obtain ⟨m, hn, hl⟩ := I.loc
      have kin := L.free _ (PySem.mem_of_lookup k) rfl
      obtain ⟨w', r, q⟩ := hl i y v e1 e2 (kin.elim (fun k => .inr (.inl k)) fun k => .inr (.inr k))
      obtain ⟨c2, h2⟩ := caught k
      have c1 := up h2
      rcases q with ⟨k', _⟩ | ⟨_, c3, e', z⟩
      · have k' : X.env.scope.names.lookup y = some .local := k'
        rcases kin with k2 | k2 <;> rw [show X.env.scope.names.lookup y = _ from k2] at k' <;> cases k'
      · rw [c1] at e'
        cases e'
        exact ⟨w', r, .inr ⟨.inr k, c2, h2, stays (I.freeC y _ c1) z⟩⟩
  · obtain ⟨w', z⟩ := I.cell y c (up e)
    exact ⟨w', stays (I.freeC y c (up e)) z⟩
  · obtain ⟨v, o, ho, hd⟩ := I.cell y c (up e)
    exact un.free c o ho (I.freeC y c (up e)) (by simp)
/-- what it got, called in the def that got it -/
theorem lamD_act {CXg : CXT} {Eg : XK} {Ng : List Str} {qg : Str} {sg : Scope} {g f c' t : Addr} {cdg u : Value} {params : Arguments} {body : Expr} {k i : Nat} {x : Str} {pn : List (Addr × Obj)} {xe : Value → Shared → Prop} {W : WX} {E : XK} {tb : TE} {p1 p2 : Pos}
    (I : Inv X pins σ H s) (L : LamP X.env.scope scope X.N a) (D : LamD X H s params body scope f c' t u)
    (hbind : ∀ (s : Shared) (q : Str) (cl : List (Str × Addr)) (doc pm cv ctv : Value), s.heap.get? t = some (PySem.W.kdv_tup [u]) → BindsTo s (PySem.W.kdv_fn "<lambda>" q params (.expr body) scope cl (.ref t) doc pm cv ctv) ⟨[], []⟩ [(a, u)])
    (tk : Takes ((cxOf CXg X.prog X.w X.K X.mg X.base Ng qg sg g cdg X.A X.stack s H Eg).tr pn xe) W) (hW : ∀ cls d σ' H', E cls d H' → W cls d σ' H') (hr : Room (k + 1) (X.A.deeper (envOfC qg sg s.heap.objs.size g cdg)))
    (hbody : ∀ (A : Around) (outer : List Env) (s : Shared) (H : Hp), Room k (A.deeper (LamX.lamEnv X scope s.heap.objs.size f c')) → PE (LamX.lamCx X A outer s H E scope f c') body tb)
    (hN : Ng[i]? = some x) (hv : Vis sg x) (hd : (x == ("__debug__" : Str)) = false := by decide) (hcd : (x == ("__classdict__" : Str)) = false := by decide) :
    PE ((cxOf CXg X.prog X.w X.K X.mg X.base Ng qg sg g cdg X.A X.stack s H Eg).tr pn xe) (.Call (.Name x p1) [] [] p2)
      (fun σZ HZ Q => σZ[i]? = some (some (.ref f)) ∧ HZ c' = some (LamX.CodeO c' (X.env.qual ++ "<lambda>")) ∧ tb σ HZ Q) := by
  obtain ⟨doc, pm, ctv, hf⟩ := D.obj
  refine ⟨fun pinsZ sZ σZ HZ Q IZ ⟨hs, hc, ht⟩ => ?_⟩
  refine wpAny_Call_Name_kw (thn ((pe_var (pos := p1) (i := i) hN hv hd hcd).run pinsZ sZ σZ HZ (fun v H1 => v = .ref f ∧ H1 = HZ) IZ ⟨.ref f, hs, rfl, rfl⟩) fun u1 s1 ⟨v, H1, I1, r1, ev, eH⟩ => ?_)
  subst ev
  rw [eH] at I1
  obtain rfl : u1 = Value.ref f := r1
  have of1 := I1.base.keep f _ hf D.nf D.ff (fun z => nomatch (show f ∈ ([] : List Addr) from z))
  have ot1 := I1.base.keep t _ D.tup D.nt D.ft (fun z => nomatch (show t ∈ ([] : List Addr) from z))
  refine PySem.W.callWith_F0 ⟨_, _, _, _, of1⟩ ?_
  have un : Un (frs X.stack) [] H HZ s.heap s1.heap := I1.base
  obtain ⟨⟨oc, vs, tq, hoc, hdc, hvc⟩, _, _⟩ := I1.hok c' _ hc
  have rc : codeAny (model X.prog X.w) (X.A.deeper (envOfC qg sg s.heap.objs.size g cdg)) (.call (.ref f) ⟨[], []⟩) (CR (L2.CX X.prog X.w) (envOfC qg sg s.heap.objs.size g cdg :: X.stack) X.prog X.w HZ s1 Q E) s1 := by
    refine PySem.W.kla_callFunE hr.depth of1 rfl L.co L.gen rfl ⟨c', oc, vs, tq, rfl, hoc, hdc, hvc⟩ (hbind s1 _ _ _ _ _ _ ot1 _ _ _ _ ?_)
    refine wpAny_newFunctionEnv (fun y hy => (L.own y hy).1) (fun y hy => ?_) (fun h₁ hns hsb => ⟨I1.nolimit.fresh _ hsb, ?_⟩) L.kind
    · rw [List.mem_singleton.mp hy]
      exact L.par
    show codeAny _ _ (.expr body (LamX.lamEnv X scope s1.heap.objs.size f c')) _ _
    have J : Inv (LamX.lamCx X (X.A.deeper (envOfC qg sg s.heap.objs.size g cdg)) (envOfC qg sg s.heap.objs.size g cdg :: X.stack) s1 HZ E scope f c') [] σ HZ { s1 with heap := h₁, toks := s1.toks + [(a, u)].length } :=
      lamD_start I L I1.env0 hr.hd un hns fun b o e => hsb.extBut b o (Nat.ne_of_lt (Heap.lt_size e)) (Heap.get?_push_of_some _ e)
    refine PySem.W.kla_codeExpr (wpAny_mono ((hbody _ _ s1 HZ (hr.deeper _)).run [] _ _ HZ Q J ht) (fun v s' hq => ?_) fun e s' hq => hq)
    obtain ⟨w', H', J', rv, q⟩ := hq
    exact ⟨w', H', J'.os, J'.bare, J'.base, J'.hok, rv, q⟩
  have px : Passes (L2.CX X.prog X.w) ((cxOf CXg X.prog X.w X.K X.mg X.base Ng qg sg g cdg X.A X.stack s H Eg).tr pn xe) E := passes_call tk hW
  refine wpAny_call (codeAny_mono rc fun r s' hq => ?_)
  match r, hq with
  | .error e, hq => exact px pinsZ σZ HZ s1 e s' I1 hq
  | .ok (.ret _), hq => exact I1.after hq
  | .ok .next, hq => exact False.elim hq
  | .ok .brk, hq => exact False.elim hq
  | .ok .cont, hq => exact False.elim hq
end
section
variable {X : Cx} {T : List (Addr × Str)} {E : XK} {occ : List Str} {params : Arguments} {body : Expr} {scope : Scope} {fb : LE} {p lpos pos dp : Pos} {j k jj : Nat} {a : Str} {i : Int}
/-- _law_kind(lambda a=0: body) -/
theorem x_kindD (kk : Knd X T occ) (hr : Room j X.A) (L : LamP X.env.scope scope X.N a)
    (hbody : ∀ (A : Around) (outer : List Env) (s : Shared) (H : Hp) (E' : XK) (f c' : Addr), Room k (LamX.lamCx X A outer s H E' scope f c').A → Passes (L2.CX (LamX.lamCx X A outer s H E' scope f c').prog (LamX.lamCx X A outer s H E' scope f c').w) (LamX.lamCx X A outer s H E' scope f c') E' → PEf (LamX.lamCx X A outer s H E' scope f c') T E' body fb)
    (hjk : k + 2 ≤ j := by decide) (hg : Gl X "_law_kind" := by rfl) (hd : params.defaults = [.Constant (.int i) jj dp] := by rfl) (hk0 : params.kw_defaults = [] := by rfl)
    (hbind : ∀ (s : Shared) (t : Addr) (u : Value) (q : Str) (cl : List (Str × Addr)) (doc pm cv ctv : Value), s.heap.get? t = some (PySem.W.kdv_tup [u]) → BindsTo s (PySem.W.kdv_fn "<lambda>" q params (.expr body) scope cl (.ref t) doc pm cv ctv) ⟨[], []⟩ [(a, u)] := by
      intro s t u q cl doc pm cv ctv h; exact BindsTo.of_defaults rfl h rfl rfl rfl) :
    PEf X T E (.Call (.Name "_law_kind" p) [.Lambda params body scope lpos] [] pos) (fKind occ fb) := by
  obtain ⟨pg, bg, sg, fd, Ng, F, Sg, hb, hNg, hva, hG⟩ := kk.fn
  obtain ⟨c, P, TB, hcode, hmT, hu⟩ := kk.tab
  have kp := F.kp
  obtain ⟨oc, od, dV, kV, doc, pm, an, cdv, ct, osl, rfl, lk, hcd, _, _⟩ := F.ex
  refine pe_to (te := LamX.tLam T (TTk X.K T occ) fun E' => tOf X.K T E' Dat fb) ⟨fun pins s σ H Q I h => ?_⟩ sim_kind
  obtain ⟨hT, h⟩ := h
  refine wpAny_Call_Name_kw (ld_glob I hg kk.mg ?_ (by decide))
  refine PySem.W.callWith_K (h₀ := X.base) I.ok.mod.kin kp ?_ (by rfl) (by rfl)
  show wpAny _ _ (spliced ((false, eval (.Lambda params body scope lpos) X.env) :: backTo pos (starEach [] X.env))) _ _ s
  refine Calls.spliced_cons (lamD_make I TB hcode hmT hu hT hd hk0 (L.has I.ok) fun f c' t u H1 s' I1 eN T1 D _ _ => ?_)
  refine Calls.spliced_nil ⟨I1.kIn, ?_⟩
  have rc : codeAny (model X.prog X.w) X.A (.call (.ref (He.fAd X.K ("_law_kind", none))) ⟨[.ref f], []⟩) (CR C8.CX0 X.stack X.prog X.w H1 s' Q C8.E0) s' := by
    refine LamX.run_ofS (N := Ng) (ps := ["_law_work"]) (us := [.ref f]) (vs := [.ref f]) lk hcd Sg (hr.mono hjk) I1.env0 (hb s' [.ref f] I1.kIn rfl) (.cons rfl .nil) rfl fun hr' => ?_
    obtain ⟨t', ht', hq'⟩ := hG cdv _ f c' s' H1 Q (fun E' H' Q' => tOf X.K T E' Dat fb σ H' Q') (fun W pn xe E' p1 p2 tk hW => lamD_act (i := 0) I1 L D (fun s q cl doc pm cv ctv h => hbind s t u q cl doc pm cv ctv h) tk hW hr' (fun A outer s H hr2 => hbody A outer s H E' f c' hr2 px_lam) hNg hva) D.code (h H1 eN T1)
    exact ⟨t', ht'.nox, hq'⟩
  refine wpAny_call (codeAny_mono rc fun r s2 hq => ?_)
  match r, hq with
  | .error e, hq => exact (show False from hq).elim
  | .ok (.ret _), hq => exact I1.after hq
  | .ok .next, hq => exact False.elim hq
  | .ok .brk, hq => exact False.elim hq
  | .ok .cont, hq => exact False.elim hq
end
/-! ### tables of several defs -/
abbrev TabQ : Type := He.Defn × Str
def tabsT (K : PySem.W.Frag) (tf : List TabQ) : List (Addr × Str) := tf.map fun p => ((He.cT K p.1).2, (p.2 ++ ".<locals>.") ++ "<lambda>")
/-- no two of them are one -/
def apartB (tf : List TabQ) (K : PySem.W.Frag) : Bool := tf.all fun p => tf.all fun q => decide (p.2 = q.2) || !decide ((He.cT K p.1).2 = (He.cT K q.1).2)
theorem tabsT_mem {K : PySem.W.Frag} {tf : List TabQ} {p : TabQ} (h : p ∈ tf) : ((He.cT K p.1).2, (p.2 ++ ".<locals>.") ++ "<lambda>") ∈ tabsT K tf := List.mem_map.mpr ⟨p, h, rfl⟩
theorem tabsT_one {K : PySem.W.Frag} {tf : List TabQ} (ap : apartB tf K = true) {p : TabQ} (h : p ∈ tf) : ∀ r ∈ tabsT K tf, r.1 = (He.cT K p.1).2 → r.2 = (p.2 ++ ".<locals>.") ++ "<lambda>" := fun r hr e => by
  obtain ⟨q, hq, rfl⟩ := List.mem_map.mp hr
  have z := List.all_eq_true.mp (List.all_eq_true.mp ap q hq) p h
  rw [Bool.or_eq_true, decide_eq_true_eq, Bool.not_eq_true', decide_eq_false_iff_not] at z
  rcases z with z | z
  · exact congrArg (fun n : Str => (n ++ ".<locals>.") ++ "<lambda>") z
  · exact absurd e z
theorem tabsT_tabs {K : PySem.W.Frag} {tf : List TabQ} {H : Hp} (h : ∀ p ∈ tf.map fun p => He.cT K p.1, H p.2 = some (.tbl #[])) : LamX.Tabs (tabsT K tf) H := fun p hp => by
  obtain ⟨q, hq, rfl⟩ := List.mem_map.mp hp
  exact LamX.TabS.nil (h _ (List.mem_map.mpr ⟨q, hq, rfl⟩))
section
variable {P : Program} {w : World} {K : PySem.W.Frag} {mg : Str → Option Value} {base : Heap} {T : List (Addr × Str)} {name qual : Str} {params : Arguments} {body : List Stmt} {scope : Scope} {fd : FuncData} {N ps : List Str} {k : Nat} {fb : LS}
/-- fo_def, the def's code object told -/
theorem fo_defC {a : Str × Option Str} (F : FunD K name qual params body scope [] [] (He.fAd K a) fd) (S : FnScope N ps scope)
    (hb : ∀ (kV doc pm : Value) (an : Option Addr) (cdv ct : Value) (us : List Value), us.length = ps.length → bindArgs (PySem.W.fnOf name qual params body scope .none kV doc pm an cdv ct) ⟨us, []⟩ = pure (ps.zip us))
    (h : ∀ (cdv : Value) (A : Around) (outer : List Env) (s : Shared) (H : Hp) (E : XK), cdv = .ref (He.cT K a).1 → Room k (A.deeper (envOfC qual scope s.heap.objs.size (He.fAd K a) cdv)) →
      PSsf (cxOf (L2.CX P w) P w K mg base N qual scope (He.fAd K a) cdv A outer s H E) T (W0 E) body fb) : FoP P w K mg base T (k + 1) a ps.length (runB N.length fb) := ⟨⟨fd, ps, fn_defC F S h, F.bindsN hb⟩, F.kp⟩
end
end Fk
/-! FkZg: sorted(list of ints), dict(list of pairs). -/
namespace Fk
open PySem PySem.Spec PyProof.Rows L2
def intsOf2 : List D → Option (List Int)
  | [] => some []
  | .int i :: r => (intsOf2 r).map (i :: ·)
  | _ :: _ => none
def pairsOf : List D → Option (List (Key × D))
  | [] => some []
  | .tup [k, v] :: r => (match keyD k with
    | some k => (pairsOf r).map ((k, v) :: ·)
    | none => none)
  | _ :: _ => none
def mergeD (kvs more : List (Key × D)) : List (Key × D) := more.foldl (fun a q => setD a q.1 q.2) kvs
def oSortL : OA := fun ds st => match ds with
  | [d] => (match rdOf d st with
    | some xs => (match intsOf2 xs with
      | some ns => .ok (.lst ((sortI ns).map D.int)) st
      | none => .stuck)
    | none => .stuck)
  | _ => .stuck
def oDictP : OA := fun ds st => match ds with
  | [d] => (match rdOf d st with
    | some xs => (match pairsOf xs with
      | some kvs => .ok (.ref st.length) (st ++ [.dic (mergeD [] kvs)])
      | none => .stuck)
    | none => .stuck)
  | _ => .stuck
section
variable {K : PySem.W.Frag} {T : List (Addr × Str)} {w : Wd} {H : Hp} {st : Store}
theorem ints_at2 : ∀ {xs : List D} {ns : List Int} {vs : List V}, intsOf2 xs = some ns → Dats w vs xs → vs = ns.map V.int
  | [], _, _, e, h => by cases e; cases h; rfl
  | .int i :: r, ns, _, e, h => by
    have e' : (intsOf2 r).map (i :: ·) = some ns := e
    cases q : intsOf2 r with
    | none => rw [q] at e'; cases e'
    | some l =>
      rw [q] at e'
      cases e'
      cases h with
      | cons h1 h2 =>
        cases h1
        rw [ints_at2 q h2]
        rfl
  | .non :: _, _, _, e, _ | .bl _ :: _, _, _, e, _ | .str _ :: _, _, _, e, _ | .tup _ :: _, _, _, e, _ | .lst _ :: _, _, _, e, _ | .lck _ :: _, _, _, e, _ | .ref _ :: _, _, _, e, _ => by cases e
theorem pairs_at (r : Rel K T w H st) : ∀ {xs : List D} {kvs : List (Key × D)} {vs : List V}, pairsOf xs = some kvs → Dats w vs xs → ∃ (ps : List Addr) (us : List (Key × V)), vs = ps.map V.ref ∧ Paired (fun p kv => SqT K H p [kV kv.1, kv.2]) ps us ∧ Kvs w us kvs
  | [], _, _, e, h => by cases e; cases h; exact ⟨[], [], rfl, .nil, rfl, .nil⟩
  | x :: r', kvs, _, e, h => by
    unfold pairsOf at e
    split at e
    · rename_i heq; cases heq
    · rename_i k v rr heq
      cases heq
      split at e
      · rename_i key hk
        cases q : pairsOf r' with
        | none => rw [q] at e; cases e
        | some l =>
          rw [q] at e
          cases e
          cases h with
          | cons h1 h2 =>
            obtain ⟨ps, us, rfl, hp, hv⟩ := pairs_at r q h2
            cases h1 with
            | @tup a ws _ hF hd =>
              cases hd with
              | cons d1 d2 =>
                cases d2 with
                | cons d2 d3 =>
                  cases d3
                  rename_i v1 _ v2
                  have e1 := key_at d1 hk
                  subst e1
                  exact ⟨a :: ps, (key, v2) :: us, rfl, .cons (SqT.of (r.fr _ _ hF)) hp, hv.cons rfl d2⟩
      · cases e
    · cases e
theorem Kvs.merge : ∀ {more : List (Key × D)} {moreV : List (Key × V)} {us : List (Key × V)} {kvs : List (Key × D)}, Kvs w moreV more → Kvs w us kvs → Kvs w (mergeK us moreV) (mergeD kvs more)
  | [], moreV, us, kvs, h, g => by
    have : moreV = [] := by
      have := h.length
      cases moreV with
      | nil => rfl
      | cons a l => simp at this
    subst this
    exact g
  | q :: more, [], us, kvs, h, g => by
    have := h.length
    simp at this
  | q :: more, p :: moreV, us, kvs, h, g => by
    obtain ⟨e, d, t⟩ := h.uncons
    show Kvs w (mergeK (putK us p.1 p.2) moreV) (mergeD (setD kvs q.1 q.2) more)
    rw [e]
    exact Kvs.merge t (Kvs.put d q.1 g)
theorem sim_sortL : SimRA K T (rSortedI K) oSortL := fun E w H st vs ds Q r dv p => by
  cases dv with
  | nil => exact p.elim
  | cons dx rest =>
    rename_i x d _ _
    cases rest with
    | cons _ _ => exact p.elim
    | nil =>
      have p1 : Post K T E Dat w H (match rdOf d st with
        | some xs => (match intsOf2 xs with
          | some ns => .ok (.lst ((sortI ns).map D.int)) st
          | none => .stuck)
        | none => .stuck) Q := p
      cases q1 : rdOf d st with
      | none => rw [q1] at p1; exact p1.elim
      | some xs =>
        rw [q1] at p1
        dsimp only at p1
        cases q2 : intsOf2 xs with
        | none => rw [q2] at p1; exact p1.elim
        | some ns =>
          rw [q2] at p1
          obtain ⟨a, us, rfl, h1, h2⟩ := rd_at r dx q1
          rw [ints_at2 q2 h2] at h1
          refine ⟨a, ns, rfl, h1, fun ys l k1 k2 hl => ?_⟩
          rw [sortI_unique k1 k2]
          exact p1.newL r (Dats.of_ints _) l hl
theorem sim_dictP : SimRA K T (fun xs H Q => ∃ (a : Addr) (ps : List Addr) (kvs : List (Key × V)), xs = [.ref a] ∧ SqL K H a (ps.map V.ref) ∧ Paired (fun p kv => SqT K H p [kV kv.1, kv.2]) ps kvs ∧
    ∀ p, H p = none → Q (.ref p) (upd H p (.dK (mergeK [] kvs)))) oDictP := fun E w H st vs ds Q r dv p => by
  cases dv with
  | nil => exact p.elim
  | cons dx rest =>
    rename_i x d _ _
    cases rest with
    | cons _ _ => exact p.elim
    | nil =>
      have p1 : Post K T E Dat w H (match rdOf d st with
        | some xs => (match pairsOf xs with
          | some kvs => .ok (.ref st.length) (st ++ [.dic (mergeD [] kvs)])
          | none => .stuck)
        | none => .stuck) Q := p
      cases q1 : rdOf d st with
      | none => rw [q1] at p1; exact p1.elim
      | some xs =>
        rw [q1] at p1
        dsimp only at p1
        cases q2 : pairsOf xs with
        | none => rw [q2] at p1; exact p1.elim
        | some kvs =>
          rw [q2] at p1
          obtain ⟨a, us, rfl, h1, h2⟩ := rd_at r dx q1
          obtain ⟨ps, uv, rfl, h3, h4⟩ := pairs_at r q2 h2
          exact ⟨a, ps, uv, rfl, h1, h3, p1.newDic r (Kvs.merge h4 ⟨rfl, .nil⟩)⟩
end
/-! ### evaluated -/
theorem intsOf2_map : ∀ l : List Int, intsOf2 (l.map D.int) = some l
  | [] => rfl
  | a :: l => by
    show (intsOf2 (l.map D.int)).map (a :: ·) = _
    rw [intsOf2_map l]
    rfl
theorem oSortL_of {d : D} {l : List Int} {st : Store} (h : rdOf d st = some (l.map D.int)) : oSortL [d] st = .ok (.lst ((sortI l).map D.int)) st := by
  unfold oSortL
  dsimp only
  rw [h]
  dsimp only
  rw [intsOf2_map]
theorem pairsOf_map : ∀ l : List (Int × Int), pairsOf (l.map fun q => D.tup [.int q.1, .int q.2]) = some (l.map fun q => ((.inl q.1 : Key), D.int q.2))
  | [] => rfl
  | a :: l => by
    show (pairsOf (l.map fun q => D.tup [.int q.1, .int q.2])).map (((.inl a.1 : Key), D.int a.2) :: ·) = _
    rw [pairsOf_map l]
    rfl
theorem oDictP_of {d : D} {l : List (Int × Int)} {st : Store} (h : rdOf d st = some (l.map fun q => D.tup [.int q.1, .int q.2])) : oDictP [d] st = .ok (.ref st.length) (st ++ [.dic (mergeD [] (l.map fun q => ((.inl q.1 : Key), D.int q.2)))]) := by
  unfold oDictP
  dsimp only
  rw [h]
  dsimp only
  rw [pairsOf_map]
end Fk
/-! FkZh: xs += ys, xs a cell. -/
namespace Fk
open PySem PySem.Spec PyProof.Rows L2
def oExtC : O2 := fun d e st => match cellL d st, lstOf e st with
  | some (k, xs), some ys => if xs.length + ys.length ≤ lim then .ok (.ref k) (st.set k (.lst (xs ++ ys))) else .stuck
  | _, _ => .stuck
section
variable {K : PySem.W.Frag} {T : List (Addr × Str)}
theorem sim_extC : SimR2 K T rExt2 oExtC := fun E w H st x y d e Q r dx dy p => by
  unfold oExtC at p
  cases h1 : cellL d st with
  | none => rw [h1] at p; exact p.elim
  | some kx =>
    obtain ⟨k, xs⟩ := kx
    cases h2 : lstOf e st with
    | none => rw [h1, h2] at p; exact p.elim
    | some ys =>
      rw [h1, h2] at p
      have p' : Post K T E Dat w H (if xs.length + ys.length ≤ lim then .ok (.ref k) (st.set k (.lst (xs ++ ys))) else .stuck) Q := p
      by_cases q : xs.length + ys.length ≤ lim
      · rw [if_pos q] at p'
        obtain ⟨l2, v2, e2, g2, k2⟩ := lst_at r dy h2
        have hd : d = .ref k := by
          cases d with
          | ref j =>
            unfold cellL at h1
            dsimp only at h1
            split at h1
            · cases h1; rfl
            · cases h1
          | _ => cases h1
        subst hd
        obtain ⟨a, us, rfl, ha', hs', hH, hv⟩ := cell_at r dx h1
        obtain ⟨s2, r2⟩ := r.putLst ha' hs' (hv.append k2)
        exact ⟨a, l2, us, v2, rfl, e2, hH, g2, by rw [hv.length, k2.length, lim_eq]; exact q, p' w (.ref a) _ s2 r2 (.ref ha')⟩
      · rw [if_neg q] at p'
        exact p'.elim
theorem ip_ext {X : Cx} : PIp X .Add rExt2 := iop_ext
theorem oExtC_of {k : Nat} {xs ys : List D} {st : Store} (h : st[k]? = some (.lst xs)) (hl : xs.length + ys.length ≤ lim) : oExtC (.ref k) (.lst ys) st = .ok (.ref k) (st.set k (.lst (xs ++ ys))) := by
  unfold oExtC
  rw [cellL_ref h]
  exact if_pos hl
end
end Fk
/-! FkZi: [(x, d[x]) for x in d], d a dict: it is locked meanwhile. -/
namespace Fk
open PySem PySem.Spec PyProof.Rows L2
/-! ### what is known of a thing, forgotten -/
def Wd.less (w : Wd) (p : Addr) : Wd := ⟨fun a => if a = p then none else w.F a, w.ads, w.S⟩
section
variable {w : Wd} {p : Addr} {o0 : HO}
mutual
theorem Dat.less (hp : w.F p = some o0) (n1 : ∀ vs, o0 ≠ .tup vs) (n2 : ∀ vs, o0 ≠ .lst vs) : ∀ {v : V} {d : D}, Dat w v d → Dat (w.less p) v d
  | _, _, .non => .non
  | _, _, .bl b => .bl b
  | _, _, .int i => .int i
  | _, _, .str s => .str s
  | _, _, .tup (p := a) h r => .tup (by
      show (if a = p then none else w.F a) = _
      rw [if_neg (fun z => by rw [z, hp] at h; exact n1 _ (Option.some.inj h))]
      exact h) (Dats.less hp n1 n2 r)
  | _, _, .lst (p := a) h r => .lst (by
      show (if a = p then none else w.F a) = _
      rw [if_neg (fun z => by rw [z, hp] at h; exact n2 _ (Option.some.inj h))]
      exact h) (Dats.less hp n1 n2 r)
  | _, _, .lck h r => .lck h (Dats.less hp n1 n2 r)
  | _, _, .ref h => .ref h
theorem Dats.less (hp : w.F p = some o0) (n1 : ∀ vs, o0 ≠ .tup vs) (n2 : ∀ vs, o0 ≠ .lst vs) : ∀ {vs : List V} {ds : List D}, Dats w vs ds → Dats (w.less p) vs ds
  | _, _, .nil => .nil
  | _, _, .cons h r => .cons (Dat.less hp n1 n2 h) (Dats.less hp n1 n2 r)
end
end
section
variable {K : PySem.W.Frag} {T : List (Addr × Str)} {w w' : Wd} {H H' : Hp} {st st' : Store} {k : Nat} {p : Addr} {kvs : List (Key × D)} {us : List (Key × V)} {od : Obj}
abbrev lockW (w : Wd) (p : Addr) (od : Obj) (us : List (Key × V)) : Wd := ⟨upd w.F p (.frz od (.dK us)), w.ads, w.S⟩
theorem ads_ne (r : Rel K T w H st) {j : Nat} {q : Addr} (ha : w.ads[k]? = some p) (hq : w.ads[j]? = some q) (h : j ≠ k) : q ≠ p := fun z => by
  subst z
  have h1 := (List.getElem?_eq_some_iff.mp ha)
  have h2 := (List.getElem?_eq_some_iff.mp hq)
  obtain ⟨l1, e1⟩ := h1
  obtain ⟨l2, e2⟩ := h2
  exact h ((List.getElem_inj r.nd).mp (e2.trans e1.symm))
theorem Rel.lock (r : Rel K T w H st) (ha : w.ads[k]? = some p) (hs : st[k]? = some (.dic kvs)) (hH : H p = some (.dK us)) : Le w (lockW w p od us) ∧ Rel K T (lockW w p od us) (upd H p (.frz od (.dK us))) (st.set k .dead) := by
  have hF : w.F p = none := (r.at_ k _ p hs ha).1
  have le : Le w (lockW w p od us) := ⟨fun a u h => by
    show upd w.F p _ a = some u
    rw [upd_ne (fun z => by rw [z, hF] at h; cases h)]
    exact h, fun _ _ h => h, rfl⟩
  refine ⟨le, fun a u h => ?_, by rw [List.length_set]; exact r.len, r.nd, fun j c q h1 h2 => ?_, fun t ht => ?_, r.scr.le le, fun a ps h => ?_⟩
  · have h : upd w.F p (.frz od (.dK us)) a = some u := h
    by_cases z : a = p
    · subst z
      rw [upd_same] at h ⊢
      exact h
    · rw [upd_ne z] at h ⊢
      exact r.fr a u h
  · have h2 : w.ads[j]? = some q := h2
    by_cases z : j = k
    · subst z
      have hl := (List.getElem?_eq_some_iff.mp hs).1
      rw [List.getElem?_set_self hl] at h1
      cases h1
      rw [h2] at ha
      cases ha
      exact ⟨_, upd_same, (by intro _ z; cases z), (by intro _ z; cases z)⟩
    · rw [List.getElem?_set_ne (fun e => z e.symm)] at h1
      have hne := ads_ne r ha h2 z
      have x := r.at_ j c q h1 h2
      refine x.mono le (fun hc => ?_) fun u e => ?_
      · show upd w.F p _ q = none
        rw [upd_ne hne]
        exact x.noF hc
      · rw [upd_ne hne]
        exact e
  · obtain ⟨ps, h1, h2, h3⟩ := r.tabs t ht
    have keep : ∀ a u, H a = some u → (∀ xs, u ≠ .dK xs) → upd H p (.frz od (.dK us)) a = some u := fun a u e n => by
      rw [upd_ne (fun z => by rw [z, hH] at e; exact n _ (Option.some.inj e).symm)]
      exact e
    refine ⟨ps, keep _ _ h1 (by intro _ z; cases z), h2, fun pos cv hcv => ?_⟩
    obtain ⟨c', e1, e2⟩ := h3 pos cv hcv
    exact ⟨c', e1, keep _ _ e2 (by intros; unfold LamX.CodeO; intro z; cases z)⟩
  · have h : upd w.F p (.frz od (.dK us)) a = some (.tbl ps) := h
    by_cases z : a = p
    · subst z
      rw [upd_same] at h
      cases h
    · rw [upd_ne z] at h
      exact r.nt a ps h
theorem Rel.unlock (r : Rel K T w H st) (ha : w.ads[k]? = some p) (hs : st[k]? = some (.dic kvs)) (hH : H p = some (.dK us)) (hv : Kvs w us kvs) (s : Stp (lockW w p od us) (upd H p (.frz od (.dK us))) w' H') (r' : Rel K T w' H' st') (hd : st'[k]? = some .dead) :
    Stp w H (w'.less p) (upd H' p (.dK us)) ∧ Rel K T (w'.less p) (upd H' p (.dK us)) (st'.set k (.dic kvs)) ∧ ∀ v d, Dat w' v d → Dat (w'.less p) v d := by
  have hF : w.F p = none := (r.at_ k _ p hs ha).1
  have hFp : w'.F p = some (.frz od (.dK us)) := s.le.fr _ _ (show upd w.F p _ p = _ from upd_same)
  have hHp := r'.fr _ _ hFp
  have ha' : w'.ads[k]? = some p := s.le.ads _ _ ha
  have lessF : ∀ a, a ≠ p → (w'.less p).F a = w'.F a := fun a z => if_neg z
  have datL : ∀ v d, Dat w' v d → Dat (w'.less p) v d := fun v d h => Dat.less hFp (by intro _ z; cases z) (by intro _ z; cases z) h
  have le : Le w (w'.less p) := ⟨fun a u h => by
    have z : a ≠ p := fun z => by rw [z, hF] at h; cases h
    rw [lessF a z]
    exact s.le.fr _ _ (show upd w.F p _ a = some u by rw [upd_ne z]; exact h), fun j q h => s.le.ads j q h, s.le.scr⟩
  have pin : p ∈ w.ads := List.mem_of_getElem? ha
  refine ⟨⟨le, fun q h1 h2 o e => ?_, fun a o h n t => ?_, fun a h o e => ?_, fun a h n => ?_⟩, ⟨fun a u h => ?_, by rw [List.length_set]; exact r'.len, r'.nd, fun j c q h1 h2 => ?_, fun t ht => ?_, fun a vs h => ?_, fun a ps h => ?_⟩, datL⟩
  · have z : q ≠ p := fun z => h2 (by rw [z]; exact pin)
    exact s.new q h1 h2 o (by rw [upd_ne z]; exact e)
  · have z : a ≠ p := fun z => n (by rw [z]; exact pin)
    rw [upd_ne z]
    exact s.keep a o (by rw [upd_ne z]; exact h) n t
  · by_cases z : a = p
    · subst z
      obtain ⟨ps, e2⟩ := h _ upd_same
      cases e2
    · exact s.free a (fun u q => h u (by rw [upd_ne z]; exact q)) o (by rw [upd_ne z]; exact e)
  · by_cases z : a = p
    · rw [z]
      exact .inr pin
    · rw [lessF a z] at h
      rcases s.newF a h (show upd w.F p _ a = none by rw [upd_ne z]; exact n) with q | q
      · exact .inl fun o e => q o (by rw [upd_ne z]; exact e)
      · exact .inr q
  · by_cases z : a = p
    · subst z
      have : (w'.less a).F a = none := if_pos rfl
      rw [this] at h
      cases h
    · rw [lessF a z] at h
      rw [upd_ne z]
      exact r'.fr a u h
  · have h2 : w'.ads[j]? = some q := h2
    by_cases z : j = k
    · subst z
      have hl := (List.getElem?_eq_some_iff.mp hd).1
      rw [List.getElem?_set_self hl] at h1
      cases h1
      rw [h2] at ha'
      cases ha'
      exact ⟨if_pos rfl, us, upd_same, hv.1, hv.2.mono le⟩
    · rw [List.getElem?_set_ne (fun e => z e.symm)] at h1
      have hne := ads_ne r' ha' h2 z
      have x := r'.at_ j c q h1 h2
      have datsL : ∀ {vs ds}, Dats w' vs ds → Dats (w'.less p) vs ds := fun h => Dats.less hFp (by intro _ z; cases z) (by intro _ z; cases z) h
      have e : ∀ u, H' q = some u → upd H' p (.dK us) q = some u := fun u e => by rw [upd_ne hne]; exact e
      have nF : c ≠ .dead → (w'.less p).F q = none := fun hc => by rw [lessF q hne]; exact x.noF hc
      cases c with
      | lst ds => obtain ⟨_, vs, h1, h2⟩ := x; exact ⟨nF (by simp), vs, e _ h1, datsL h2⟩
      | dic kvs => obtain ⟨_, us, h1, h2, h3⟩ := x; exact ⟨nF (by simp), us, e _ h1, h2, datsL h3⟩
      | dct kvs => obtain ⟨_, us, h1, h2, h3⟩ := x; exact ⟨nF (by simp), us, e _ h1, h2, datsL h3⟩
      | ins c fs => obtain ⟨_, dx, us, h1, h2, h3⟩ := x; exact ⟨nF (by simp), dx, us, e _ h1, h2, datsL h3⟩
      | dead => obtain ⟨o, h1, h2⟩ := x; exact ⟨o, e _ h1, h2⟩
  · obtain ⟨ps, h1, h2, h3⟩ := r'.tabs t ht
    have keep : ∀ a u, H' a = some u → (∀ o x, u ≠ .frz o x) → upd H' p (.dK us) a = some u := fun a u e n => by
      rw [upd_ne (fun z => by rw [z, hHp] at e; exact n _ _ (Option.some.inj e).symm)]
      exact e
    refine ⟨ps, keep _ _ h1 (by intro _ _ z; cases z), h2, fun pos cv hcv => ?_⟩
    obtain ⟨c', e1, e2⟩ := h3 pos cv hcv
    exact ⟨c', e1, keep _ _ e2 (by intros; unfold LamX.CodeO; intro z; cases z)⟩
  · have h : w'.S a = some vs := h
    rw [s.le.scr] at h
    rcases r.scr a vs h with ⟨o, z, y⟩ | z
    · exact .inl ⟨o, le.fr _ _ z, y⟩
    · exact .inr z
  · by_cases z : a = p
    · subst z
      have : (w'.less a).F a = none := if_pos rfl
      rw [this] at h
      cases h
    · rw [lessF a z] at h
      exact r'.nt a ps h
end
/-! ### the pairs of a dict -/
def itemsD (kvs : List (Key × D)) : List D := kvs.map fun q => .tup [kD q.1, (valD kvs q.1).getD .non]
def fItems (i j : Nat) : LE := fun env st => match env[i]? with
  | some (some d) => (match dicL d st with
    | some (_, kvs) => if i ≠ j ∧ j < env.length ∧ kvs.length ≤ lim then .ok (.lst (itemsD kvs)) st else .stuck
    | none => .stuck)
  | _ => .stuck
abbrev tItems (i j : Nat) : TE := tLockE (tLc (iKeys (tVar i)) (gName j) tYes (tTup (tCons (tVar j) (tCons (tDGet (tVar i) (tVar j)) tNil))) [j])
theorem sim_items {K : PySem.W.Frag} {T : List (Addr × Str)} {E : XK} {i j : Nat} : Sim K T E Dat (tItems i j) (fItems i j) := fun w σ H env st Q he r p => by
  have p : Post K T E Dat w H (fItems i j env st) Q := p
  unfold fItems at p
  cases q0 : env[i]? with
  | none => rw [q0] at p; exact p.elim
  | some od =>
    cases od with
    | none => rw [q0] at p; exact p.elim
    | some d =>
      rw [q0] at p
      dsimp only at p
      cases q1 : dicL d st with
      | none => rw [q1] at p; exact p.elim
      | some jk =>
        obtain ⟨k, kvs⟩ := jk
        rw [q1] at p
        have p1 : Post K T E Dat w H (if i ≠ j ∧ j < env.length ∧ kvs.length ≤ lim then .ok (.lst (itemsD kvs)) st else .stuck) Q := p
        by_cases c : i ≠ j ∧ j < env.length ∧ kvs.length ≤ lim
        · rw [if_pos c] at p1
          obtain ⟨hij, hj, hlim⟩ := c
          obtain ⟨v0, hσ, dv0⟩ := he.2 i d q0
          obtain ⟨a, us, rfl, ha, hs, hH, hv⟩ := dic_at r dv0 q1
          have hul := hv.length
          refine ⟨a, .dK us, hH, True.intro, fun od => ?_⟩
          obtain ⟨le1, r1⟩ := r.lock (od := od) ha hs hH
          have hF1 : (lockW w a od us).F a = some (.frz od (.dK us)) := upd_same
          refine ⟨.ref a, hσ, a, od, rfl, .inl ⟨us, upd_same, fun L hL => ?_⟩⟩
          refine ⟨fun m' n' H' => n' = us.length - m' ∧ m' ≤ us.length ∧ ∃ w' acc ds, Acc K T (lockW w a od us) (upd H a (.frz od (.dK us))) L w' H' (st.set k .dead) acc ds ∧ ds = (itemsD kvs).take m',
            ⟨us.length, by simp, Nat.zero_le _, _, [], [], Acc.start r1 hL, by simp⟩, ?_⟩
          rintro m' n' H' ⟨rfl, hm, w', acc, ds, A, hds⟩
          have hfrz : H' a = some (.frz od (.dK us)) := A.rel.fr _ _ (A.stp.le.fr _ _ hF1)
          by_cases hlt : m' < us.length
          · refine .inr ⟨⟨hfrz, hlt⟩, fun H'' => ∃ w' acc ds, Acc K T (lockW w a od us) (upd H a (.frz od (.dK us))) L w' H'' (st.set k .dead) acc ds ∧ ds = (itemsD kvs).take (m' + 1), fun H'' hN => ⟨us.length - (m' + 1), by omega, rfl, hlt, hN⟩, fun x H3 hy => ?_⟩
            obtain ⟨rfl, ky, vy, hk, rfl⟩ := hy
            refine ⟨(wipe_set (List.mem_singleton.mpr rfl)).trans (wipe_idem σ [j]), ?_⟩
            unfold tYes
            dsimp only
            rw [if_pos rfl]
            have hlσ : j < (wipe σ [j]).length := by rw [wipe_length, he.1]; exact hj
            have s1 : ((wipe σ [j]).set j (some (kV ky)))[j]? = some (some (kV ky)) := List.getElem?_set_self hlσ
            have s2 : ((wipe σ [j]).set j (some (kV ky)))[i]? = some (some (.ref a)) := by
              rw [List.getElem?_set_ne (fun z => hij z.symm), wipe_out (by simp; exact hij)]
              exact hσ
            -- the key's place
            have hkl : m' < kvs.length := by omega
            have hkk : kvs[m'].1 = ky := by
              have h1 : (us.map (·.1))[m']? = some ky := by rw [List.getElem?_map, hk]; rfl
              rw [hv.1, List.getElem?_map, List.getElem?_eq_getElem hkl] at h1
              exact Option.some.inj h1
            have hsome : ∃ dd, valD kvs ky = some dd := by
              unfold valD
              cases z : kvs.find? fun p => decide (p.1 = ky) with
              | some q => exact ⟨q.2, rfl⟩
              | none =>
                have := List.find?_eq_none.mp z kvs[m'] (List.getElem_mem _)
                rw [hkk] at this
                simp at this
            obtain ⟨dd, hdd⟩ := hsome
            obtain ⟨vv, hvv, dvv⟩ := (hv.val ky).2 dd hdd
            refine ⟨kV ky, s1, .ref a, s2, kV ky, s1, a, vv, rfl, .inl ⟨us, ky, .inr ⟨od, hfrz⟩, rfl, hvv.symm⟩, ?_, fun q hq => ?_⟩
            · show 2 ≤ sizeLine
              rw [lim_eq]
              decide
            · obtain ⟨st2, r2⟩ := A.rel.laid hq (.tup [kV ky, vv])
              have A2 := A.step st2 r2
              have lew : Le w ⟨upd w'.F q (.tup [kV ky, vv]), w'.ads, w'.S⟩ := (le1.trans A.stp.le).trans st2.le
              have dvq : Dat ⟨upd w'.F q (.tup [kV ky, vv]), w'.ads, w'.S⟩ (.ref q) (.tup [kD ky, dd]) := .tup upd_same (.cons (kD_dat ky) (.cons (dvv.mono lew) .nil))
              refine ⟨acc, A2.hL, ?_, _, _, _, A2.push hL dvq, ?_⟩
              · have := A.dats.length
                rw [hds, List.length_take] at this
                rw [lim_eq]
                unfold itemsD at this
                rw [List.length_map] at this
                omega
              · have hit : (itemsD kvs)[m']? = some (.tup [kD ky, dd]) := by
                  unfold itemsD
                  rw [List.getElem?_map, List.getElem?_eq_getElem hkl]
                  show some (D.tup [kD kvs[m'].1, (valD kvs kvs[m'].1).getD .non]) = _
                  rw [hkk, hdd]
                  rfl
                rw [hds, List.take_add_one, hit]
                rfl
          · have hme : m' = us.length := by omega
            refine .inl ⟨⟨hfrz, by omega⟩, hfrz, ?_⟩
            obtain ⟨sD, rD, dD⟩ := A.done hL
            have hdead : (st.set k .dead)[k]? = some .dead := List.getElem?_set_self (List.getElem?_eq_some_iff.mp hs).1
            obtain ⟨s4, r4, dl⟩ := r.unlock ha hs hH hv sD rD hdead
            have est : (st.set k .dead).set k (.dic kvs) = st := by
              rw [List.set_set]
              refine List.ext_getElem? fun x => ?_
              by_cases z : k = x
              · subst z
                rw [List.getElem?_set_self (List.getElem?_eq_some_iff.mp hs).1, hs]
              · rw [List.getElem?_set_ne z]
            rw [est] at r4
            have hall : ds = itemsD kvs := by
              rw [hds]
              refine List.take_of_length_le ?_
              unfold itemsD
              rw [List.length_map]
              omega
            rw [hall] at dD
            exact p1 _ _ _ s4 r4 (dl _ _ dD)
        · rw [if_neg c] at p1
          exact p1.elim
section
variable {X : Cx} {T : List (Addr × Str)} {E : XK} {i j kk n1 : Nat} {x d : Str} {p0 p1 p2 p3 p4 p5 p6 pos : Pos} {scope : Scope} {own : List (Str × Nat)}
theorem x_items (hr : Room kk X.A) (hc : X.calm = true) (hN : X.N.Nodup) (ok : BlkOk X.N X.env.scope scope own) (hown : own.map (·.2) = [j])
    (hg : ∀ (s : Shared) (H : Hp) (C : Addr) (cl : List (Str × Addr)) (fp : List Addr), PG (X.blk s H scope (compEnvC scope cl C X.env) fp) (.Name x p5) (gName j))
    (hx1 : ∀ (s : Shared) (H : Hp) (C : Addr) (cl : List (Str × Addr)) (fp : List Addr), PE (X.blk s H scope (compEnvC scope cl C X.env) fp) (.Name x p1) (tVar j))
    (hx3 : ∀ (s : Shared) (H : Hp) (C : Addr) (cl : List (Str × Addr)) (fp : List Addr), PE (X.blk s H scope (compEnvC scope cl C X.env) fp) (.Name x p3) (tVar j))
    (hd2 : ∀ (s : Shared) (H : Hp) (C : Addr) (cl : List (Str × Addr)) (fp : List Addr), PE (X.blk s H scope (compEnvC scope cl C X.env) fp) (.Name d p2) (tVar i))
    (hd : PE X (.Name d p6) (tVar i)) (hs : ∀ x, foldedSetIterable (.Name d p6) X.env x = pure x := by intro _; rfl) :
    PEf X T E (.ListComp (.Tuple [.Name x p1, .Subscript (.Name d p2) (.Name x p3) p4] n1 p0) [⟨.Name x p5, .Name d p6, [], 0⟩] scope pos) (fItems i j) := by
  refine pe_to ?_ sim_items
  have h := pe_lc (pos := pos) hc hN (pi_keys hd) ok hg (fun _ _ _ _ _ => pts_nil) (fun s H C cl fp => pe_tup (x1 := n1) (pos := p0) (pa_cons (hx1 s H C cl fp) (pa_cons (pe_dget (pos := p4) (hu1 hr) (hd2 s H C cl fp) (hx3 s H C cl fp) (fun _ _ => rfl)) pa_nil))) hs
  rw [hown] at h
  exact pe_lock h
end
/-! ### evaluated -/
theorem fItems_of {i j k : Nat} {env : DEnv} {st : Store} {kvs : List (Key × D)} (h : env[i]? = some (some (.ref k))) (hs : st[k]? = some (.dic kvs)) (hij : i ≠ j) (hj : j < env.length) (hl : kvs.length ≤ lim) : fItems i j env st = .ok (.lst (itemsD kvs)) st := by
  unfold fItems
  rw [h]
  dsimp only
  rw [dicL_ref hs]
  exact if_pos ⟨hij, hj, hl⟩
end Fk
/-! FkZj: comprehensions out of whose element an error may come. -/
namespace Fk
open PySem PySem.Spec PyProof.Rows L2
/-- an error that a call in the block let out -/
def BX (Y : Cx) (E : XK) (e : Value) (s' : Shared) : Prop := ∃ pins σ H s, Inv Y pins σ H s ∧ L2.CX Y.prog Y.w Y.stack H s E e s'
theorem px_blk {Y : Cx} {E : XK} : Passes (L2.CX (Y.wish (BX Y E)).prog (Y.wish (BX Y E)).w) (Y.wish (BX Y E)) E := fun pins σ H s e s' I c => ⟨pins, σ, H, s, I.unwish, c⟩
section
variable {X : Cx} {pins : List (Addr × Obj)} {σ : L2.St} {H3 : Hp} {s3 s' : Shared} {scope : Scope} {cl : List (Str × Addr)} {fp : List Addr} {E : XK} {e : Value}
theorem held_less {B G h1 h2 : Heap} {l : List Env} {a C L : Addr} {Z : Obj → Prop} {m1 m2 : Str → Option Value} (hG : ∀ b o, G.get? b = some o → B.get? b = some o ∧ b ≠ C) (hh : HandSPX.HeldZ B l a Z L h1) (n1 : h1.Ns C m1) (n2 : h2.Ns C m2) (sb : Heap.SameBut C h1 h2) (fr : h2.FunFrames G l) :
    HandSPX.HeldZ G l a Z L h2 := by
  obtain ⟨b1, b0, f1, oe, vs, T, oT, ts, he, hz, hd, e1, hT0, hTe, hT, hdT, h3⟩ := hh
  have gone : ∀ x : Addr, B.get? x = none → G.get? x = none := fun x hx => by
    cases q : G.get? x with
    | none => rfl
    | some o => rw [(hG x o q).1] at hx; cases hx
  obtain ⟨oC, es, ep, hoC, hdC, _⟩ := n1
  have notC : ∀ (x : Addr) (o : Obj) (fs : Array Value), h1.get? x = some o → o.data = .fields fs → x ≠ C := fun x o fs hx hd z => by
    rw [z, hoC] at hx
    cases hx
    rw [hdC] at hd
    cases hd
  refine ⟨fun b o hb => ?_, gone _ b0, fr, oe, vs, T, oT, ts, (sb.2 a (notC a oe vs he hd)).trans he, hz, hd, e1, gone _ hT0, hTe, (sb.2 T (notC T oT ts hT hdT)).trans hT, hdT, h3⟩
  obtain ⟨z1, z2⟩ := hG b o hb
  exact (sb.2 b z2).trans (b1 b o z1)
theorem blk_fails (I3 : Inv X pins σ H3 s3) (tk : Takes X (W0 E)) (hst : X.stack = X.env :: X.outer) (hf : X.env.frame = some X.env.locals)
    (f3 : ∀ b ∈ fp, FpOk X pins H3 b ∧ b < s3.heap.objs.size) (x : BX (X.blk s3 H3 scope (compEnvC scope cl s3.heap.objs.size X.env) fp) E e s') :
    notedBy (model X.prog X.w) X.A (compEnvC scope cl s3.heap.objs.size X.env) (CompFails (model X.prog X.w) X.A X.xe (compEnvC scope cl s3.heap.objs.size X.env)) e s' := by
  obtain ⟨pins', σ', H, s, I, c⟩ := x
  obtain ⟨a, B, sI, p2, σ2, H', cls, d, rfl, I', nb, up, sky, na, os, ag, w⟩ := XE.of_call (W := fun cls d _ H => E cls d H) I (fun _ _ _ h => h) c
  obtain ⟨a', B', H'', cls', d', ea, fl', _⟩ := c
  cases ea
  have fl : HandSPX.FlyingZ B X.stack a (Zc cls d) s'.heap := by
    obtain ⟨_, _, _, oe, vs, T, oT, ts, he, hz, hd, e1, hT0, hTe, hT, hdT, h3⟩ := fl'
    rcases sky with ⟨_, _, _, oe2, vs2, he2, _, hd2, e2⟩ | fl | ⟨_, _, _, oe2, vs2, T2, oT2, ts2, he2, _, hd2, e2, _, _, hT2, hdT2, h32⟩
    · rw [he] at he2; cases he2
      rw [hd] at hd2; cases hd2
      rw [e1] at e2; cases e2
    · exact fl
    · rw [he] at he2; cases he2
      rw [hd] at hd2; cases hd2
      rw [e1] at e2; cases e2
      rw [hT] at hT2; cases hT2
      rw [hdT] at hdT2; cases hdT2
      rw [h3] at h32
      exact nomatch h32
  have hfr : X.A.frames = some (X.env :: X.outer) := by rw [← hst]; exact I3.ok.frames
  rw [hst] at fl
  show wpAny _ _ (noteFrame (.ref a) _) _ _ s'
  rw [noteFrame_env (.ref a) (show (compEnvC scope cl s3.heap.objs.size X.env).frame = X.env.frame from rfl)]
  refine HandSPX.looks_onZ Zc.steady hfr hf fl fun h1 hh up1 => ?_
  obtain ⟨m, hn, _⟩ := I'.loc
  have hn : sI.heap.Ns s3.heap.objs.size m := hn
  have n2 : h1.Ns s3.heap.objs.size m := (hn.upToSlots up).upToSlots up1
  refine ⟨m, n2, fun h2 m2 hn2 sb => ?_⟩
  have hn2 : h2.Ns s3.heap.objs.size m2 := hn2
  have sb : Heap.SameBut s3.heap.objs.size h1 h2 := sb
  obtain ⟨G, eG⟩ : ∃ G, G = PySem.W.hideAll B [s3.heap.objs.size] := ⟨_, rfl⟩
  obtain ⟨hI, eI⟩ : ∃ hI, hI = PySem.W.hideAll sI.heap [s3.heap.objs.size] := ⟨_, rfl⟩
  have less : ∀ {h : Heap} {b o}, (PySem.W.hideAll h [s3.heap.objs.size]).get? b = some o → h.get? b = some o ∧ b ≠ s3.heap.objs.size := fun {h b o} q => ⟨PySem.W.of_hideAll _ q, fun z => by
    rw [PySem.W.hideAll_none [s3.heap.objs.size] (by rw [z]; exact List.mem_singleton.mpr rfl)] at q
    cases q⟩
  have hG : ∀ b o, G.get? b = some o → B.get? b = some o ∧ b ≠ s3.heap.objs.size := fun b o q => less (by rw [← eG]; exact q)
  have hIl : ∀ b o, hI.get? b = some o → sI.heap.get? b = some o ∧ b ≠ s3.heap.objs.size := fun b o q => less (by rw [← eI]; exact q)
  have keepI : ∀ b o, sI.heap.get? b = some o → b ≠ s3.heap.objs.size → hI.get? b = some o := fun b o q n => by
    rw [eI]
    exact PySem.W.hideAll_get _ q fun z => n (List.mem_singleton.mp z)
  have fr2 : h2.FunFrames G (X.env :: X.outer) := by
    have f1 : h2.FunFrames B (X.env :: X.outer) := Heap.FunFrames.sameBut sb hn2 hh.2.2.1
    refine funFrames_none f1 fun L hL => ?_
    cases q : G.get? L with
    | none => rfl
    | some o =>
      have z := (f1.mem hL).1
      rw [(hG L o q).1] at z
      cases z
  have hh2 := held_less hG hh n2 hn2 sb fr2
  unfold PySem.passOn
  obtain ⟨_, _, _, oe, vs, T, oT, ts, he, hz, hd, e1, _⟩ := id hh2
  refine wpAny_bind (wpAny_field (s := { s' with heap := h2 }) he hd e1 ?_)
  rw [if_neg (by simp)]
  show wpAny _ _ ((setFlight (.ref a) X.env.frame) >>= _) _ _ _
  rw [hf]
  refine wpAny_bind (HandSPX.setFlight_onZ hh2 fun h4 hh4 up4 => ?_)
  refine wpAny_throw (tk _ _ ?_)
  have low : ∀ b o, s3.heap.get? b = some o → b ≠ s3.heap.objs.size := fun b o q => Nat.ne_of_lt (Heap.lt_size q)
  have u0 : Un (frs X.stack) fp H3 H' s3.heap sI.heap := I'.base
  have u1 : Un (frs X.stack) fp H3 H' s3.heap hI := ⟨fun b o q1 q2 q3 q4 => keepI b o (u0.keep b o q1 q2 q3 q4) (low b o q1), fun b o q1 q2 q3 q4 => by
      obtain ⟨sl, q⟩ := u0.slot b o q1 q2 q3 q4
      exact ⟨sl, keepI b _ q (low b o q1)⟩, u0.free, fun b o q1 q2 => by
      obtain ⟨o', q⟩ := u0.there b o q1 q2
      exact ⟨o', keepI b _ q (low b o q1)⟩, u0.tups, u0.frzs, u0.tbls⟩
  have fC : H' s3.heap.objs.size = none := I'.free
  have okI : HOk X.prog X.w H' hI := fun b o q => (I'.hok b o q).stay (fun c u hc r => keepI c u r fun z => by
    rw [z] at hc
    rcases hc with hc | hc
    · rw [← hc, fC] at q; cases q
    · rw [fC] at hc; cases hc) (fun _ r => r) fun _ _ r => r
  have J : Inv X pins σ H' { sI with heap := hI } := I3.call' (ch := fp) I'.os u1 okI I'.bare fun b hb => ⟨(f3 b hb).1.2.2.2.1, (f3 b hb).1.2.1, (f3 b hb).1.2.2.2.2.1, (f3 b hb).1.2.2.2.2.2⟩
  refine ⟨a, G, { sI with heap := hI }, pins, σ, H', cls, d, rfl, J, fun b o q hb => ?_, fun b o q hd => ?_, .inr (.inr (by rw [hst]; exact hh4)), na, os, ag, w⟩
  · obtain ⟨q1, q2⟩ := hIl b o q
    rw [eG]
    exact PySem.W.hideAll_get _ (nb b o q1 hb) fun z => q2 (List.mem_singleton.mp z)
  · obtain ⟨q1, q2⟩ := hIl b o q
    obtain ⟨l1, r1⟩ := up b o q1 hd
    obtain ⟨l2, r2⟩ := up1 b _ r1 hd
    obtain ⟨l3, r3⟩ := up4 b _ ((sb.2 b q2).trans r2) hd
    exact ⟨l3, r3⟩
end
section
variable {X : Cx}
theorem lcX_core {pins : List (Addr × Obj)} {s : Shared} {σ : L2.St} {H : Hp} {Q : VK} {E : XK} {elt tg iter : Expr} {ifs : List Expr} {scope : Scope} {own : List (Str × Nat)} {pos pos' : Pos} {wi : TI} {g : TG} {tt : TT} {te : TE} {use : Option (Value → Sem Unit)} {Qf : Value → Shared → Prop}
    (hc : X.calm = true) (tk : Takes X (W0 E)) (hst : X.stack = X.env :: X.outer) (hf : X.env.frame = some X.env.locals) (hN : X.N.Nodup) (I : Inv X pins σ H s) (hi : PI X tg iter wi) (ok : BlkOk X.N X.env.scope scope own)
    (hg : ∀ (s : Shared) (H : Hp) (C : Addr) (cl : List (Str × Addr)) (fp : List Addr), PG (X.blk s H scope (compEnvC scope cl C X.env) fp) tg g) (ht : ∀ (s : Shared) (H : Hp) (C : Addr) (cl : List (Str × Addr)) (fp : List Addr), PTs (X.blk s H scope (compEnvC scope cl C X.env) fp) ifs tt)
    (he : ∀ (s : Shared) (H : Hp) (C : Addr) (cl : List (Str × Addr)) (fp : List Addr), Inv X pins σ H s → (∀ b ∈ fp, FpOk X pins H b ∧ b < s.heap.objs.size) → PE ((X.blk s H scope (compEnvC scope cl C X.env) fp).wish (BX (X.blk s H scope (compEnvC scope cl C X.env) fp) E)) elt te) (hs : ∀ x, foldedSetIterable iter X.env x = pure x)
    (h : tLc wi g tt te (own.map (·.2)) σ H Q)
    (fin0 : ∀ D C s' m H', Inv X pins σ H' s' → Q (.ref D) H' → s'.heap.Ns C m → FpOk X pins H' C → compPost (model X.prog X.w) X.A X.xe use Qf (.ref D) C (.ok .next) s') :
    wpAny (model X.prog X.w) X.A (comprehension (.ListComp elt [⟨tg, iter, ifs, 0⟩] scope pos) scope X.env pos' (newList []) false (eval iter X.env) use) Qf X.xe s := by
  have seen : ∀ y ∈ scope.names, y.2 = .free → ∃ c, X.env.cells.lookup y.1 = some c := fun y hy e => (ok.free y hy e).elim (fun k => I.ok.has _ (.inl k)) fun k => I.ok.has _ (.inr k)
  refine comprehension_at (use := use) rfl hs (closure_ok seen) ok.kind (fun y hy e => by rw [ok.uniq y hy, e])
    (thn (hi.run pins s σ H _ I h) fun xv sa hx => thn hx fun iv sb hb => ?_)
  obtain ⟨it, fp, tn, J, Hb, e0, Ib, T, stb, fb, q⟩ := hb
  subst e0
  refine wpAny_newObj_type (newEnv_comp ?_) (by show 0 ≤ sizeLine; decide)
  obtain ⟨D, hD⟩ : ∃ D, sb.heap.objs.size = D := ⟨_, rfl⟩
  have hDn : Hb D = none := Ib.hok.fresh (Nat.le_of_eq hD)
  obtain ⟨W, ⟨m0, w0⟩, turn⟩ := q D hDn
  obtain ⟨s3, hs3⟩ : ∃ s3 : Shared, ({ sb with heap := sb.heap.push { cls := .type "list", data := .seq ([] : List Value).toArray } } : Shared) = s3 := ⟨_, rfl⟩
  have I3 : Inv X pins σ (upd Hb D (.lst [])) s3 := by
    rw [← hs3]
    refine Ib.laid (t' := sb.toks) (fun b o z => Heap.get?_push_of_some _ z) (Nat.le_of_eq hD) ⟨Nat.zero_le _, [], 0, .nil, ?_⟩
    rw [← hD]
    exact Heap.get?_push_size _ rfl
  have heap3 : s3.heap = sb.heap.push { cls := .type "list", data := .seq ([] : List Value).toArray } := by rw [← hs3]
  have f3 : ∀ b ∈ fp, FpOk X pins (upd Hb D (.lst [])) b ∧ b < s3.heap.objs.size := fun b hb => by
    obtain ⟨o, z, _⟩ := T.obj _ _ stb b hb
    have lt := Heap.lt_size z
    refine ⟨⟨?_, (fb b hb).2⟩, by rw [heap3, Heap.size_push]; exact Nat.lt_succ_of_lt lt⟩
    rw [upd_ne (by rw [← hD]; exact Nat.ne_of_lt lt)]
    exact (fb b hb).1
  have st3 : tn 0 s3.heap := T.keep _ _ _ stb fun b _ o z => by rw [heap3]; exact Heap.get?_push_of_some _ z
  have I4 := block_start I3 ok hN f3
  have pg := hg s3 (upd Hb D (.lst [])) s3.heap.objs.size (cellsFrom (s3.heap.objs.size + 1) scope.names (cloFrom X.env.cells scope.names [])) fp
  have pt := ht s3 (upd Hb D (.lst [])) s3.heap.objs.size (cellsFrom (s3.heap.objs.size + 1) scope.names (cloFrom X.env.cells scope.names [])) fp
  have pe := he s3 (upd Hb D (.lst [])) s3.heap.objs.size (cellsFrom (s3.heap.objs.size + 1) scope.names (cloFrom X.env.cells scope.names [])) fp I3 f3
  have lost := fun (e : Value) (s' : Shared) => blk_fails (scope := scope) (cl := cellsFrom (s3.heap.objs.size + 1) scope.names (cloFrom X.env.cells scope.names [])) (s' := s') (e := e) I3 tk hst hf f3
  show codeAny _ _ (.compStart (.ListComp elt [⟨tg, iter, ifs, 0⟩] scope pos) 0 (.ref it) (.ref sb.heap.objs.size) (compEnvC scope (cellsFrom (({ sb with heap := sb.heap.push { cls := .type "list", data := .seq ([] : List Value).toArray } } : Shared).heap.objs.size + 1) scope.names (cloFrom X.env.cells scope.names [])) ({ sb with heap := sb.heap.push { cls := .type "list", data := .seq ([] : List Value).toArray } } : Shared).heap.objs.size X.env))
    (compEnds (model X.prog X.w) X.A X.xe use Qf (.ref sb.heap.objs.size) (compEnvC scope (cellsFrom (({ sb with heap := sb.heap.push { cls := .type "list", data := .seq ([] : List Value).toArray } } : Shared).heap.objs.size + 1) scope.names (cloFrom X.env.cells scope.names [])) ({ sb with heap := sb.heap.push { cls := .type "list", data := .seq ([] : List Value).toArray } } : Shared).heap.objs.size X.env))
    { ({ sb with heap := sb.heap.push { cls := .type "list", data := .seq ([] : List Value).toArray } } : Shared) with heap := pushCells (({ sb with heap := sb.heap.push { cls := .type "list", data := .seq ([] : List Value).toArray } } : Shared).heap.push { cls := .type "dict", data := .dict #[] }) scope.names }
  rw [hs3, hD]
  have nfp : ∀ b ∈ fp, (upd Hb D (.lst [])) b = none := fun b hb => (f3 b hb).1.1
  obtain ⟨ce, hce⟩ : ∃ ce, compEnvC scope (cellsFrom (s3.heap.objs.size + 1) scope.names (cloFrom X.env.cells scope.names [])) s3.heap.objs.size X.env = ce := ⟨_, rfl⟩
  have cL : ce.locals = s3.heap.objs.size := by rw [← hce]; rfl
  obtain ⟨H3, hH3⟩ : ∃ H3, upd Hb D (.lst []) = H3 := ⟨_, rfl⟩
  rw [hH3, hce] at I4 pg pt pe lost
  rw [hH3] at I3 w0 nfp f3
  rw [hce]
  obtain ⟨s4, hs4⟩ : ∃ s4 : Shared, ({ s3 with heap := pushCells (s3.heap.push { cls := .type "dict", data := .dict #[] }) scope.names } : Shared) = s4 := ⟨_, rfl⟩
  rw [hs4] at I4 ⊢
  have st4 : tn 0 s4.heap := T.keep _ _ _ st3 fun b _ o z => by rw [← hs4]; exact pushCells_keeps _ _ _ _ (Heap.get?_push_of_some _ z)
  let Y : Cx := X.blk s3 H3 scope ce fp
  have stat : ∀ {σ' : L2.St} {H' : Hp} {s' : Shared}, Inv Y [] σ' H' s' → (∀ b ∈ fp, H' b = none) → ∀ b ∈ fp, FpOk Y [] H' b := fun I' hn b hb =>
    ⟨hn b hb, (I'.ok.exf b hb).1, I'.ok.exfs b hb, .inl hb, fun x c z => (I'.ok.exf b hb).2 x c z, fun p hp => by cases hp⟩
  let G : Nat → Shared → Prop := fun n s' => ∃ i H', Inv Y [] (wipe σ (own.map (·.2))) H' s' ∧ tn i s'.heap ∧ (∀ b ∈ fp, H' b = none) ∧ W i n H'
  have loop : codeAny (model X.prog X.w) X.A (.compLoop (.ListComp elt [⟨tg, iter, ifs, 0⟩] scope pos) 0 (.ref it) (.ref D) ce) (compEnds (model X.prog X.w) X.A X.xe use Qf (.ref D) ce) s4 := by
    refine compLoop_any G (fun n s5 ⟨i, H5, J5, st5, n5, w5⟩ => ?_) m0 ⟨0, H3, I4, st4, nfp, w0⟩
    rcases turn i n H5 w5 with ⟨stop, qq⟩ | ⟨go, Nx, hNx, step⟩
    · refine thnF (T.done Y rfl rfl rfl hc i [] s5 _ H5 (fun _ _ => False) J5 (stat J5 n5) st5 stop) fun r s6 ⟨hr, J6⟩ => ?_
      subst hr
      have J7 : Inv X pins σ H5 s6 := I3.call' (ch := fp) J6.os J6.base J6.hok J6.bare fun b hb => ⟨(f3 b hb).1.2.2.2.1, (f3 b hb).1.2.1, (f3 b hb).1.2.2.2.2.1, (f3 b hb).1.2.2.2.2.2⟩
      have gone : H5 ce.locals = none := J6.free
      obtain ⟨m, ns, _⟩ := J6.loc
      have ns : s6.heap.Ns ce.locals m := ns
      have z := fin0 D ce.locals s6 m H5 J7 qq ns (I3.fpOk (by rw [cL]; exact Nat.le_refl _) gone)
      cases use <;> exact z
    · refine thnF (T.item Y rfl rfl rfl hc i [] s5 _ H5 (fun _ _ => False) J5 (stat J5 n5) st5 go) fun r s6 ⟨u, hr, h6⟩ => ?_
      subst hr
      refine thnF h6 fun _ s7 ⟨x, H7, J7, rx, y7, st7, n7⟩ => ?_
      refine thnF (pg.run _ s7 _ H7 x u _ (J7.pinned (stat J7 n7) (T.obj _ _ st7)) rx (step x H7 y7)) fun _ s8 ⟨sg8, H8, J8, hw8, q8⟩ => ?_
      refine thnF (pt.run _ s8 sg8 H8 _ J8 q8) fun b s9 ⟨H9, J9, q9⟩ => ?_
      have next : ∀ (s' : Shared) (H' : Hp), Inv Y ([] ++ pinsAt fp s7.heap) sg8 H' s' → Nx H' → ∃ m, m < n ∧ G m s' := fun s' H' J' nx => by
        obtain ⟨m', lt, w'⟩ := hNx H' nx
        have pin : ∀ b ∈ fp, ∀ u, s7.heap.get? b = some u → s'.heap.get? b = some u ∧ H' b = none := fun b hb u z => by
          have p := J'.pin (b, u) (List.mem_append_right _ (List.mem_append_right _ (mem_pinsAt hb z)))
          exact ⟨p.1, p.2.1⟩
        refine ⟨m', lt, i + 1, H', (J'.unpinned (pins := [])).weak (by rw [← hw8, wipe_length]) (fun j v z => ?_), T.keep _ _ _ st7 fun b hb u z => (pin b hb u z).1, fun b hb => ?_, w'⟩
        · rw [← hw8] at z
          exact (wipe_some z).1
        · obtain ⟨u, z, _⟩ := T.obj _ _ st7 b hb
          exact (pin b hb u z).2
      cases b with
      | false =>
        rw [if_neg Bool.false_ne_true] at q9 ⊢
        exact next _ _ J9 q9
      | true =>
        rw [if_pos rfl] at q9 ⊢
        refine wpAny_mono (pe.run _ s9 sg8 H9 _ (J9.wish _) q9) (fun z s10 ⟨yv, Ha, Ja, ra, acc, hDa, hza, nx⟩ => ?_) fun e s' x => ?_
        · exact app_ok (X := Y) Ja.unwish hDa hza ra fun sc Jc => next _ _ Jc nx
        · have z := lost e s' x
          cases use <;> exact z
  have startK := codeAny_compStart_list (rest := []) loop (T.self X.A 0 _ _ _ st4 loop)
  exact startK
end
end Fk
/-! FkZk: a list comprehension whose element may let an error out, as a plain function. -/
namespace Fk
open PySem PySem.Spec PyProof.Rows L2
def lcRunX (g : Store → Bool) (lg : LG) (ft : LT) (fe : LE) (envw : DEnv) : List D → Store → Res (List D)
  | [], st => if g st = true then .ok [] st else .stuck
  | d :: ds, st => if g st = true then (match lg d envw st with
    | .nx e1 s1 => (noex (ft e1 s1)).bind fun b s2 => if b = true then (fe e1 s2).bind fun y s3 => (lcRunX g lg ft fe envw ds s3).bind fun ys s4 => .ok (y :: ys) s4 else lcRunX g lg ft fe envw ds s2
    | _ => .stuck) else .stuck
def fLcX (fi : LI) (lg : LG) (ft : LT) (fe : LE) (vs : List Nat) : LE := fun env st => (fi env st).bind fun it st1 => if it.1.length ≤ lim then (lcRunX it.2 lg ft fe (wipeD env vs) it.1 st1).bind fun ys st2 => .ok (.lst ys) st2 else .stuck
theorem bind_idR {α : Type} (r : Res α) : r.bind (fun a s => Res.ok a s) = r := by cases r <;> rfl
theorem bind_as {α β γ : Type} (r : Res α) (f : α → Store → Res β) (h : β → Store → Res γ) : (r.bind f).bind h = r.bind fun a s => (f a s).bind h := by cases r <;> rfl
section
variable {T : List (Addr × Str)} {E : XK} {K : PySem.W.Frag}
theorem sim_lcX {fi : LI} {lg : LG} {ft : LT} {fe : LE} {vs : List Nat} : Sim K T E Dat (tLc (tOf K T E (WalkR K T) fi) (tOfG K T EN (some vs) lg) (tOf K T EN eqB ft) (tOf K T E Dat fe) vs) (fLcX fi lg ft fe vs) := fun w σ H env st Q he r p => by
  refine ⟨w, env, st, he, r, Post.bind (rel := WalkR K T) p fun w1 J H1 it st1 s1 r1 wk p1 => ?_⟩
  obtain ⟨items, g⟩ := it
  intro L hL
  have he1 := he.mono s1.le
  have p0 : Post K T E Dat w1 H1 (if items.length ≤ lim then (lcRunX g lg ft fe (wipeD env vs) items st1).bind fun ys st2 => .ok (.lst ys) st2 else .stuck) Q := p1
  by_cases hlim : items.length ≤ lim
  rotate_left
  · rw [if_neg hlim] at p0
    exact p0.elim
  rw [if_pos hlim] at p0
  have p1 : Post K T E Dat w1 H1 ((lcRunX g lg ft fe (wipeD env vs) items st1).bind fun ys st2 => .ok (.lst ys) st2) Q := p0
  obtain ⟨R, hR⟩ : ∃ R, lcRunX g lg ft fe (wipeD env vs) items st1 = R := ⟨_, rfl⟩
  rw [hR] at p1
  refine ⟨fun i m H' => m = items.length - i ∧ i ≤ items.length ∧ ∃ w' st' acc ds, Acc K T w1 H1 L w' H' st' acc ds ∧ ds.length ≤ i ∧ ((lcRunX g lg ft fe (wipeD env vs) (items.drop i) st').bind fun zs s => .ok (ds ++ zs) s) = R,
    ⟨items.length, by simp, Nat.zero_le _, w1, st1, [], [], Acc.start r1 hL, Nat.zero_le _, by rw [List.drop_zero, hR]; exact bind_idR R⟩, ?_⟩
  rintro i m H' ⟨rfl, hi, w', st', acc, ds, a, hdl, hr⟩
  by_cases hlt : i < items.length
  · have hd : items[i]? = some items[i] := List.getElem?_eq_getElem hlt
    rw [List.drop_eq_getElem_cons hlt, lcRunX] at hr
    by_cases hg : g st' = true
    · rw [if_pos hg] at hr
      refine .inr ⟨wk.go i _ w' H' st' a.stp.le a.rel hg hd, fun H'' => ∃ w' st' acc ds, Acc K T w1 H1 L w' H'' st' acc ds ∧ ds.length ≤ i + 1 ∧ ((lcRunX g lg ft fe (wipeD env vs) (items.drop (i + 1)) st').bind fun zs s => .ok (ds ++ zs) s) = R, fun H'' hN => ⟨items.length - (i + 1), by omega, rfl, hlt, hN⟩, fun x H3 hy => ?_⟩
      obtain ⟨w3, s3, r3, dx⟩ := wk.yld i _ w' H' st' x H3 a.stp.le a.rel hg hd hy
      have a3 := a.step s3 r3
      refine ⟨w3, items[i], wipeD env vs, st', (he1.wipe vs).mono a3.stp.le, r3, dx, ?_⟩
      cases q : lg items[i] (wipeD env vs) st' with
      | nx e4 st4 =>
        rw [q] at hr
        dsimp only at hr
        refine fun w4 σ4 H4 s4 e4' r4 hw => ⟨(hw vs rfl).trans (wipe_idem σ vs), w4, e4, st4, e4', r4, ?_⟩
        have a4 := a3.step s4 r4
        cases q2 : ft e4 st4 with
        | ex _ _ => rw [q2] at hr; rw [← hr] at p1; exact p1.elim
        | stuck => rw [q2] at hr; rw [← hr] at p1; exact p1.elim
        | ok b st5 =>
          rw [q2] at hr
          intro w5 c H5 s5 r5 hc
          cases (show c = b from hc)
          have a5 := a4.step s5 r5
          cases b with
          | false => exact ⟨w5, st5, acc, ds, a5, by omega, hr⟩
          | true =>
            refine ⟨w5, e4, st5, e4'.mono s5.le, r5, ?_⟩
            have hr : (((fe e4 st5).bind fun y s3 => (lcRunX g lg ft fe (wipeD env vs) (items.drop (i + 1)) s3).bind fun ys s4 => Res.ok (y :: ys) s4).bind fun zs s => .ok (ds ++ zs) s) = R := hr
            cases q3 : fe e4 st5 with
            | stuck => rw [q3] at hr; rw [← hr] at p1; exact p1.elim
            | ex x6 st6 =>
              rw [q3] at hr
              rw [← hr] at p1
              exact fun w6 c6 od H6 s6 r6 ex6 => p1 w6 c6 od H6 (a5.stp.trans s6) r6 ex6
            | ok y st6 =>
              rw [q3] at hr
              have hr : (((lcRunX g lg ft fe (wipeD env vs) (items.drop (i + 1)) st6).bind fun ys s4 => Res.ok (y :: ys) s4).bind fun zs s => .ok (ds ++ zs) s) = R := hr
              rw [bind_as] at hr
              intro w6 v H6 s6 r6 dv
              have a6 := a5.step s6 r6
              have hlen : acc.length < sizeLine := by
                rw [a6.dats.length, lim_eq]
                omega
              refine ⟨acc, a6.hL, hlen, w6, st6, acc ++ [v], ds ++ [y], a6.push hL dv, by rw [List.length_append]; show ds.length + 1 ≤ i + 1; omega, ?_⟩
              rw [← hr]
              congr 1
              funext zs s
              show Res.ok ((ds ++ [y]) ++ zs) s = Res.ok (ds ++ y :: zs) s
              rw [List.append_assoc]
              rfl
      | ex x e4 st4 => rw [q] at hr; rw [← hr] at p1; exact p1.elim
      | bk e4 st4 => rw [q] at hr; rw [← hr] at p1; exact p1.elim
      | ct e4 st4 => rw [q] at hr; rw [← hr] at p1; exact p1.elim
      | rt d st4 => rw [q] at hr; rw [← hr] at p1; exact p1.elim
      | stuck => rw [q] at hr; rw [← hr] at p1; exact p1.elim
    · rw [if_neg hg] at hr
      rw [← hr] at p1
      exact p1.elim
  · have e : i = items.length := by omega
    subst e
    rw [List.drop_length, lcRunX] at hr
    by_cases hg : g st' = true
    · rw [if_pos hg] at hr
      have hr : Res.ok (ds ++ []) st' = R := hr
      rw [List.append_nil] at hr
      rw [← hr] at p1
      obtain ⟨s2, r2, d2⟩ := a.done hL
      exact .inl ⟨wk.stop w' H' _ a.stp.le a.rel hg, p1 _ _ _ s2 r2 d2⟩
    · rw [if_neg hg] at hr
      rw [← hr] at p1
      exact p1.elim
end
section
variable {X : Cx} {T : List (Addr × Str)} {E : XK} {pos : Pos} {elt tg iter : Expr} {ifs : List Expr} {scope : Scope} {own : List (Str × Nat)} {fi : LI} {lg : LG} {ft : LT} {fe : LE}
/-- name = [..] on one line, an element may let an error out -/
theorem s_setLcX {i : Nat} {y : Str} {py spos : Pos} (hc : X.calm = true) (tk : Takes X (W0 E)) (hst : X.stack = X.env :: X.outer) (hf : X.env.frame = some X.env.locals) (hN : X.N.Nodup) (hi : PIf X T E tg iter fi) (ok : BlkOk X.N X.env.scope scope own)
    (hg : ∀ (s : Shared) (H : Hp) (C : Addr) (cl : List (Str × Addr)) (fp : List Addr), PGf (X.blk s H scope (compEnvC scope cl C X.env) fp) T EN (some (own.map (·.2))) tg lg) (ht : ∀ (s : Shared) (H : Hp) (C : Addr) (cl : List (Str × Addr)) (fp : List Addr), PTsf (X.blk s H scope (compEnvC scope cl C X.env) fp) T EN ifs ft)
    (he : ∀ (s : Shared) (H : Hp) (C : Addr) (cl : List (Str × Addr)) (fp : List Addr), PEf ((X.blk s H scope (compEnvC scope cl C X.env) fp).wish (BX (X.blk s H scope (compEnvC scope cl C X.env) fp) E)) T E elt fe) (hs : ∀ x, foldedSetIterable iter X.env x = pure x := by intro _; rfl)
    (hy : X.N[i]? = some y := by rfl) (hyl : X.env.scope.names.lookup y = some .local := by rfl) (hsw : swapsWith (.ListComp elt [⟨tg, iter, ifs, 0⟩] scope pos) (some (.Name y py)) spos.line X.env = pure true := by exact sw_true rfl rfl rfl (by decide +kernel)) :
    PSf X T (W0 E) (.Assign [.Name y py] (.ListComp elt [⟨tg, iter, ifs, 0⟩] scope pos) spos) (fAsg (fLcX fi lg ft fe (own.map (·.2))) (gN i)) := by
  have keyS : ∀ (pins : List (Addr × Obj)) (s : Shared) (σ : L2.St) (H : Hp) (D : Ends), Inv X pins σ H s → tAsg (tLc (tOf X.K T E (WalkR X.K T) fi) (tOfG X.K T EN (some (own.map (·.2))) lg) (tOf X.K T EN eqB ft) (tOf X.K T E Dat fe) (own.map (·.2))) (gName i) D σ H → wpAny (model X.prog X.w) X.A (exec (.Assign [.Name y py] (.ListComp elt [⟨tg, iter, ifs, 0⟩] scope pos) spos) X.env) (SP X pins D) X.xe s := fun pins s σ H D I h => by
    rw [exec_Assign_Name_used _ _ _ _ hsw]
    refine wpAny_bind (wpAny_standAt (wpAny_bind ?_))
    show wpAny _ X.A (do let _ ← comprehension (.ListComp elt [⟨tg, iter, ifs, 0⟩] scope pos) scope X.env (firstIterPos [⟨tg, iter, ifs, 0⟩] pos) (newList []) false (eval iter X.env) (some (assign (.Name y py) X.env)); _) _ _ s
    have h : tLc (tOf X.K T E (WalkR X.K T) fi) (tOfG X.K T EN (some (own.map (·.2))) lg) (tOf X.K T EN eqB ft) (tOf X.K T E Dat fe) (own.map (·.2)) σ H (fun x H1 => gName i x σ H1 D.nx) := h
    refine wpAny_bind (thn (lcX_core (Qf := fun _ s' => SP X pins D .next s') hc tk hst hf hN I hi ok hg ht (fun s H C cl fp _ _ => he s H C cl fp) hs h fun L C s' m H' I' q hn f => ?_) fun _ s' hq => wpAny_pure (wpAny_pure hq))
    show wpAny _ _ (assign (.Name y py) X.env (.ref L)) _ _ _
    refine wpAny_assign_Name (store_ok2 (v := V.ref L) I' hN hy (.inl hyl) rfl (fun s2 I2 ⟨a, sb, ha⟩ => ?_) (.inr hyl))
    obtain ⟨f0, f1, f2, f3, f4, f5⟩ := f
    have haC : C ≠ a := ha.elim (fun z => by rw [z]; exact f1) fun z e => f4 y a z e.symm
    exact ⟨m, hn.sameBut sb haC, fun h3 sb3 => ⟨_, H', I2.turned (t' := s2.toks) (fun b o hb e => (sb3.2 b hb).trans e) f0 f1 f3 f4 f5, q⟩⟩
  obtain ⟨vs, hvs⟩ : ∃ vs : List Nat, own.map (·.2) = vs := ⟨_, rfl⟩
  have key : PS X (.Assign [.Name y py] (.ListComp elt [⟨tg, iter, ifs, 0⟩] scope pos) spos) (tAsg (tLc (tOf X.K T E (WalkR X.K T) fi) (tOfG X.K T EN (some vs) lg) (tOf X.K T EN eqB ft) (tOf X.K T E Dat fe) vs) (gName i)) := by
    rw [← hvs]
    exact ⟨fun pins s σ H D I h => keyS pins s σ H D I h⟩
  rw [hvs]
  exact ps_to key fun w σ H env st Dn he r p =>
    sim_lcX (E := E) w σ H env st _ he r (PostS.go (E := E) (fun _ _ _ h => h) he p fun w1 x H1 d st1 s1 r1 dx p1 => p1 w1 _ H1 (Stp.refl w1 H1) ((he.mono s1.le).set i dx) r1)
end
/-! ### evaluated -/
noncomputable def kLcX (lg : LG) (ft : LT) (fe : LE) (envw : DEnv) : IT → Store → Res D := fun it st1 => if it.1.length ≤ lim then (lcRunX it.2 lg ft fe envw it.1 st1).bind fun ys st2 => .ok (.lst ys) st2 else .stuck
@[simp] theorem fLcX_eq (fi : LI) (lg : LG) (ft : LT) (fe : LE) (vs : List Nat) (env : DEnv) (st : Store) : fLcX fi lg ft fe vs env st = (fi env st).bind (kLcX lg ft fe (wipeD env vs)) := (rfl)
theorem kLcX_of {lg : LG} {ft : LT} {fe : LE} {envw : DEnv} {it : IT} {st st2 : Store} {ys : List D} (h : lcRunX it.2 lg ft fe envw it.1 st = .ok ys st2) (hl : it.1.length ≤ lim) : kLcX lg ft fe envw it st = .ok (.lst ys) st2 := by
  unfold kLcX
  rw [if_pos hl, h]
  rfl
theorem kLcX_ex {lg : LG} {ft : LT} {fe : LE} {envw : DEnv} {it : IT} {st st2 : Store} {x : Exn} (h : lcRunX it.2 lg ft fe envw it.1 st = .ex x st2) (hl : it.1.length ≤ lim) : kLcX lg ft fe envw it st = .ex x st2 := by
  unfold kLcX
  rw [if_pos hl, h]
  rfl
theorem lcRunX_of {g : Store → Bool} {lg : LG} {ft : LT} {fe : LE} {envw : DEnv} : ∀ {items : List D} {st st2 : Store} {ys : List D}, lcRun g lg ft fe envw items st = .ok ys st2 → lcRunX g lg ft fe envw items st = .ok ys st2
  | [], st, st2, ys, h => h
  | d :: ds, st, st2, ys, h => by
    rw [lcRun] at h
    rw [lcRunX]
    by_cases hg : g st = true
    · rw [if_pos hg] at h ⊢
      cases q : lg d envw st with
      | nx e1 s1 =>
        rw [q] at h
        dsimp only at h ⊢
        obtain ⟨b, s2, h2, h⟩ := Res.bind_ok h
        rw [h2]
        show (if b = true then _ else _) = _
        cases b with
        | false =>
          rw [if_neg (by decide)] at h ⊢
          exact lcRunX_of h
        | true =>
          rw [if_pos rfl] at h ⊢
          obtain ⟨y, s3, h3, h⟩ := Res.bind_ok h
          obtain ⟨ys', s4, h4, h⟩ := Res.bind_ok h
          cases q3 : fe e1 s2 with
          | ex _ _ => rw [q3] at h3; cases h3
          | stuck => rw [q3] at h3; cases h3
          | ok y' s3' =>
            rw [q3] at h3
            cases h3
            show (lcRunX g lg ft fe envw ds s3).bind _ = _
            rw [lcRunX_of h4]
            exact h
      | ex x e4 st4 => rw [q] at h; cases h
      | bk e4 st4 => rw [q] at h; cases h
      | ct e4 st4 => rw [q] at h; cases h
      | rt d st4 => rw [q] at h; cases h
      | stuck => rw [q] at h; cases h
    · rw [if_neg hg] at h
      cases h
end Fk
/-! FkZl: divmod; dict displays; d.pop(k). -/
namespace Fk
open PySem PySem.Spec PyProof.Rows L2
/-! ### divmod -/
def oDivmod : OA := fun ds st => match ds with
  | [.int i, .int j] => if 0 < j ∧ j < 1073741824 then .ok (.tup [.int (i / j), .int (i % j)]) st else .stuck
  | _ => .stuck
theorem sim_divmod {K : PySem.W.Frag} {T : List (Addr × Str)} : SimRA K T (fun xs H Q => ∃ i j, xs = [.int i, .int j] ∧ CDiv i j ∧ ∀ p, H p = none → Q (.ref p) (upd H p (.tup [.int (i / j), .int (i % j)]))) oDivmod := fun E w H st vs ds Q r dv p => by
  unfold oDivmod at p
  split at p
  · rename_i i j
    obtain ⟨v, u, rfl, d1, d2⟩ := dv.ofTwo
    cases d1
    cases d2
    by_cases h : 0 < j ∧ j < 1073741824
    · rw [if_pos h] at p
      exact ⟨i, j, rfl, h, p.newT r (.cons (.int _) (.one (.int _)))⟩
    · rw [if_neg h] at p
      exact p.elim
  · exact p.elim
theorem oDivmod_of {i j : Int} (h : 0 < j ∧ j < 1073741824) (st : Store) : oDivmod [.int i, .int j] st = .ok (.tup [.int (i / j), .int (i % j)]) st := if_pos h
/-! ### {k: v, ..} -/
abbrev LP := DEnv → Store → Res (List (D × D))
def fPn : LP := fun _ st => .ok [] st
def fPc (fk fv : LE) (g : LP) : LP := fun env st => (fk env st).bind fun a s1 => (fv env s1).bind fun b s2 => (g env s2).bind fun r s3 => .ok ((a, b) :: r) s3
def keysP : List (D × D) → Option (List (Key × D))
  | [] => some []
  | (a, b) :: r => match keyD a, keysP r with
    | some k, some l => some ((k, b) :: l)
    | _, _ => none
def fDisp (g : LP) : LE := fun env st => (g env (st ++ [.dic []])).bind fun ps s1 => match s1[st.length]?, keysP ps with
  | some (.dic []), some kvs => if kvs.length ≤ 15 then .ok (.ref st.length) (s1.set st.length (.dic (mergeD [] kvs))) else .stuck
  | _, _ => .stuck
abbrev relP : Wd → List (V × V) → List (D × D) → Prop := fun w ps ds => Dats w (ps.map (·.1)) (ds.map (·.1)) ∧ Dats w (ps.map (·.2)) (ds.map (·.2))
structure PPf (X : Cx) (T : List (Addr × Str)) (E : XK) (pos : Pos) (keys : List (Option Expr)) (values : List Expr) (g : LP) : Prop where
  ex : ∃ trs, PPs X pos keys values trs ∧ Sim X.K T E relP (tPairs trs) g
theorem keysP_at {w : Wd} : ∀ {ds : List (D × D)} {kvs : List (Key × D)} {ps : List (V × V)}, keysP ds = some kvs → relP w ps ds → ∃ us : List (Key × V), ps = us.map (fun kv => (kV kv.1, kv.2)) ∧ Kvs w us kvs
  | [], kvs, ps, h, r => by
    cases h
    have : ps = [] := by
      have := r.1.length
      cases ps <;> simp_all
    subst this
    exact ⟨[], rfl, rfl, .nil⟩
  | (a, b) :: ds, kvs, ps, h, r => by
    rw [keysP] at h
    cases q1 : keyD a with
    | none => rw [q1] at h; cases h
    | some k =>
      cases q2 : keysP ds with
      | none => rw [q1, q2] at h; cases h
      | some l =>
        rw [q1, q2] at h
        cases h
        cases ps with
        | nil => have := r.1.length; simp at this
        | cons p ps =>
          obtain ⟨r1, r2⟩ := r
          rw [List.map_cons, List.map_cons] at r1 r2
          cases r1 with
          | cons a1 a2 =>
            cases r2 with
            | cons b1 b2 =>
              obtain ⟨us, rfl, hk⟩ := keysP_at q2 (show relP w ps ds from ⟨a2, b2⟩)
              have e1 := key_at a1 q1
              refine ⟨(k, p.2) :: us, ?_, hk.cons rfl b1⟩
              rw [List.map_cons]
              congr 1
              exact Prod.ext e1 rfl
section
variable {X : Cx} {T : List (Addr × Str)} {E : XK} {pos : Pos} {k v : Expr} {ks : List (Option Expr)} {vs : List Expr} {fk fv : LE} {g : LP}
theorem x_pn : PPf X T E pos [] [] fPn := ⟨[], pps_nil, fun w σ H env st Q he r p => p.here r ⟨.nil, .nil⟩⟩
theorem x_pc (hk : PEf X T E k fk) (hv : PEf X T E v fv) (hr : PPf X T E pos ks vs g) : PPf X T E pos (some k :: ks) (v :: vs) (fPc fk fv g) := by
  obtain ⟨trs, hp, hs⟩ := hr.ex
  refine ⟨(tOf X.K T E Dat fk, tOf X.K T E Dat fv) :: trs, pps_cons hk hv hp, fun w σ H env st Q he r p => ?_⟩
  refine ⟨w, env, st, he, r, Post.bind (rel := Dat) p fun w1 x H1 a st1 s1 r1 da p1 => ?_⟩
  refine ⟨w1, env, st1, he.mono s1.le, r1, Post.bind (rel := Dat) p1 fun w2 y H2 b st2 s2 r2 db p2 => ?_⟩
  have he2 := (he.mono s1.le).mono s2.le
  refine hs w2 σ H2 env st2 _ he2 r2 (Post.bind (rel := relP) p2 fun w3 ps H3 ds st3 s3 r3 dp p3 => ?_)
  exact p3.here r3 ⟨.cons ((da.mono s2.le).mono s3.le) dp.1, .cons (db.mono s3.le) dp.2⟩
theorem x_disp (h : PPf X T E pos ks vs g) (hall : ks.all (·.isSome) = true := by rfl) (hl : ks.length = vs.length := by rfl) (h0 : ks ≠ [] := by exact List.cons_ne_nil _ _) (h15 : ks.length ≤ 15 := by decide) : PEf X T E (.Dict ks vs pos) (fDisp g) := by
  obtain ⟨trs, hp, hs⟩ := h.ex
  refine pe_to (pe_disp hp hall hl h0 h15) fun w σ H env st Q he r p => fun a ha => ?_
  have hk : ∀ b u, H b = some u → upd H a (.dK []) b = some u := fun b u h => by
    rw [upd_ne (fun z => by rw [z, ha] at h; cases h)]
    exact h
  obtain ⟨s1, r1⟩ := r.grown ha (H' := upd H a (.dK [])) hk (c := .dic []) ⟨r.freeF ha, [], upd_same, rfl, .nil⟩
  have hat : (w.ads ++ [a])[st.length]? = some a := by
    rw [← r.len]
    simp
  refine hs _ σ _ env (st ++ [.dic []]) _ (he.mono s1.le) r1 (Post.bind (rel := relP) (Post.pull p s1) fun w2 ps H2 ds st2 s2 r2 dp p2 => ?_)
  have p2 : Post X.K T E Dat w2 H2 (match st2[st.length]?, keysP ds with
    | some (.dic []), some kvs => if kvs.length ≤ 15 then .ok (.ref st.length) (st2.set st.length (.dic (mergeD [] kvs))) else .stuck
    | _, _ => .stuck) Q := p2
  have ha2 : w2.ads[st.length]? = some a := s2.le.ads _ _ hat
  cases q1 : st2[st.length]? with
  | none => rw [q1] at p2; exact p2.elim
  | some c =>
    rw [q1] at p2
    cases c with
    | dic kv0 =>
      cases kv0 with
      | cons _ _ => exact p2.elim
      | nil =>
        cases q2 : keysP ds with
        | none => rw [q2] at p2; exact p2.elim
        | some kvs =>
          rw [q2] at p2
          have p2 : Post X.K T E Dat w2 H2 (if kvs.length ≤ 15 then .ok (.ref st.length) (st2.set st.length (.dic (mergeD [] kvs))) else .stuck) Q := p2
          by_cases hl15 : kvs.length ≤ 15
          · rw [if_pos hl15] at p2
            obtain ⟨_, us0, hH, e1, e2⟩ := r2.at_ _ _ a q1 ha2
            have eus : us0 = [] := by
              have := congrArg List.length e1
              cases us0 <;> simp_all
            subst eus
            obtain ⟨us, rfl, hkv⟩ := keysP_at q2 dp
            refine ⟨hH, us, rfl, by rw [hkv.length]; exact hl15, ?_⟩
            obtain ⟨s3, r3⟩ := r2.putDic ha2 q1 (Kvs.merge hkv (⟨rfl, .nil⟩ : Kvs w2 [] []))
            exact p2 w2 _ _ s3 r3 (.ref ha2)
          · rw [if_neg hl15] at p2
            exact p2.elim
    | _ => exact p2.elim
/-! ### d.pop(k) -/
def fDpop1 (fd fk : LE) : LE := fun env st => (fd env st).bind fun d st1 => if isDic d st1 = true then (fk env st1).bind fun e st2 => match dicL d st2, keyD e with
  | some (j, kvs), some k => (match valD kvs k with
    | some v => .ok v (st2.set j (.dic (delD kvs k)))
    | none => .stuck)
  | _, _ => .stuck else .stuck
theorem x_dpop1 {o e : Expr} {fd : LE} {apos cpos : Pos} (ho : PEf X T E o fd) (he : PEf X T E e fk) (m : M1 X o "pop" apos e cpos := by exact ⟨rfl, rfl, rfl, rfl⟩) : PEf X T E (.Call (.Attribute o "pop" apos) [e] [] cpos) (fDpop1 fd fk) := pe_to (pe_dpop1 ho he m) fun w σ H env st Q he r p => by
  refine ⟨w, env, st, he, r, p.bind fun w1 x H1 d st1 s1 r1 dx p1 => ?_⟩
  by_cases c : isDic d st1 = true
  · rw [if_pos c] at p1
    obtain ⟨a, rfl, ia⟩ := isDic_at r1 dx c
    refine ⟨a, rfl, ia, w1, env, st1, he.mono s1.le, r1, p1.bind fun w2 y H2 e st2 s2 r2 dy p2 => ?_⟩
    cases q1 : dicL d st2 with
    | none => rw [q1] at p2; exact p2.elim
    | some jk =>
      obtain ⟨j, kvs⟩ := jk
      cases q2 : keyD e with
      | none => rw [q1, q2] at p2; exact p2.elim
      | some kk =>
        rw [q1, q2] at p2
        dsimp only at p2
        obtain ⟨a', us, ea, g, hv, hH, ha, hs, ey⟩ := dget_at r2 (dx.mono s2.le) dy q1 q2
        cases ea
        cases q3 : valD kvs kk with
        | none => rw [q3] at p2; exact p2.elim
        | some v' =>
          rw [q3] at p2
          obtain ⟨u, h1, h2⟩ := (hv.val kk).2 v' q3
          obtain ⟨s4, r4⟩ := r2.putDic ha hs (hv.drop kk)
          exact ⟨us, kk, u, hH, ey, h1, p2 w2 _ _ s4 r4 h2⟩
  · rw [if_neg c] at p1
    exact p1.elim
end
/-! ### list.count of deep items -/
def rCountD (K : PySem.W.Frag) : V → List V → Hp → VK → Prop := fun x xs H Q => ∃ (a : Addr) (y : V) (d : PyData) (ds : List PyData), x = V.ref a ∧ xs = [y] ∧ Dp K H (V.ref a) (.list ds) ∧ Dp K H y d ∧
  SeqAt.shaped (.list ds) = true ∧ SeqAt.shaped d = true ∧ Q (.int ((ds.countP fun z => PyData.eqv z d : Nat) : Int)) H
theorem mt_countD {X : Cx} (hu : X.A.units + 65 < cLine) : MtR X "list.count" (rCountD X.K) := by
  intro pins s σ H x xs v us Q I rx rxs h
  obtain ⟨a, y, d, ds, rfl, rfl, hl, hy, sl, sd, q⟩ := h
  cases rx
  cases rxs with
  | cons ry rt =>
    rename_i uy ut
    cases rt
    obtain ⟨bs, r1⟩ := Dp.reads I d y uy hy ry
    have lay : PyData.canLayAll0 ds = true := SeqAt.canLay_of_shaped sl
    have room : X.A.units + 1 + min (PyData.depthAll ds) d.depth < cLine := room_in_shaped sd hu
    cases hl with
    | lst hs ha =>
      obtain ⟨its, rv, ⟨⟨cls, dd, data, slots⟩, n, ho, hc, hdn, hdt⟩, hlen⟩ := I.list hs
      simp only at hc hdt
      subst hc hdt
      obtain ⟨as, h4⟩ := Dp.readsAll I ds _ its ha rv
      have hmap : its.map (SeqAt.readOf s.heap) = ds := SeqAt.readsAll_map ds its as lay h4
      refine call_meets PySem.F.slot_list_count ⟨_, ho, rfl⟩ PySem.F.entry_list_count (PySem.F.args_list_count_2 _ _)
        (SeqAt.list_countAt a its.toArray n dd slots uy (fun u => PyData.eqv (SeqAt.readOf s.heap u) d)) ⟨ho, SeqAt.items_eqAt (vs := its.toArray) (show ReadsAll s.heap its.toArray.toList ds as from h4) r1 lay (SeqAt.canLay_of_shaped sd) room, ?_⟩
      refine ⟨.int _, H, I.tok _, ⟨s.toks, ?_⟩, q⟩
      show Value.int ((its.toArray.toList.countP (fun u => PyData.eqv (SeqAt.readOf s.heap u) d) : Nat) : Int) s.toks = _
      rw [show its.toArray.toList = its by simp, ← hmap, List.countP_map]
      rfl
def oCntD : OM := fun d ds st => match ds with
  | [e] => py2 e d st fun a b => (match b with
    | .list ys => .ok (.int ((ys.countP fun z => PyData.eqv z a : Nat) : Int)) st
    | _ => .stuck)
  | _ => .stuck
theorem sim_cntD {K : PySem.W.Frag} {T : List (Addr × Str)} : SimM K T (rCountD K) oCntD := fun E w H st x xs d ds Q r dx dv p => by
  cases dv with
  | nil => exact p.elim
  | cons hy rest =>
    cases rest with
    | cons _ _ => exact p.elim
    | nil =>
      obtain ⟨a, b, h1, h2, s1, s2, p'⟩ := py2_at r hy dx p
      cases h2 with
      | @lst q vs ys hq ha => exact ⟨_, _, a, ys, rfl, rfl, .lst hq ha, h1, s2, s1, p'.here r (.int _)⟩
      | _ => exact p'.elim
section
variable {X : Cx} {T : List (Addr × Str)} {E : XK} {o e : Expr} {fa fe : LE} {apos pos : Pos} {k : Nat}
theorem x_cntD (hr : Room k X.A) (ho : PEf X T E o fa) (he : PEf X T E e fe) (hbase : attributeBase o "count" X.env (eval o X.env) = eval o X.env := by rfl)
    (hfew : ((backTo pos (starEach [e] X.env)).all (fun x => !x.1) && (backToKw pos (keywordEach [] X.env)).all (fun x => x.1.isSome)
      && decide ([e].length + ([] : List Keyword).length + (if ([] : List Keyword).isEmpty then 0 else 1) < 30)) = true := by rfl)
    (hline : (apos.endLine == pos.line) = true := by rfl) (hs : starEach [e] X.env = (false, eval e X.env) :: starEach [] X.env := by rfl) : PEf X T E (.Call (.Attribute o "count" apos) [e] [] pos) (fBM isL oCntD fa (fCons fe fNil)) :=
  x_bm PySem.F.plainAttrs_list PySem.F.slot_list_count PySem.F.type_list_count (mt_countD (by have := hr.un; omega)) sim_cntD ty_list ho (x_cons he x_nil hs) hbase hfew hline hs
end
theorem countP_eqv {d : D} {a : PyData} (hd : D.py d = some a) : ∀ {xs : List D} {ys : List PyData}, D.pys xs = some ys → (ys.countP fun z => PyData.eqv z a) = xs.countP fun z => eqD z d
  | [], ys, h => by cases (show some [] = some ys from h); rfl
  | x :: xs, ys, h => by
    have h' : (match D.py x, D.pys xs with
      | some a, some b => some (a :: b)
      | _, _ => none) = some ys := h
    cases q1 : D.py x with
    | none => rw [q1] at h'; cases h'
    | some b =>
      cases q2 : D.pys xs with
      | none => rw [q1, q2] at h'; cases h'
      | some bs =>
        rw [q1, q2] at h'
        cases h'
        rw [List.countP_cons, List.countP_cons, countP_eqv hd q2, eqv_D x d b a q1 hd]
theorem oCntD_at {e d : D} {xs : List D} {st : Store} (he : (e = .lst xs) ∨ ∃ k, e = .ref k ∧ st[k]? = some (.lst xs)) (h1 : rdyD d = true) (h2 : rdyDs xs = true) (h3 : depD d ≤ 64) (h4 : depDs xs ≤ 63) : oCntD e [d] st = .ok (.int ((xs.countP fun z => eqD z d : Nat) : Int)) st := by
  obtain ⟨a, p1, p2, p3⟩ := rdy_py d h1
  obtain ⟨ys, q1, q2, q3⟩ := rdys_py xs h2
  have hr : rdyD (.lst xs) = true := by simpa [rdyD] using h2
  have b1 : D.py (.lst xs) = some (.list ys) := by simp [D.py, q1]
  have s1 : SeqAt.shaped a = true := by unfold SeqAt.shaped; simp [p2, p3, h3]
  have s2 : SeqAt.shaped (.list ys) = true := by
    unfold SeqAt.shaped
    simp [PyData.canLay0, PyData.depth, q2, q3]
    omega
  have te : topOf e st = .lst xs := by
    rcases he with rfl | ⟨k, rfl, hk⟩
    · rfl
    · exact topOf_ref hk
  show py2 d e st _ = _
  unfold py2
  rw [te, topOf_rdy h1, p1, b1]
  dsimp only
  rw [if_pos ⟨s1, s2⟩, countP_eqv p1 q1]
/-! ### evaluated -/
def kPc1 (fv : LE) (g : LP) (env : DEnv) : D → Store → Res (List (D × D)) := fun a s1 => (fv env s1).bind fun b s2 => (g env s2).bind fun r s3 => .ok ((a, b) :: r) s3
def kPc2 (g : LP) (env : DEnv) (a : D) : D → Store → Res (List (D × D)) := fun b s2 => (g env s2).bind fun r s3 => .ok ((a, b) :: r) s3
def kPc3 (a b : D) : List (D × D) → Store → Res (List (D × D)) := fun r s3 => .ok ((a, b) :: r) s3
@[simp] theorem fPn_eq (env : DEnv) (st : Store) : fPn env st = .ok [] st := (rfl)
@[simp] theorem fPc_eq (fk fv : LE) (g : LP) (env : DEnv) (st : Store) : fPc fk fv g env st = (fk env st).bind (kPc1 fv g env) := (rfl)
@[simp] theorem kPc1_eq (fv : LE) (g : LP) (env : DEnv) (a : D) (st : Store) : kPc1 fv g env a st = (fv env st).bind (kPc2 g env a) := (rfl)
@[simp] theorem kPc2_eq (g : LP) (env : DEnv) (a b : D) (st : Store) : kPc2 g env a b st = (g env st).bind (kPc3 a b) := (rfl)
@[simp] theorem kPc3_eq (a b : D) (r : List (D × D)) (st : Store) : kPc3 a b r st = .ok ((a, b) :: r) st := (rfl)
def kDisp (n : Nat) : List (D × D) → Store → Res D := fun ps s1 => match s1[n]?, keysP ps with
  | some (.dic []), some kvs => if kvs.length ≤ 15 then .ok (.ref n) (s1.set n (.dic (mergeD [] kvs))) else .stuck
  | _, _ => .stuck
@[simp] theorem fDisp_eq (g : LP) (env : DEnv) (st : Store) : fDisp g env st = (g env (st ++ [.dic []])).bind (kDisp st.length) := (rfl)
theorem kDisp_of {n : Nat} {ps : List (D × D)} {kvs : List (Key × D)} {st : Store} (h : st[n]? = some (.dic [])) (hk : keysP ps = some kvs) (hl : kvs.length ≤ 15) : kDisp n ps st = .ok (.ref n) (st.set n (.dic (mergeD [] kvs))) := by
  unfold kDisp
  rw [h, hk]
  exact if_pos hl
def kDp1 (fk : LE) (env : DEnv) : D → Store → Res D := fun d st1 => if isDic d st1 = true then (fk env st1).bind fun e st2 => match dicL d st2, keyD e with
  | some (j, kvs), some k => (match valD kvs k with
    | some v => .ok v (st2.set j (.dic (delD kvs k)))
    | none => .stuck)
  | _, _ => .stuck else .stuck
def kDp2 (d : D) : D → Store → Res D := fun e st2 => match dicL d st2, keyD e with
  | some (j, kvs), some k => (match valD kvs k with
    | some v => .ok v (st2.set j (.dic (delD kvs k)))
    | none => .stuck)
  | _, _ => .stuck
@[simp] theorem fDpop1_eq (fd fk : LE) (env : DEnv) (st : Store) : fDpop1 fd fk env st = (fd env st).bind (kDp1 fk env) := (rfl)
theorem kDp1_ref {k : Nat} {kvs : List (Key × D)} {st : Store} (h : st[k]? = some (.dic kvs)) (fk : LE) (env : DEnv) : kDp1 fk env (.ref k) st = (fk env st).bind (kDp2 (.ref k)) := if_pos (isDic_ref h)
theorem kDp2_ref {k : Nat} {kvs : List (Key × D)} {st : Store} {e v : D} {j : Key} (h : st[k]? = some (.dic kvs)) (he : keyD e = some j) (hv : valD kvs j = some v) : kDp2 (.ref k) e st = .ok v (st.set k (.dic (delD kvs j))) := by
  unfold kDp2
  rw [dicL_ref h, he]
  dsimp only
  rw [hv]
end Fk
/-! FkZm: lambdas in a list; each is called, in a comprehension, by the def that tells its kind. -/
namespace Fk
open PySem PySem.Spec PyProof.Rows L2
/-! ### a made thing that stays as it is -/
abbrev frzO (o : Obj) : HO := .frz o (.own 0)
section
variable {X : Cx} {pins : List (Addr × Obj)} {σ : L2.St} {H : Hp} {s : Shared}
theorem inv_known {f : Addr} {o : Obj} (I : Inv X pins σ H s) (fo : FpOk X pins H f) (ho : s.heap.get? f = some o) : Inv X pins σ (upd H f (frzO o)) s := by
  have hn : H f = none := fo.1
  have at_ : ∀ b u, H b = some u → upd H f (frzO o) b = some u := fun b u e => by rw [upd_ne (ne_of_none e hn)]; exact e
  refine I.call' (s' := s) (ch := [f]) rfl ⟨fun b o q _ _ _ => q, fun b o q _ _ _ => ⟨o.slots, q⟩, fun b o q n hx => ?_, fun b o q _ => ⟨o, q⟩, fun b xs e => at_ _ _ e, fun b o u e => at_ _ _ e, fun b ps e => ⟨#[], ?_⟩⟩ (fun b u e => ?_) I.bare (fun b hb => ?_)
  · rw [upd_ne (fun z => hx (List.mem_singleton.mpr z))]
    exact n
  · rw [at_ _ _ e]
    simp
  · by_cases z : b = f
    · subst z
      rw [upd_same] at e
      cases e
      exact ⟨ho, ⟨o, ho⟩⟩
    · rw [upd_ne z] at e
      exact (I.hok b u e).stay (fun _ _ _ q => q) (fun c q => at_ _ _ q) fun c xs q => at_ _ _ q
  · rw [List.mem_singleton.mp hb]
    exact ⟨fo.2.2.2.1, fo.2.1, fo.2.2.2.2.1, fo.2.2.2.2.2⟩
/-- a lambda without parameters is made -/
theorem lam0_make {T : List (Addr × Str)} {c P : Addr} {params : Arguments} {body : Expr} {scope : Scope} {pos : Pos} {E : Value → Shared → Prop} {Q : Value → Shared → Prop} (I : Inv X pins σ H s) (TB : LamX.TabB X.base X.mg c P) (hcode : X.env.code = .ref c)
    (hm : (P, X.env.qual ++ "<lambda>") ∈ T) (hu : ∀ p ∈ T, p.1 = P → p.2 = X.env.qual ++ "<lambda>") (hT : LamX.Tabs T H) (hdef : defaultsOf params X.env = ([], [])) (hfree : ∀ y ∈ scope.names, y.2 = .free → ∃ c, X.env.cells.lookup y.1 = some c)
    (h : ∀ (f c' : Addr) (pm ctv : Value) (H1 : Hp) (s' : Shared), Inv X pins σ H1 s' → LamX.ExtN H H1 → LamX.Tabs T H1 →
      s'.heap.get? f = some (PySem.W.kla_obj "<lambda>" (X.env.qual ++ "<lambda>") params body scope (cloFrom X.env.cells scope.names []) pm c' ctv) → FpOk X pins H1 f → H1 c' = some (LamX.CodeO c' (X.env.qual ++ "<lambda>")) → Q (.ref f) s') :
    wpAny (model X.prog X.w) X.A (eval (.Lambda params body scope pos) X.env) Q E s := by
  obtain ⟨ps, hP, ht, ha⟩ := hT _ hm
  refine PySem.W.kla_eval hdef ?_
  have bP := TB.bm.keeps I.bk
  have hP' : s.heap.get? P = some { cls := .none, data := .fields ps } := I.hok P _ hP
  have gB := I.mod.glob.keeps I.bk
  have cB := TB.code.keeps I.bk
  cases hc : codeAmong pos ps.toList with
  | some cv =>
    obtain ⟨c', rfl, hco⟩ := ha pos cv hc
    refine PySem.W.kla_makeFunctionHit (mg := X.mg) (c := c) (P := P) (ps := ps) (closure_ok hfree) I.ok.glob gB hcode cB hP' ht hc bP fun ctv h' tk hx hsz => ?_
    exact h h'.objs.size c' _ ctv H _ (I.kept fun b o e => Heap.get?_push_of_some _ (hx b o e)) (LamX.ExtN.refl H) hT (Heap.get?_push_size _ rfl) (I.fpOk hsz (I.hok.fresh hsz)) hco
  | none =>
    refine PySem.W.kla_makeFunction (mg := X.mg) (c := c) (P := P) (ps := ps) (closure_ok hfree) I.ok.glob gB hcode cB hP' ht hc TB.gP bP fun c' ctv h' tk hx hge hlt hrec htb => ?_
    obtain ⟨c2, oc, vs, t, e2, hoc, hd, hv⟩ := hrec
    cases e2
    have nC : H c' = none := I.hok.fresh hge
    have sz : s.heap.objs.size ≤ h'.objs.size := by omega
    have I1 := LamX.inv_table (t' := tk) (more := #[rawInt pos.line, rawInt pos.col, .ref c']) (h' := h'.push (PySem.W.kla_obj "<lambda>" (X.env.qual ++ "<lambda>") params body scope (cloFrom X.env.cells scope.names []) ((X.mg "__name__").getD .none) c' ctv)) I hP
      (fun b o hb e => Heap.get?_push_of_some _ (hx b o hb e)) (Heap.get?_push_of_some _ htb) hge ⟨oc, vs, t, Heap.get?_push_of_some _ hoc, hd, hv⟩
    have hE : LamX.ExtN H (upd (upd H P (.tbl (ps ++ #[rawInt pos.line, rawInt pos.col, .ref c']))) c' (LamX.CodeO c' (X.env.qual ++ "<lambda>"))) := fun b o e n => by
      rw [upd_ne (ne_of_none e nC), upd_ne (fun z => n ps (Option.some.inj (e.symm.trans (by rw [z]; exact hP))))]
      exact e
    have eL : (ps ++ #[rawInt pos.line, rawInt pos.col, .ref c']).toList = ps.toList ++ [rawInt pos.line, rawInt pos.col, .ref c'] := by simp
    have nf : upd (upd H P (.tbl (ps ++ #[rawInt pos.line, rawInt pos.col, .ref c']))) c' (LamX.CodeO c' (X.env.qual ++ "<lambda>")) h'.objs.size = none := by
      rw [upd_ne (Nat.ne_of_gt hlt), upd_ne (Nat.ne_of_gt (Nat.lt_of_lt_of_le (Heap.lt_size hP') sz))]
      exact I.hok.fresh sz
    refine h h'.objs.size c' _ ctv _ _ I1 hE (fun p hp => ?_) (Heap.get?_push_size _ rfl) (I.fpOk sz nf) upd_same
    by_cases hb : p.1 = P
    · rw [hu p hp hb, hb]
      refine ⟨_, by rw [upd_ne (ne_of_none hP nC), upd_same], by rw [eL]; exact PySem.TriplesOk_snoc _ _ _ _ ht, fun p' cv hcv => ?_⟩
      rw [eL] at hcv
      rcases LamX.among_app _ ht hcv with z | z
      · obtain ⟨c0, e1, e2⟩ := ha p' cv z
        exact ⟨c0, e1, hE _ _ e2 LamX.codeO_ne⟩
      · exact ⟨c', z, upd_same⟩
    · obtain ⟨ps', a1, a2, a3⟩ := hT p hp
      refine ⟨ps', by rw [upd_ne (ne_of_none a1 nC), upd_ne hb]; exact a1, a2, fun p' cv hcv => ?_⟩
      obtain ⟨c0, e1, e2⟩ := a3 p' cv hcv
      exact ⟨c0, e1, hE _ _ e2 LamX.codeO_ne⟩
end
/-! ### what is known of a lambda in a list -/
inductive LamK where
  | a (params : Arguments) (body : Expr) (scope : Scope)
  | b (params : Arguments) (body : Expr) (scope : Scope) (x : Str)
/-- it stands, and is no cell -/
def KA (w : Wd) (H : Hp) (a : Addr) (o : HO) : Prop := H a = some o ∧ a ∉ w.ads
theorem KA.stp {w w' : Wd} {H H' : Hp} {a : Addr} {o : HO} (k : KA w H a o) (s : Stp w H w' H') (hn : ∀ ps, o ≠ .tbl ps) : KA w' H' a o := by
  obtain ⟨h1, h2⟩ := k
  refine ⟨s.keep a o h1 h2 hn, fun z => ?_⟩
  obtain ⟨ps, e⟩ := s.new a z h2 o h1
  exact hn ps e
def LamF (X : Cx) (w : Wd) (H : Hp) : LamK → Addr → Prop
  | .a params body scope, f => ∃ (c' : Addr) (pm ctv : Value), KA w H f (frzO (PySem.W.kla_obj "<lambda>" (X.env.qual ++ "<lambda>") params body scope (cloFrom X.env.cells scope.names []) pm c' ctv)) ∧ KA w H c' (LamX.CodeO c' (X.env.qual ++ "<lambda>"))
  | .b params body scope x, f => ∃ (c' t : Addr) (u doc pm ctv : Value), KA w H f (frzO (PySem.W.kdv_obj "<lambda>" (X.env.qual ++ "<lambda>") params (.expr body) scope (cloFrom X.env.cells scope.names []) (.ref t) doc pm c' ctv)) ∧ KA w H t (frzO (PySem.W.kdv_tup [u])) ∧ KA w H c' (LamX.CodeO c' (X.env.qual ++ "<lambda>"))
theorem frzO_ne {o : Obj} (ps : Array Value) : frzO o ≠ .tbl ps := fun z => by cases z
theorem LamF.stp {X : Cx} {w w' : Wd} {H H' : Hp} (s : Stp w H w' H') : ∀ {l : LamK} {f : Addr}, LamF X w H l f → LamF X w' H' l f
  | .a _ _ _, f, h => by
    obtain ⟨c', pm, ctv, h1, h2⟩ := h
    exact ⟨c', pm, ctv, h1.stp s frzO_ne, h2.stp s LamX.codeO_ne⟩
  | .b _ _ _ _, f, h => by
    obtain ⟨c', t, u, doc, pm, ctv, h1, h2, h3⟩ := h
    exact ⟨c', t, u, doc, pm, ctv, h1.stp s frzO_ne, h2.stp s frzO_ne, h3.stp s LamX.codeO_ne⟩
/-! ### a lambda as a value -/
def tLamV (X : Cx) (T : List (Addr × Str)) (l : LamK) : TE := fun _ H Q => ∃ w st, Rel X.K T w H st ∧ ∀ f H', LamX.ExtN H H' → Rel X.K T w H' st → LamF X w H' l f → Q (.ref f) H'
section
variable {X : Cx} {T : List (Addr × Str)} {params : Arguments} {body : Expr} {scope : Scope} {pos dp : Pos} {c P : Addr} {a : Str} {i : Int} {jj : Nat}
theorem pe_lamA (TB : LamX.TabB X.base X.mg c P) (hcode : X.env.code = .ref c) (hm : (P, X.env.qual ++ "<lambda>") ∈ T) (hu : ∀ p ∈ T, p.1 = P → p.2 = X.env.qual ++ "<lambda>") (L : LamX.LamS X.env.scope scope) (hdef : defaultsOf params X.env = ([], [])) :
    PE X (.Lambda params body scope pos) (tLamV X T (.a params body scope)) := by
  refine ⟨fun pins s σ H Q I h => ?_⟩
  obtain ⟨w, st, r, h⟩ := h
  refine lam0_make I TB hcode hm hu r.tabs hdef (L.has I.ok) fun f c' pm ctv H1 s' I1 eN T1 hf fo hco => ?_
  have at_ : ∀ b u, H1 b = some u → upd H1 f (frzO (PySem.W.kla_obj "<lambda>" (X.env.qual ++ "<lambda>") params body scope (cloFrom X.env.cells scope.names []) pm c' ctv)) b = some u := fun b u e => by rw [upd_ne (ne_of_none e fo.1)]; exact e
  have eN2 := eN.trans (LamX.ExtN.of at_)
  have r1 := r.extN eN T1
  have r2 := r.extN eN2 (T1.ext at_)
  have hc2 := at_ _ _ hco
  exact ⟨.ref f, _, inv_known I1 fo hf, rfl, h f _ eN2 r2 ⟨c', pm, ctv, ⟨upd_same, fun z => r1.there z fo.1⟩, ⟨hc2, r2.extOut hc2⟩⟩⟩
theorem pe_lamB (TB : LamX.TabB X.base X.mg c P) (hcode : X.env.code = .ref c) (hm : (P, X.env.qual ++ "<lambda>") ∈ T) (hu : ∀ p ∈ T, p.1 = P → p.2 = X.env.qual ++ "<lambda>") (L : LamP X.env.scope scope X.N a) (hd : params.defaults = [.Constant (.int i) jj dp]) (hk0 : params.kw_defaults = []) :
    PE X (.Lambda params body scope pos) (tLamV X T (.b params body scope a)) := by
  refine ⟨fun pins s σ H Q I h => ?_⟩
  obtain ⟨w, st, r, h⟩ := h
  refine lamD_make I TB hcode hm hu r.tabs hd hk0 (L.has I.ok) fun f c' t u H1 s' I1 eN T1 D fo ft => ?_
  obtain ⟨doc, pm, ctv, hf⟩ := D.obj
  have nft : f ≠ t := fun z => by
    have e := D.tup
    rw [← z, hf] at e
    have := Option.some.inj e
    injection this with _ _ h3
    cases h3
  have at1 : ∀ b v, H1 b = some v → upd H1 t (frzO (PySem.W.kdv_tup [u])) b = some v := fun b v e => by rw [upd_ne (ne_of_none e ft.1)]; exact e
  have fo2 : FpOk X pins (upd H1 t (frzO (PySem.W.kdv_tup [u]))) f := ⟨by rw [upd_ne nft]; exact fo.1, fo.2⟩
  have I2 := inv_known I1 ft D.tup
  have at2 : ∀ b v, upd H1 t (frzO (PySem.W.kdv_tup [u])) b = some v → upd (upd H1 t (frzO (PySem.W.kdv_tup [u]))) f (frzO (PySem.W.kdv_obj "<lambda>" (X.env.qual ++ "<lambda>") params (.expr body) scope (cloFrom X.env.cells scope.names []) (.ref t) doc pm c' ctv)) b = some v := fun b v e => by rw [upd_ne (ne_of_none e fo2.1)]; exact e
  have eN2 := (eN.trans (LamX.ExtN.of at1)).trans (LamX.ExtN.of at2)
  have r1 := r.extN eN T1
  have r2 := r.extN eN2 ((T1.ext at1).ext at2)
  have hc2 := at2 _ _ (at1 _ _ D.code)
  exact ⟨.ref f, _, inv_known I2 fo2 hf, rfl, h f _ eN2 r2 ⟨c', t, u, doc, pm, ctv, ⟨upd_same, fun z => r1.there z fo.1⟩, ⟨at2 _ _ upd_same, fun z => r1.there z ft.1⟩, ⟨hc2, r2.extOut hc2⟩⟩⟩
end
/-- lambdas, one by one -/
def tLams (X : Cx) (T : List (Addr × Str)) : List LamK → TA
  | [] => tNil
  | l :: r => tCons (tLamV X T l) (tLams X T r)
theorem tLams_of {X : Cx} {T : List (Addr × Str)} {w : Wd} {st : Store} {σ : L2.St} : ∀ {ls : List LamK} {H : Hp} {Q : List V → Hp → Prop}, Rel X.K T w H st →
    (∀ (fs : List Addr) (H' : Hp), LamX.ExtN H H' → Rel X.K T w H' st → fs.length = ls.length → (∀ (i : Nat) l f, ls[i]? = some l → fs[i]? = some f → LamF X w H' l f) → Q (fs.map V.ref) H') → tLams X T ls σ H Q
  | [], H, Q, r, h => h [] H (LamX.ExtN.refl H) r rfl fun i l f h1 => by cases h1
  | l :: ls, H, Q, r, h => ⟨w, st, r, fun f H1 e1 r1 k1 => tLams_of r1 fun fs H2 e2 r2 hl k2 => h (f :: fs) H2 (e1.trans e2) r2 (by simp [hl]) fun i l' f' h1 h2 => by
      cases i with
      | zero =>
        cases h1
        cases h2
        exact k1.stp (Stp.extN e2)
      | succ i => exact k2 i l' f' (by simpa using h1) (by simpa using h2)⟩
/-! ### it is called -/
section
variable {X : Cx} {pins : List (Addr × Obj)} {σ : L2.St} {H : Hp} {s : Shared} {CXg : CXT} {Eg : XK} {Ng : List Str} {qg : Str} {sg : Scope} {g f c' t : Addr} {cdg u doc pm ctv : Value} {params : Arguments} {body : Expr} {scope : Scope} {k i : Nat} {x a : Str} {pn : List (Addr × Obj)} {xe : Value → Shared → Prop} {W : WX} {E : XK} {tb : TE} {p1 p2 : Pos}
theorem lamA_act (I : Inv X pins σ H s) (L : LamX.LamS X.env.scope scope) (hk : H f = some (frzO (PySem.W.kla_obj "<lambda>" (X.env.qual ++ "<lambda>") params body scope (cloFrom X.env.cells scope.names []) pm c' ctv)))
    (hbind : bindArgs (PySem.W.kla_fn "<lambda>" (X.env.qual ++ "<lambda>") params body scope (cloFrom X.env.cells scope.names []) pm (.ref c') ctv) ⟨[], []⟩ = pure [])
    (tk : Takes ((cxOf CXg X.prog X.w X.K X.mg X.base Ng qg sg g cdg X.A X.stack s H Eg).tr pn xe) W) (hW : ∀ cls d σ' H', E cls d H' → W cls d σ' H') (hr : Room (k + 1) (X.A.deeper (envOfC qg sg s.heap.objs.size g cdg)))
    (hbody : ∀ (A : Around) (outer : List Env) (s : Shared) (H : Hp), Room k (A.deeper (LamX.lamEnv X scope s.heap.objs.size f c')) → PE (LamX.lamCx X A outer s H E scope f c') body tb)
    (hN : Ng[i]? = some x) (hv : Vis sg x) (hd : (x == ("__debug__" : Str)) = false := by decide) (hcd : (x == ("__classdict__" : Str)) = false := by decide) :
    PE ((cxOf CXg X.prog X.w X.K X.mg X.base Ng qg sg g cdg X.A X.stack s H Eg).tr pn xe) (.Call (.Name x p1) [] [] p2)
      (fun σZ HZ Q => σZ[i]? = some (some (.ref f)) ∧ HZ c' = some (LamX.CodeO c' (X.env.qual ++ "<lambda>")) ∧ tb σ HZ Q) := by
  refine ⟨fun pinsZ sZ σZ HZ Q IZ ⟨hs, hc, ht⟩ => ?_⟩
  refine wpAny_Call_Name_kw (thn ((pe_var (pos := p1) (i := i) hN hv hd hcd).run pinsZ sZ σZ HZ (fun v H1 => v = .ref f ∧ H1 = HZ) IZ ⟨.ref f, hs, rfl, rfl⟩) fun u1 s1 ⟨v, H1, I1, r1, ev, eH⟩ => ?_)
  subst ev
  rw [eH] at I1
  obtain rfl : u1 = Value.ref f := r1
  have un : Un (frs X.stack) [] H HZ s.heap s1.heap := I1.base
  have of1 : s1.heap.get? f = some (PySem.W.kla_obj "<lambda>" (X.env.qual ++ "<lambda>") params body scope (cloFrom X.env.cells scope.names []) pm c' ctv) := (show ObjOk _ _ _ _ _ (frzO _) from I1.hok f _ (un.frzs _ _ _ hk)).1
  refine PySem.W.callWith_F0 ⟨_, _, _, _, of1⟩ ?_
  obtain ⟨⟨oc, vs, tq, hoc, hdc, hvc⟩, _, _⟩ := I1.hok c' _ hc
  have rc : codeAny (model X.prog X.w) (X.A.deeper (envOfC qg sg s.heap.objs.size g cdg)) (.call (.ref f) ⟨[], []⟩) (CR (L2.CX X.prog X.w) (envOfC qg sg s.heap.objs.size g cdg :: X.stack) X.prog X.w HZ s1 Q E) s1 := by
    refine PySem.W.kla_callFunE hr.depth of1 rfl L.co L.gen rfl ⟨c', oc, vs, tq, rfl, hoc, hdc, hvc⟩ ?_
    rw [hbind]
    refine wpAny_pure (wpAny_newFunctionEnv (fun y hy => (L.own y hy).2) (fun y hy => absurd hy (by simp)) (fun h₁ hns hsb => ⟨I1.nolimit.fresh _ hsb, ?_⟩) L.kind)
    show codeAny _ _ (.expr body (LamX.lamEnv X scope s1.heap.objs.size f c')) _ _
    have J := LamX.lam_start2 (tk := s1.toks + ([] : List (Str × Value)).length) (E := E) (f := f) (c' := c') I L I1.env0 hr.hd un hns fun b o e => hsb.extBut b o (Nat.ne_of_lt (Heap.lt_size e)) (Heap.get?_push_of_some _ e)
    refine PySem.W.kla_codeExpr (wpAny_mono ((hbody _ _ s1 HZ (hr.deeper _)).run [] _ _ HZ Q J ht) (fun v s' hq => ?_) fun e s' hq => hq)
    obtain ⟨w', H', J', rv, q⟩ := hq
    exact ⟨w', H', J'.os, J'.bare, J'.base, J'.hok, rv, q⟩
  have px : Passes (L2.CX X.prog X.w) ((cxOf CXg X.prog X.w X.K X.mg X.base Ng qg sg g cdg X.A X.stack s H Eg).tr pn xe) E := passes_call tk hW
  refine wpAny_call (codeAny_mono rc fun r s' hq => ?_)
  match r, hq with
  | .error e, hq => exact px pinsZ σZ HZ s1 e s' I1 hq
  | .ok (.ret _), hq => exact I1.after hq
  | .ok .next, hq => exact False.elim hq
  | .ok .brk, hq => exact False.elim hq
  | .ok .cont, hq => exact False.elim hq
theorem lamB_act (I : Inv X pins σ H s) (L : LamP X.env.scope scope X.N a) (hk : H f = some (frzO (PySem.W.kdv_obj "<lambda>" (X.env.qual ++ "<lambda>") params (.expr body) scope (cloFrom X.env.cells scope.names []) (.ref t) doc pm c' ctv))) (hkt : H t = some (frzO (PySem.W.kdv_tup [u])))
    (hbind : ∀ (s : Shared) (q : Str) (cl : List (Str × Addr)) (doc pm cv ctv : Value), s.heap.get? t = some (PySem.W.kdv_tup [u]) → BindsTo s (PySem.W.kdv_fn "<lambda>" q params (.expr body) scope cl (.ref t) doc pm cv ctv) ⟨[], []⟩ [(a, u)])
    (tk : Takes ((cxOf CXg X.prog X.w X.K X.mg X.base Ng qg sg g cdg X.A X.stack s H Eg).tr pn xe) W) (hW : ∀ cls d σ' H', E cls d H' → W cls d σ' H') (hr : Room (k + 1) (X.A.deeper (envOfC qg sg s.heap.objs.size g cdg)))
    (hbody : ∀ (A : Around) (outer : List Env) (s : Shared) (H : Hp), Room k (A.deeper (LamX.lamEnv X scope s.heap.objs.size f c')) → PE (LamX.lamCx X A outer s H E scope f c') body tb)
    (hN : Ng[i]? = some x) (hv : Vis sg x) (hd : (x == ("__debug__" : Str)) = false := by decide) (hcd : (x == ("__classdict__" : Str)) = false := by decide) :
    PE ((cxOf CXg X.prog X.w X.K X.mg X.base Ng qg sg g cdg X.A X.stack s H Eg).tr pn xe) (.Call (.Name x p1) [] [] p2)
      (fun σZ HZ Q => σZ[i]? = some (some (.ref f)) ∧ HZ c' = some (LamX.CodeO c' (X.env.qual ++ "<lambda>")) ∧ tb σ HZ Q) := by
  refine ⟨fun pinsZ sZ σZ HZ Q IZ ⟨hs, hc, ht⟩ => ?_⟩
  refine wpAny_Call_Name_kw (thn ((pe_var (pos := p1) (i := i) hN hv hd hcd).run pinsZ sZ σZ HZ (fun v H1 => v = .ref f ∧ H1 = HZ) IZ ⟨.ref f, hs, rfl, rfl⟩) fun u1 s1 ⟨v, H1, I1, r1, ev, eH⟩ => ?_)
  subst ev
  rw [eH] at I1
  obtain rfl : u1 = Value.ref f := r1
  have un : Un (frs X.stack) [] H HZ s.heap s1.heap := I1.base
  have of1 : s1.heap.get? f = some (PySem.W.kdv_obj "<lambda>" (X.env.qual ++ "<lambda>") params (.expr body) scope (cloFrom X.env.cells scope.names []) (.ref t) doc pm c' ctv) := (show ObjOk _ _ _ _ _ (frzO _) from I1.hok f _ (un.frzs _ _ _ hk)).1
  have ot1 : s1.heap.get? t = some (PySem.W.kdv_tup [u]) := (show ObjOk _ _ _ _ _ (frzO _) from I1.hok t _ (un.frzs _ _ _ hkt)).1
  refine PySem.W.callWith_F0 ⟨_, _, _, _, of1⟩ ?_
  obtain ⟨⟨oc, vs, tq, hoc, hdc, hvc⟩, _, _⟩ := I1.hok c' _ hc
  have rc : codeAny (model X.prog X.w) (X.A.deeper (envOfC qg sg s.heap.objs.size g cdg)) (.call (.ref f) ⟨[], []⟩) (CR (L2.CX X.prog X.w) (envOfC qg sg s.heap.objs.size g cdg :: X.stack) X.prog X.w HZ s1 Q E) s1 := by
    refine PySem.W.kla_callFunE hr.depth of1 rfl L.co L.gen rfl ⟨c', oc, vs, tq, rfl, hoc, hdc, hvc⟩ (hbind s1 _ _ _ _ _ _ ot1 _ _ _ _ ?_)
    refine wpAny_newFunctionEnv (fun y hy => (L.own y hy).1) (fun y hy => ?_) (fun h₁ hns hsb => ⟨I1.nolimit.fresh _ hsb, ?_⟩) L.kind
    · rw [List.mem_singleton.mp hy]
      exact L.par
    show codeAny _ _ (.expr body (LamX.lamEnv X scope s1.heap.objs.size f c')) _ _
    have J := lamD_start (tk := s1.toks + [(a, u)].length) (E := E) (f := f) (c' := c') I L I1.env0 hr.hd un hns fun b o e => hsb.extBut b o (Nat.ne_of_lt (Heap.lt_size e)) (Heap.get?_push_of_some _ e)
    refine PySem.W.kla_codeExpr (wpAny_mono ((hbody _ _ s1 HZ (hr.deeper _)).run [] _ _ HZ Q J ht) (fun v s' hq => ?_) fun e s' hq => hq)
    obtain ⟨w', H', J', rv, q⟩ := hq
    exact ⟨w', H', J'.os, J'.bare, J'.base, J'.hok, rv, q⟩
  have px : Passes (L2.CX X.prog X.w) ((cxOf CXg X.prog X.w X.K X.mg X.base Ng qg sg g cdg X.A X.stack s H Eg).tr pn xe) E := passes_call tk hW
  refine wpAny_call (codeAny_mono rc fun r s' hq => ?_)
  match r, hq with
  | .error e, hq => exact px pinsZ σZ HZ s1 e s' I1 hq
  | .ok (.ret _), hq => exact I1.after hq
  | .ok .next, hq => exact False.elim hq
  | .ok .brk, hq => exact False.elim hq
  | .ok .cont, hq => exact False.elim hq
end
/-- what a lambda's work computes -/
def LamOk (X : Cx) (T : List (Addr × Str)) (k : Nat) : LamK → LE → Prop
  | .a params body scope, fb => LamX.LamS X.env.scope scope ∧ (∀ (q : Str) (cl : List (Str × Addr)) (pm cv ctv : Value), bindArgs (PySem.W.kla_fn "<lambda>" q params body scope cl pm cv ctv) ⟨[], []⟩ = pure []) ∧
      ∀ (A : Around) (outer : List Env) (s : Shared) (H : Hp) (E' : XK) (f c' : Addr), Room k (LamX.lamCx X A outer s H E' scope f c').A → Passes (L2.CX (LamX.lamCx X A outer s H E' scope f c').prog (LamX.lamCx X A outer s H E' scope f c').w) (LamX.lamCx X A outer s H E' scope f c') E' → PEf (LamX.lamCx X A outer s H E' scope f c') T E' body fb
  | .b params body scope a, fb => LamP X.env.scope scope X.N a ∧ (∀ (s : Shared) (t : Addr) (u : Value) (q : Str) (cl : List (Str × Addr)) (doc pm cv ctv : Value), s.heap.get? t = some (PySem.W.kdv_tup [u]) → BindsTo s (PySem.W.kdv_fn "<lambda>" q params (.expr body) scope cl (.ref t) doc pm cv ctv) ⟨[], []⟩ [(a, u)]) ∧
      ∀ (A : Around) (outer : List Env) (s : Shared) (H : Hp) (E' : XK) (f c' : Addr), Room k (LamX.lamCx X A outer s H E' scope f c').A → Passes (L2.CX (LamX.lamCx X A outer s H E' scope f c').prog (LamX.lamCx X A outer s H E' scope f c').w) (LamX.lamCx X A outer s H E' scope f c') E' → PEf (LamX.lamCx X A outer s H E' scope f c') T E' body fb
theorem lam_act {X : Cx} {T : List (Addr × Str)} {pins : List (Addr × Obj)} {σ : L2.St} {w : Wd} {H : Hp} {s : Shared} {Ng : List Str} {qg : Str} {sg : Scope} {g f : Addr} {cdg : Value} {k : Nat} {x : Str} {l : LamK} {fb : LE} (I : Inv X pins σ H s) (ok : LamOk X T k l fb) (lf : LamF X w H l f) (hr : Room (k + 1) (X.A.deeper (envOfC qg sg s.heap.objs.size g cdg)))
    (hN : Ng[0]? = some x) (hv : Vis sg x) (hd : (x == ("__debug__" : Str)) = false := by decide) (hcd : (x == ("__classdict__" : Str)) = false := by decide) :
    ∃ c', H c' = some (LamX.CodeO c' (X.env.qual ++ "<lambda>")) ∧ ∀ (W : WX) (pn : List (Addr × Obj)) (xe : Value → Shared → Prop) (E : XK) (p1 p2 : Pos), Takes ((cxOf C8.CX0 X.prog X.w X.K X.mg X.base Ng qg sg g cdg X.A X.stack s H C8.E0).tr pn xe) W → (∀ cls d σ' H', E cls d H' → W cls d σ' H') →
      PE ((cxOf C8.CX0 X.prog X.w X.K X.mg X.base Ng qg sg g cdg X.A X.stack s H C8.E0).tr pn xe) (.Call (.Name x p1) [] [] p2) (fun σZ HZ Q => σZ[0]? = some (some (.ref f)) ∧ HZ c' = some (LamX.CodeO c' (X.env.qual ++ "<lambda>")) ∧ tOf X.K T E Dat fb σ HZ Q) := by
  cases l with
  | a params body scope =>
    obtain ⟨c', pm, ctv, h1, h2⟩ := lf
    obtain ⟨L, hb, hbody⟩ := ok
    exact ⟨c', h2.1, fun W pn xe E p1 p2 tk hW => lamA_act (i := 0) I L h1.1 (hb _ _ _ _ _) tk hW hr (fun A outer s H hr2 => hbody A outer s H E f c' hr2 px_lam) hN hv hd hcd⟩
  | b params body scope a =>
    obtain ⟨c', t, u, doc, pm, ctv, h1, h2, h3⟩ := lf
    obtain ⟨L, hb, hbody⟩ := ok
    exact ⟨c', h3.1, fun W pn xe E p1 p2 tk hW => lamB_act (i := 0) I L h1.1 h2.1 (fun s q cl doc pm cv ctv h => hb s t u q cl doc pm cv ctv h) tk hW hr (fun A outer s H hr2 => hbody A outer s H E f c' hr2 px_lam) hN hv hd hcd⟩
/-! ### the def that tells the kind is called with what the comprehension's name holds -/
def tKindV (X : Cx) (T : List (Addr × Str)) (occ : List Str) (iw : Nat) (ls : List (LamK × LE)) (σX : L2.St) : TE := fun σ H Q => ∃ (l : LamK × LE) (f : Addr) (w : Wd), l ∈ ls ∧ σ[iw]? = some (some (.ref f)) ∧ LamF X w H l.1 f ∧ TTk X.K T occ (fun E' H' Q' => tOf X.K T E' Dat l.2 σX H' Q') H Q
theorem pe_kindV {X : Cx} {T : List (Addr × Str)} {occ : List Str} {pins : List (Addr × Obj)} {σ : L2.St} {H3 : Hp} {s3 : Shared} {scope : Scope} {ce : Env} {fp : List Addr} {xw : Value → Shared → Prop} {ls : List (LamK × LE)} {iw j k : Nat} {v : Str} {p pw pos : Pos}
    (kk : Knd X T occ) (hr : Room j X.A) (hls : ∀ l ∈ ls, LamOk X T k l.1 l.2) (I3 : Inv X pins σ H3 s3) (f3 : ∀ b ∈ fp, FpOk X pins H3 b ∧ b < s3.heap.objs.size)
    (hg : Gl ((X.blk s3 H3 scope ce fp).wish xw) "_law_kind") (hN : X.N[iw]? = some v) (hv : Vis ((X.blk s3 H3 scope ce fp).wish xw).env.scope v) (hjk : k + 2 ≤ j := by decide)
    (hd : (v == ("__debug__" : Str)) = false := by decide) (hcd : (v == ("__classdict__" : Str)) = false := by decide) (hse : starEach [.Name v pw] ((X.blk s3 H3 scope ce fp).wish xw).env = [(false, eval (.Name v pw) ((X.blk s3 H3 scope ce fp).wish xw).env)] := by rfl) :
    PE ((X.blk s3 H3 scope ce fp).wish xw) (.Call (.Name "_law_kind" p) [.Name v pw] [] pos) (tKindV X T occ iw ls σ) := by
  obtain ⟨pg, bg, sg, fd, Ng, F, Sg, hb, hNg, hva, hG⟩ := kk.fn
  have kp := F.kp
  obtain ⟨oc, od, dV, kV, doc, pm, an, cdv, ct, osl, rfl, lk, hcd2, _, _⟩ := F.ex
  refine ⟨fun pinsY sY σY HY Q IY h => ?_⟩
  obtain ⟨l, f, w, hl, hs, lf, hT⟩ := h
  refine wpAny_Call_Name_kw (ld_glob IY hg kk.mg ?_ (by decide))
  refine PySem.W.callWith_K (h₀ := X.base) IY.ok.mod.kin kp ?_ (by rfl) (by rfl)
  rw [hse]
  show wpAny _ _ (spliced ((false, eval (.Name v pw) ((X.blk s3 H3 scope ce fp).wish xw).env) :: backTo pos (starEach [] ((X.blk s3 H3 scope ce fp).wish xw).env))) _ _ sY
  refine Calls.spliced_cons (thn ((pe_var (X := (X.blk s3 H3 scope ce fp).wish xw) (pos := pw) (i := iw) hN hv hd hcd).run pinsY sY σY HY (fun v H1 => v = .ref f ∧ H1 = HY) IY ⟨.ref f, hs, rfl, rfl⟩) fun u1 s1 ⟨v1, H1, I1, r1, ev, eH⟩ => ?_)
  subst ev
  rw [eH] at I1
  obtain rfl : u1 = Value.ref f := r1
  refine Calls.spliced_nil ⟨I1.kIn, ?_⟩
  have IX : Inv X pins σ HY s1 := I3.call' (ch := fp) I1.os I1.base I1.hok I1.bare fun b hb => ⟨(f3 b hb).1.2.2.2.1, (f3 b hb).1.2.1, (f3 b hb).1.2.2.2.2.1, (f3 b hb).1.2.2.2.2.2⟩
  have rc : codeAny (model X.prog X.w) X.A (.call (.ref (He.fAd X.K ("_law_kind", none))) ⟨[.ref f], []⟩) (CR C8.CX0 X.stack X.prog X.w HY s1 Q C8.E0) s1 := by
    refine LamX.run_ofS (N := Ng) (ps := ["_law_work"]) (us := [.ref f]) (vs := [.ref f]) lk hcd2 Sg (hr.mono hjk) I1.env0 (hb s1 [.ref f] I1.kIn rfl) (.cons rfl .nil) rfl fun hr' => ?_
    obtain ⟨c', hc, act⟩ := lam_act IX (hls l hl) lf hr' hNg hva
    obtain ⟨t', ht', hq'⟩ := hG cdv _ f c' s1 HY Q (fun E' H' Q' => tOf X.K T E' Dat l.2 σ H' Q') act hc hT
    exact ⟨t', ht'.nox, hq'⟩
  refine wpAny_call (codeAny_mono rc fun r s2 hq => ?_)
  match r, hq with
  | .error e, hq => exact (show False from hq).elim
  | .ok (.ret _), hq => exact I1.after hq
  | .ok .next, hq => exact False.elim hq
  | .ok .brk, hq => exact False.elim hq
  | .ok .cont, hq => exact False.elim hq
def tKinds (X : Cx) (T : List (Addr × Str)) (occ : List Str) (i iw : Nat) (ls : List (LamK × LE)) : TE := fun σ H Q => tLc (iList X.K (tVar i)) (gName iw) tYes (tKindV X T occ iw ls σ) [iw] σ H Q
theorem pe_kinds {X : Cx} {T : List (Addr × Str)} {E : XK} {occ : List Str} {scope : Scope} {ls : List (LamK × LE)} {i iw j k : Nat} {v y : Str} {p pw pt py pos lpos : Pos} (hc : X.calm = true) (tk : Takes X (W0 E)) (hst : X.stack = X.env :: X.outer) (hf : X.env.frame = some X.env.locals) (hN : X.N.Nodup)
    (kk : Knd X T occ) (hr : Room j X.A) (hls : ∀ l ∈ ls, LamOk X T k l.1 l.2) (ok : BlkOk X.N X.env.scope scope [(v, iw)]) (hi : X.N[i]? = some y) (hvy : Vis X.env.scope y) (hw : X.N[iw]? = some v)
    (hloc : ∀ (s : Shared) (H : Hp) (C : Addr) (cl : List (Str × Addr)) (fp : List Addr), (X.blk s H scope (compEnvC scope cl C X.env) fp).env.scope.names.lookup v = some .local := by intro _ _ _ _ _; rfl)
    (hg : ∀ (s : Shared) (H : Hp) (C : Addr) (cl : List (Str × Addr)) (fp : List Addr), Gl (X.blk s H scope (compEnvC scope cl C X.env) fp) "_law_kind" := by intro _ _ _ _ _; rfl) (hjk : k + 2 ≤ j := by decide)
    (hd : (v == ("__debug__" : Str)) = false := by decide) (hcd : (v == ("__classdict__" : Str)) = false := by decide) (hdy : (y == ("__debug__" : Str)) = false := by decide) (hcy : (y == ("__classdict__" : Str)) = false := by decide) :
    PE X (.ListComp (.Call (.Name "_law_kind" p) [.Name v pw] [] pos) [⟨.Name v pt, .Name y py, [], 0⟩] scope lpos) (tKinds X T occ i iw ls) := by
  refine ⟨fun pins s σ H Q I h => ?_⟩
  rw [eval_ListComp]
  refine lcX_core (use := none) hc tk hst hf hN I (pi_list (pe_var (i := i) hi hvy hdy hcy)) ok (fun s H C cl fp => pg_name hN hw (.inl (hloc s H C cl fp)) (.inr (hloc s H C cl fp))) (fun s H C cl fp => pts_nil) (fun s H C cl fp I3 f3 => pe_kindV kk hr hls I3 f3 (hg s H C cl fp) hw (.inl (hloc s H C cl fp)) hjk hd hcd) (by intro _; rfl) h fun D C s' m H' I' q hn f => ⟨m, hn, fun h'' sb => ?_⟩
  obtain ⟨f0, f1, f2, f3, f4, f5⟩ := f
  exact ⟨.ref D, H', I'.turned (t' := s'.toks) (fun b o hb e => (sb.2 b hb).trans e) f0 f1 f3 f4 f5, rfl, q⟩
/-! ### as plain functions -/
def kindsL (occ : List Str) : List LE → DEnv → Store → Res (List D)
  | [], _, st => .ok [] st
  | f :: fs, env, st => (kKind occ (f env st)).bind fun d s1 => (kindsL occ fs env s1).bind fun ds s2 => .ok (d :: ds) s2
def fKinds (occ : List Str) (fs : List LE) : LE := fun env st => (kindsL occ fs env st).bind fun ds s => .ok (.lst ds) s
/-- name = [lambda: .., ..] and what is asked of them behind it; the name is not told from then on -/
def fWorks (i : Nat) (ft : LT) (fa : LS) : LS := fun env st => fIfS ft fa fNext (env.set i none) st
section
variable {K : PySem.W.Frag} {T : List (Addr × Str)} {E : XK} {occ : List Str} {fb : LE} {w : Wd} {H : Hp} {σ : L2.St} {env : DEnv} {st : Store}
theorem kind_post {Q : VK} (he : EnvR w σ env) (r : Rel K T w H st) (p : Post K T E Dat w H (kKind occ (fb env st)) Q) : TTk K T occ (fun E' H' Q' => tOf K T E' Dat fb σ H' Q') H Q := by
  refine ⟨w, env, st, he, r, ?_⟩
  cases h : fb env st with
  | ok d st' =>
    rw [h] at p
    exact p
  | stuck =>
    rw [h] at p
    exact p.elim
  | ex x st' =>
    rw [h] at p
    have p : Post K T E Dat w H (if x.num = none ∧ x.c ∈ occ then .ok (.str x.c) st' else .stuck) Q := p
    by_cases q : x.num = none ∧ x.c ∈ occ
    · rw [if_pos q] at p
      intro w' c od H' s' r' z
      have z2 := z.2
      rw [q.1] at z2
      exact ⟨x.c, ⟨q.2, z.1, z2⟩, r'.tabs, fun H2 x2 t2 => p w' (.str x.c) H2 (s'.trans (Stp.extN x2)) (r'.extN x2 t2) (.str _)⟩
    · rw [if_neg q] at p
      exact p.elim
end
section
variable {X : Cx} {T : List (Addr × Str)} {E : XK} {occ : List Str} {w : Wd} {H : Hp} {σ : L2.St} {env : DEnv} {st : Store} {i iw : Nat} {L : Addr} {fs : List Addr} {ls : List (LamK × LE)}
theorem sim_kinds {Q : VK} (he : EnvR w σ env) (r : Rel X.K T w H st) (hi : σ[i]? = some (some (.ref L))) (hL : KA w H L (.lst (fs.map V.ref))) (hfs : fs.length = ls.length) (hf : ∀ (n : Nat) l f, ls[n]? = some l → fs[n]? = some f → LamF X w H l.1 f)
    (hw : iw < σ.length) (hlim : ls.length ≤ 100) (p : Post X.K T E Dat w H (fKinds occ (ls.map (·.2)) env st) Q) : tKinds X T occ i iw ls σ H Q := by
  refine ⟨.ref L, hi, L, rfl, ⟨_, SqL.of hL.1⟩, fun D hD => ?_⟩
  obtain ⟨R, hR⟩ : ∃ R, kindsL occ (ls.map (·.2)) env st = R := ⟨_, rfl⟩
  have p1 : Post X.K T E Dat w H (R.bind fun ds s => .ok (.lst ds) s) Q := by rw [← hR]; exact p
  refine ⟨fun n m H' => m = ls.length - n ∧ n ≤ ls.length ∧ ∃ w' st' acc ds, Acc X.K T w H D w' H' st' acc ds ∧ ds.length ≤ n ∧ ((kindsL occ ((ls.map (·.2)).drop n) env st').bind fun zs s => .ok (ds ++ zs) s) = R,
    ⟨ls.length, by simp, Nat.zero_le _, w, st, [], [], Acc.start r hD, Nat.zero_le _, by rw [List.drop_zero, hR]; exact bind_idR R⟩, ?_⟩
  rintro n m H' ⟨rfl, hn, w', st', acc, ds, a, hdl, hr⟩
  have hL' := hL.stp a.stp (by intro _ z; cases z)
  by_cases hlt : n < ls.length
  · have hfn : n < fs.length := by omega
    have hxn : (fs.map V.ref)[n]? = some (.ref fs[n]) := by rw [List.getElem?_map, List.getElem?_eq_getElem hfn]; rfl
    refine .inr ⟨⟨_, _, SqL.of hL'.1, hxn⟩, fun H'' => ∃ w' st' acc ds, Acc X.K T w H D w' H'' st' acc ds ∧ ds.length ≤ n + 1 ∧ ((kindsL occ ((ls.map (·.2)).drop (n + 1)) env st').bind fun zs s => .ok (ds ++ zs) s) = R, fun H'' hN => ⟨ls.length - (n + 1), by omega, rfl, hlt, hN⟩, fun x H3 hy => ?_⟩
    obtain ⟨rfl, hx⟩ := hy
    have hx2 := hx _ (SqL.of hL'.1)
    rw [hxn] at hx2
    cases hx2
    have hwl : iw < (wipe σ [iw]).length := by rw [wipe_length]; exact hw
    refine ⟨(wipe_set (List.mem_singleton.mpr rfl)).trans (wipe_idem σ [iw]), ?_⟩
    show tKindV X T occ iw ls σ (List.set (wipe σ [iw]) iw (some (.ref fs[n]))) _ _
    have hd : (ls.map (·.2)).drop n = ls[n].2 :: (ls.map (·.2)).drop (n + 1) := by
      rw [List.drop_eq_getElem_cons (by rw [List.length_map]; exact hlt), List.getElem_map]
    rw [hd] at hr
    refine ⟨ls[n], fs[n], w', List.getElem_mem _, set_get hwl, (hf n _ _ (List.getElem?_eq_getElem hlt) (List.getElem?_eq_getElem hfn)).stp a.stp, kind_post (E := E) (he.mono a.stp.le) a.rel ?_⟩
    have hr : (((kKind occ (ls[n].2 env st')).bind fun d s1 => (kindsL occ ((ls.map (·.2)).drop (n + 1)) env s1).bind fun ds s2 => Res.ok (d :: ds) s2).bind fun zs s => .ok (ds ++ zs) s) = R := hr
    cases q : kKind occ (ls[n].2 env st') with
    | stuck => rw [q] at hr; rw [← hr] at p1; exact p1.elim
    | ex x6 st6 =>
      rw [q] at hr
      rw [← hr] at p1
      exact fun w6 c6 od H6 s6 r6 ex6 => p1 w6 c6 od H6 (a.stp.trans s6) r6 ex6
    | ok y st6 =>
      rw [q] at hr
      have hr : (((kindsL occ ((ls.map (·.2)).drop (n + 1)) env st6).bind fun ys s4 => Res.ok (y :: ys) s4).bind fun zs s => .ok (ds ++ zs) s) = R := hr
      rw [bind_as] at hr
      intro w6 v H6 s6 r6 dv
      have a6 := a.step s6 r6
      have hlen : acc.length < sizeLine := by
        rw [a6.dats.length, sizeLine_eq]
        omega
      refine ⟨acc, a6.hL, hlen, w6, st6, acc ++ [v], ds ++ [y], a6.push hD dv, by rw [List.length_append]; show ds.length + 1 ≤ n + 1; omega, ?_⟩
      rw [← hr]
      congr 1
      funext zs s
      show Res.ok ((ds ++ [y]) ++ zs) s = Res.ok (ds ++ y :: zs) s
      rw [List.append_assoc]
      rfl
  · have e : n = ls.length := by omega
    subst e
    rw [show (ls.map (·.2)).drop ls.length = [] from by rw [List.drop_eq_nil_iff, List.length_map]; exact Nat.le_refl _] at hr
    have hr : Res.ok (ds ++ []) st' = R := hr
    rw [List.append_nil] at hr
    rw [← hr] at p1
    obtain ⟨s2, r2, d2⟩ := a.done hD
    exact .inl ⟨⟨_, SqL.of hL'.1, by rw [List.length_map]; omega⟩, p1 _ _ _ s2 r2 d2⟩
end
/-- the list's lambdas, and what their works compute -/
structure WorksOk (X : Cx) (T : List (Addr × Str)) (occ : List Str) (k : Nat) (es : List Expr) (ls : List (LamK × LE)) : Prop where
  pa : PA X es (tLams X T (ls.map (·.1)))
  ok : ∀ l ∈ ls, LamOk X T k l.1 l.2
section
variable {X : Cx} {T : List (Addr × Str)} {occ : List Str} {k : Nat} {es : List Expr} {ls : List (LamK × LE)} {params : Arguments} {body : Expr} {scope : Scope} {lpos dp : Pos} {fb : LE} {a : Str} {i : Int} {jj : Nat}
theorem w_nil : WorksOk X T occ k [] [] := ⟨pa_nil, fun l h => by cases h⟩
theorem w_lamA (kk : Knd X T occ) (L : LamX.LamS X.env.scope scope)
    (hbody : ∀ (A : Around) (outer : List Env) (s : Shared) (H : Hp) (E' : XK) (f c' : Addr), Room k (LamX.lamCx X A outer s H E' scope f c').A → Passes (L2.CX (LamX.lamCx X A outer s H E' scope f c').prog (LamX.lamCx X A outer s H E' scope f c').w) (LamX.lamCx X A outer s H E' scope f c') E' → PEf (LamX.lamCx X A outer s H E' scope f c') T E' body fb)
    (r : WorksOk X T occ k es ls) (hdef : defaultsOf params X.env = ([], []) := by rfl)
    (hbind : ∀ (q : Str) (cl : List (Str × Addr)) (pm cv ctv : Value), bindArgs (PySem.W.kla_fn "<lambda>" q params body scope cl pm cv ctv) ⟨[], []⟩ = pure [] := by intro _ _ _ _ _; rfl)
    (hs : starEach (.Lambda params body scope lpos :: es) X.env = (false, eval (.Lambda params body scope lpos) X.env) :: starEach es X.env := by rfl) :
    WorksOk X T occ k (.Lambda params body scope lpos :: es) ((.a params body scope, fb) :: ls) := by
  obtain ⟨c, P, TB, hcode, hmT, hu⟩ := kk.tab
  refine ⟨pa_cons (pe_lamA TB hcode hmT hu L hdef) r.pa hs, fun l h => ?_⟩
  rcases List.mem_cons.mp h with h | h
  · rw [h]
    exact ⟨L, hbind, hbody⟩
  · exact r.ok l h
theorem w_lamB (kk : Knd X T occ) (L : LamP X.env.scope scope X.N a)
    (hbody : ∀ (A : Around) (outer : List Env) (s : Shared) (H : Hp) (E' : XK) (f c' : Addr), Room k (LamX.lamCx X A outer s H E' scope f c').A → Passes (L2.CX (LamX.lamCx X A outer s H E' scope f c').prog (LamX.lamCx X A outer s H E' scope f c').w) (LamX.lamCx X A outer s H E' scope f c') E' → PEf (LamX.lamCx X A outer s H E' scope f c') T E' body fb)
    (r : WorksOk X T occ k es ls) (hd : params.defaults = [.Constant (.int i) jj dp] := by rfl) (hk0 : params.kw_defaults = [] := by rfl)
    (hbind : ∀ (s : Shared) (t : Addr) (u : Value) (q : Str) (cl : List (Str × Addr)) (doc pm cv ctv : Value), s.heap.get? t = some (PySem.W.kdv_tup [u]) → BindsTo s (PySem.W.kdv_fn "<lambda>" q params (.expr body) scope cl (.ref t) doc pm cv ctv) ⟨[], []⟩ [(a, u)] := by
      intro s t u q cl doc pm cv ctv h; exact BindsTo.of_defaults rfl h rfl rfl rfl)
    (hs : starEach (.Lambda params body scope lpos :: es) X.env = (false, eval (.Lambda params body scope lpos) X.env) :: starEach es X.env := by rfl) :
    WorksOk X T occ k (.Lambda params body scope lpos :: es) ((.b params body scope a, fb) :: ls) := by
  obtain ⟨c, P, TB, hcode, hmT, hu⟩ := kk.tab
  refine ⟨pa_cons (pe_lamB TB hcode hmT hu L hd hk0) r.pa hs, fun l h => ?_⟩
  rcases List.mem_cons.mp h with h | h
  · rw [h]
    exact ⟨L, hbind, hbody⟩
  · exact r.ok l h
end
section
variable {X : Cx} {T : List (Addr × Str)} {E : XK} {occ : List Str} {scope : Scope} {ls : List (LamK × LE)} {i iw j k : Nat} {v y : Str} {p pw pt py py2 pos lpos epos spos cpos ipos : Pos} {es : List Expr} {rhs : Expr} {frhs : LE} {fbs : List LE} {sa rest : List Stmt} {fa fr : LS}
theorem s_works (hc : X.calm = true) (tk : Takes X (W0 E)) (hst : X.stack = X.env :: X.outer) (hf : X.env.frame = some X.env.locals) (hN : X.N.Nodup)
    (kk : Knd X T occ) (hr : Room j X.A) (wk : WorksOk X T occ k es ls) (ok : BlkOk X.N X.env.scope scope [(v, iw)]) (hrhs : PEf X T E rhs frhs) (ha : PSsf X T (W0 E) sa fa) (hrest : PSsf X T (W0 E) rest fr)
    (hi : X.N[i]? = some y := by rfl) (hx : Loc X.env.scope y := by first | exact Or.inl rfl | exact Or.inr rfl) (hvy : Vis X.env.scope y := by first | exact Or.inl rfl | exact Or.inr (Or.inl rfl) | exact Or.inr (Or.inr rfl)) (hfn : X.fn y = true ∨ X.env.scope.names.lookup y = some .local := by first | exact .inl rfl | exact .inr rfl) (hw : X.N[iw]? = some v := by rfl)
    (hs : swapsWith (.List es epos) (some (.Name y py)) spos.line X.env = pure false := by rfl) (hm : behindInMarks .NotEq rhs = false := by rfl)
    (hloc : ∀ (s : Shared) (H : Hp) (C : Addr) (cl : List (Str × Addr)) (fp : List Addr), (X.blk s H scope (compEnvC scope cl C X.env) fp).env.scope.names.lookup v = some .local := by intro _ _ _ _ _; rfl)
    (hg : ∀ (s : Shared) (H : Hp) (C : Addr) (cl : List (Str × Addr)) (fp : List Addr), Gl (X.blk s H scope (compEnvC scope cl C X.env) fp) "_law_kind" := by intro _ _ _ _ _; rfl) (hjk : k + 2 ≤ j := by decide) (hlb : Nat.ble ls.length 100 = true := by rfl) (hfb : ls.map (·.2) = fbs := by rfl)
    (hd : (v == ("__debug__" : Str)) = false := by decide) (hcd : (v == ("__classdict__" : Str)) = false := by decide) (hdy : (y == ("__debug__" : Str)) = false := by decide) (hcy : (y == ("__classdict__" : Str)) = false := by decide) :
    PSsf X T (W0 E) (.Assign [.Name y py] (.List es epos) spos :: .If (.Compare (.ListComp (.Call (.Name "_law_kind" p) [.Name v pw] [] pos) [⟨.Name v pt, .Name y py2, [], 0⟩] scope lpos) [.NotEq] [rhs] cpos) sa [] ipos :: rest) (fSeq (fWorks i (fTest (fOp oNe (fKinds occ fbs) frhs)) fa) fr) := by
  obtain ⟨hes, hls⟩ := wk
  subst hfb
  have hll : ls.length ≤ 100 := Nat.le_of_ble_eq_true hlb
  exact pss_to (pss_len (pss_cons (ps_set hN hi hx (pe_lst hes) hs hfn) (pss_cons (ps_if (pt_cmpR (op_neD hr.units) (pe_kinds (p := p) (pw := pw) (pt := pt) (py := py2) (pos := pos) (lpos := lpos) hc tk hst hf hN kk hr hls ok hi hvy hw hloc hg hjk hd hcd hdy hcy) hrhs hm) ha pss_nil) hrest))) fun w σ H env st Dn he r p hlen => by
    refine tLams_of r fun fs H1 e1 r1 hl k1 => ⟨by rw [List.length_map, hl, List.length_map, sizeLine_eq]; omega, fun L hL => ?_⟩
    have at_ : ∀ b u, H1 b = some u → upd H1 L (.lst (fs.map V.ref)) b = some u := fun b u e => by rw [upd_ne (ne_of_none e hL)]; exact e
    have x2 : LamX.ExtN H1 (upd H1 L (.lst (fs.map V.ref))) := LamX.ExtN.of at_
    have r2 := r1.extN x2 (r1.tabs.ext at_)
    have ka : KA w (upd H1 L (.lst (fs.map V.ref))) L (.lst (fs.map V.ref)) := ⟨upd_same, fun z => r1.there z hL⟩
    have hfl : ∀ (n : Nat) l f, ls[n]? = some l → fs[n]? = some f → LamF X w (upd H1 L (.lst (fs.map V.ref))) l.1 f := fun n l f h1 h2 => (k1 n l.1 f (by rw [List.getElem?_map, h1]; rfl) h2).stp (Stp.extN x2)
    have s2 : Stp w H w (upd H1 L (.lst (fs.map V.ref))) := Stp.extN (e1.trans x2)
    generalize upd H1 L (.lst (fs.map V.ref)) = H2 at *
    have he2 : EnvR w (σ.set i (some (.ref L))) (env.set i none) := he.del i (some (.ref L))
    have hil : i < σ.length := by rw [hlen]; exact (List.getElem?_eq_some_iff.mp hi).1
    have hwl : iw < (σ.set i (some (.ref L))).length := by rw [List.length_set, hlen]; exact (List.getElem?_eq_some_iff.mp hw).1
    have p2 : PostS X.K T (W0 E) w H2 (fIfS (fTest (fOp oNe (fKinds occ (ls.map (·.2))) frhs)) fa fNext (env.set i none) st) { Dn with nx := fun σ' H' => tOfS X.K T (W0 E) fr Dn σ' H' } := by
      have p := PostS.pull p s2
      unfold fSeq fWorks at p
      cases h : fIfS (fTest (fOp oNe (fKinds occ (ls.map (·.2))) frhs)) fa fNext (env.set i none) st with
      | nx e1 st1 =>
        rw [h] at p
        exact fun w' σ' H' s' e' r' => ⟨w', e1, st1, e', r', PostS.pull p s'⟩
      | rt d st1 => rw [h] at p; exact p
      | bk e1 st1 => rw [h] at p; exact p
      | ct e1 st1 => rw [h] at p; exact p
      | ex x e1 st1 => rw [h] at p; exact p
      | stuck => rw [h] at p; exact p
    have p3 : Post X.K T E eqB w H2 (fTest (fOp oNe (fKinds occ (ls.map (·.2))) frhs) (env.set i none) st) (fun b H3 => if b = true then tOfS X.K T (W0 E) fa { Dn with nx := fun σ' H' => tOfS X.K T (W0 E) fr Dn σ' H' } (σ.set i (some (.ref L))) H3 else tNext { Dn with nx := fun σ' H' => tOfS X.K T (W0 E) fr Dn σ' H' } (σ.set i (some (.ref L))) H3) :=
      PostS.go (rel := eqB) (fun _ _ _ h => h) he2 p2 fun w1 x H3 d st1 s1 r1 dx p1 => by
        cases (show x = d from dx)
        cases x with
        | true =>
          rw [if_pos rfl] at p1 ⊢
          exact ⟨w1, _, st1, he2.mono s1.le, r1, p1⟩
        | false =>
          rw [if_neg Bool.false_ne_true] at p1 ⊢
          exact p1 w1 _ H3 (Stp.refl w1 H3) (he2.mono s1.le) r1
    show tIfS (tTest (tOp (rNeD X.K) (tKinds X T occ i iw ls) (tOf X.K T E Dat frhs))) (tOfS X.K T (W0 E) fa) tNext { Dn with nx := fun σ' H' => tOfS X.K T (W0 E) fr Dn σ' H' } (σ.set i (some (.ref L))) H2
    unfold tIfS tTest tOp
    refine sim_kinds (E := E) he2 r2 (set_get hil) ka (by rw [hl, List.length_map]) hfl hwl hll ?_
    have p4 : Post X.K T E Dat w H2 (fOp oNe (fKinds occ (ls.map (·.2))) frhs (env.set i none) st) (fun x H3 => ∃ k, x = .bl k ∧ (if k = true then tOfS X.K T (W0 E) fa { Dn with nx := fun σ' H' => tOfS X.K T (W0 E) fr Dn σ' H' } (σ.set i (some (.ref L))) H3 else tNext { Dn with nx := fun σ' H' => tOfS X.K T (W0 E) fr Dn σ' H' } (σ.set i (some (.ref L))) H3)) :=
      p3.bind fun w1 x H1 d st1 s1 r1 dx p1 => by
        cases dx with
        | bl b => exact ⟨b, rfl, p1.here r1 rfl⟩
        | _ => exact p1.elim
    exact p4.bind fun w1 x H1 d st1 s1 r1 dx p1 => ⟨w1, _, st1, he2.mono s1.le, r1, p1.bind fun w2 y H2 d2 st2 s2 r2 dy p2 => sim_ne E w2 H2 st2 x y d d2 _ r2 (dx.mono s2.le) dy p2⟩
end
/-! ### evaluated -/
def kKl2 (d : D) : List D → Store → Res (List D) := fun ds s2 => .ok (d :: ds) s2
def kKl1 (occ : List Str) (fs : List LE) (env : DEnv) : D → Store → Res (List D) := fun d s1 => (kindsL occ fs env s1).bind (kKl2 d)
def kLs : List D → Store → Res D := fun ds s => .ok (.lst ds) s
@[simp] theorem kKl2_eq (d : D) (ds : List D) (st : Store) : kKl2 d ds st = .ok (d :: ds) st := (rfl)
@[simp] theorem kKl1_eq (occ : List Str) (fs : List LE) (env : DEnv) (d : D) (st : Store) : kKl1 occ fs env d st = (kindsL occ fs env st).bind (kKl2 d) := (rfl)
@[simp] theorem kLs_eq (ds : List D) (st : Store) : kLs ds st = .ok (.lst ds) st := (rfl)
@[simp] theorem kindsL_nil (occ : List Str) (env : DEnv) (st : Store) : kindsL occ [] env st = .ok [] st := (rfl)
@[simp] theorem kindsL_cons (occ : List Str) (f : LE) (fs : List LE) (env : DEnv) (st : Store) : kindsL occ (f :: fs) env st = (kKind occ (f env st)).bind (kKl1 occ fs env) := (rfl)
@[simp] theorem fKinds_eq (occ : List Str) (fs : List LE) (env : DEnv) (st : Store) : fKinds occ fs env st = (kindsL occ fs env st).bind kLs := (rfl)
@[simp] theorem fWorks_eq (i : Nat) (ft : LT) (fa : LS) (env : DEnv) (st : Store) : fWorks i ft fa env st = fIfS ft fa fNext (env.set i none) st := (rfl)
end Fk
/-! FkZn: sorted(a dict of numbers), any length; sorted(a list) as a cell. -/
namespace L2
open PySem PySem.Spec PyProof.Rows
def rSortK : List V → Hp → VK → Prop := fun xs H Q => ∃ (a : Addr) (kvs : List (Key × V)) (ks : List Int), xs = [.ref a] ∧ Rd H a (.dK kvs) ∧ kvs.map (·.1) = ks.map Sum.inl ∧
  ∀ (ys : List Int) (p : Addr), ys.Perm ks → ys.Pairwise (· ≤ ·) → H p = none → Q (.ref p) (upd H p (.lst (ys.map V.int)))
theorem cr_sortK {X : Cx} (hcalm : X.calm = true) : CallR X (.builtin "sorted") rSortK := by
  intro pins s σ H xs us Q I r ⟨a, kvs, ks, ex, hd, hks, q⟩
  subst ex
  obtain ⟨u, eu, rx⟩ := vals1 r
  subst eu
  cases rx
  obtain ⟨z, lo, vs, rel, dd⟩ := dk_rd I.hok hd
  obtain ⟨ep, hat⟩ := dd.dictAt
  have hkeys : vs.map (·.1) = ks.map Sum.inl := rel.keys.symm.trans hks
  have hl : vs.length = ks.length := by simpa using congrArg List.length hkeys
  have hlk : kvs.length = ks.length := by simpa using congrArg List.length hks
  have h16 : vs.length ≤ sizeLine := by rw [hl, ← hlk]; exact z
  refine Calls.call_function_entry PyProof.Rows.kind_sorted PyProof.Rows.plain_sorted PyProof.Rows.entry_sorted (PyProof.Rows.args_sorted1 _) ?_
  unfold Builtin.«sorted»
  refine wpAny_bind (m := checkCount "sorted" 1 1 _) (wpAny_pure ?_)
  refine wpAny_bind (PySem.W.kdu_collect (A := X.A.in1) (PySem.W.kdl_dict (knd := mixKind X.prog X.w) (kvs := vs) (ep := ep) lo) (I.ok.hd hcalm) hat h16 fun h' tk acc hk hacc => ?_)
  have hal : acc.toList.length = ks.length := by rw [Array.length_toList, hacc.1, hl]
  have hz : acc.toList.length ≤ sizeLine := by rw [hal, ← hl]; exact h16
  have hS : IntsAre acc.toList ks := ints_each hal fun j v e => by
    obtain ⟨k, x, e1, e2⟩ := hacc.2 j v (by rw [← Array.getElem?_toList]; exact e)
    have e3 : (ks.map Sum.inl)[j]? = some k := by rw [← hkeys, List.getElem?_map, e1]; rfl
    rw [List.getElem?_map] at e3
    obtain ⟨y, e4, e5⟩ := Option.map_eq_some_iff.mp e3
    subst e5
    rcases keyIs_shape (show keyIs (Sum.inl y) v = true from e2) with ⟨i, t, ek, ev⟩ | ⟨_, _, ek, _⟩
    · cases ek
      exact ⟨y, t, e4, ev⟩
    · cases ek
  have I1 : Inv X pins σ H { s with heap := h', toks := tk } := I.kept hk
  refine wpAny_bind (wpAny_newList ?_ hz)
  have hoL : (h'.push (seqObj "list" acc.toList.toArray 0)).get? h'.objs.size = some (seqObj "list" acc.toList.toArray 0) := Heap.get?_push_size _ rfl
  show wpAny _ _ _ _ _ { s with heap := h'.push (seqObj "list" acc.toList.toArray 0), toks := tk }
  refine wpAny_bind (wpAny_holding (wpAny_call_entry PyProof.Rows.slot_list_sort ⟨_, hoL, rfl⟩ PyProof.Rows.entry_list_sort
    (SrtO.list_sort_ord (s := { s with heap := h'.push (seqObj "list" acc.toList.toArray 0), toks := tk }) SrtO.swo_int hoL hz (fun h2 => SrtO.ints_sortable hS h2) fun out g1 g2 => ⟨_, rfl, ?_⟩) (PyProof.Rows.args_list_sort _)))
  obtain ⟨k1, k2, k3⟩ := SrtO.ints_out hS g1 g2
  obtain ⟨e', he'⟩ := PyProof.Rows.sortedHeap_at (vs := acc.toList) (out := out.toArray) hoL
  have hlen : ((out.map SrtO.iv).map V.int).length ≤ sizeLine := by
    rw [List.length_map, k2.length_eq, ← hal]
    exact hz
  refine wpAny_pure ⟨_, rfl, .ref h'.objs.size, upd H h'.objs.size (.lst ((out.map SrtO.iv).map V.int)), I1.laid (t' := tk) (fun b u e => ?_) (Nat.le_refl _)
    (show ObjOk X.prog X.w _ _ _ (.lst ((out.map SrtO.iv).map V.int)) from ⟨hlen, out, e', vals_of_ints k1, he'⟩), rfl, q _ _ k2 k3 (I1.hok.fresh (Nat.le_refl _))⟩
  have hb := Heap.lt_size e
  rw [PyProof.Rows.sortedHeap_old (Nat.ne_of_lt hb) (by rw [size_push']; exact Nat.lt_succ_of_lt hb)]
  exact Heap.get?_push_of_some _ e
end L2
namespace Fk
open PySem PySem.Spec PyProof.Rows L2
def oSortK : OA := fun ds st => match ds with
  | [d] => (match dicL d st with
    | some (_, kvs) => (match keysI kvs with
      | some ks => .ok (.lst ((sortI ks).map D.int)) st
      | none => .stuck)
    | none => .stuck)
  | _ => .stuck
def oSortLC : OA := fun ds st => match ds with
  | [d] => (match rdOf d st with
    | some xs => (match intsOf2 xs with
      | some ns => .ok (.ref st.length) (st ++ [.lst ((sortI ns).map D.int)])
      | none => .stuck)
    | none => .stuck)
  | _ => .stuck
section
variable {K : PySem.W.Frag} {T : List (Addr × Str)}
theorem sim_sortK : SimRA K T rSortK oSortK := fun E w H st vs ds Q r dv p => by
  cases dv with
  | nil => exact p.elim
  | cons dx rest =>
    rename_i x d _ _
    cases rest with
    | cons _ _ => exact p.elim
    | nil =>
      have p1 : Post K T E Dat w H (match dicL d st with
        | some (_, kvs) => (match keysI kvs with
          | some ks => .ok (.lst ((sortI ks).map D.int)) st
          | none => .stuck)
        | none => .stuck) Q := p
      cases q1 : dicL d st with
      | none => rw [q1] at p1; exact p1.elim
      | some jk =>
        obtain ⟨j, kvs⟩ := jk
        rw [q1] at p1
        dsimp only at p1
        cases q2 : keysI kvs with
        | none => rw [q2] at p1; exact p1.elim
        | some ks =>
          rw [q2] at p1
          obtain ⟨a, us, rfl, _, _, hH, hv⟩ := dic_at r dx q1
          refine ⟨a, us, ks, rfl, .inl hH, hv.1.trans (keysI_at q2), fun ys l h1 h2 hl => ?_⟩
          rw [sortI_unique h1 h2]
          exact p1.newL r (Dats.of_ints _) l hl
theorem sim_sortLC : SimRA K T (rSortedI K) oSortLC := fun E w H st vs ds Q r dv p => by
  cases dv with
  | nil => exact p.elim
  | cons dx rest =>
    rename_i x d _ _
    cases rest with
    | cons _ _ => exact p.elim
    | nil =>
      have p1 : Post K T E Dat w H (match rdOf d st with
        | some xs => (match intsOf2 xs with
          | some ns => .ok (.ref st.length) (st ++ [.lst ((sortI ns).map D.int)])
          | none => .stuck)
        | none => .stuck) Q := p
      cases q1 : rdOf d st with
      | none => rw [q1] at p1; exact p1.elim
      | some xs =>
        rw [q1] at p1
        dsimp only at p1
        cases q2 : intsOf2 xs with
        | none => rw [q2] at p1; exact p1.elim
        | some ns =>
          rw [q2] at p1
          obtain ⟨a, us, rfl, h1, h2⟩ := rd_at r dx q1
          rw [ints_at2 q2 h2] at h1
          refine ⟨a, ns, rfl, h1, fun ys l k1 k2 hl => ?_⟩
          rw [sortI_unique k1 k2]
          exact p1.newC r (Dats.of_ints _) l hl
end
theorem keysI_of : ∀ {kvs : List (Key × D)} {ks : List Int}, kvs.map (·.1) = ks.map Sum.inl → keysI kvs = some ks
  | [], [], _ => rfl
  | [], _ :: _, h => by cases h
  | _ :: _, [], h => by cases h
  | (a, b) :: r, k :: ks, h => by
    rw [List.map_cons, List.map_cons] at h
    injection h with h1 h2
    dsimp only at h1
    subst h1
    show (keysI r).map (k :: ·) = _
    rw [keysI_of h2]
    rfl
theorem oSortK_ref {k : Nat} {kvs : List (Key × D)} {ks : List Int} {st : Store} (h : st[k]? = some (.dic kvs)) (hk : kvs.map (·.1) = ks.map Sum.inl) : oSortK [.ref k] st = .ok (.lst ((sortI ks).map D.int)) st := by
  unfold oSortK
  dsimp only
  rw [dicL_ref h]
  dsimp only
  rw [keysI_of hk]
theorem oSortLC_of {d : D} {l : List Int} {st : Store} (h : rdOf d st = some (l.map D.int)) : oSortLC [d] st = .ok (.ref st.length) (st ++ [.lst ((sortI l).map D.int)]) := by
  unfold oSortLC
  dsimp only
  rw [h]
  dsimp only
  rw [intsOf2_map]
/-! ### len(a dict) -/
def oLenD : OA := fun ds st => match ds with
  | [d] => (match dicL d st with
    | some (_, kvs) => .ok (.int (kvs.length : Nat)) st
    | none => .stuck)
  | _ => .stuck
theorem sim_lenD {K : PySem.W.Frag} {T : List (Addr × Str)} : SimRA K T (fun xs H Q => ∃ a kvs, xs = [V.ref a] ∧ H a = some (.dK kvs) ∧ Q (.int kvs.length) H) oLenD := fun E w H st vs ds Q r dv p => by
  cases dv with
  | nil => exact p.elim
  | cons dx rest =>
    rename_i x d _ _
    cases rest with
    | cons _ _ => exact p.elim
    | nil =>
      have p1 : Post K T E Dat w H (match dicL d st with
        | some (_, kvs) => .ok (.int (kvs.length : Nat)) st
        | none => .stuck) Q := p
      cases q1 : dicL d st with
      | none => rw [q1] at p1; exact p1.elim
      | some jk =>
        obtain ⟨j, kvs⟩ := jk
        rw [q1] at p1
        obtain ⟨a, us, rfl, _, _, hH, hv⟩ := dic_at r dx q1
        have hl : us.length = kvs.length := by simpa using congrArg List.length hv.1
        refine ⟨a, us, rfl, hH, ?_⟩
        rw [hl]
        exact p1.here r (.int _)
theorem oLenD_ref {k : Nat} {kvs : List (Key × D)} {st : Store} (h : st[k]? = some (.dic kvs)) : oLenD [.ref k] st = .ok (.int (kvs.length : Nat)) st := by
  unfold oLenD
  dsimp only
  rw [dicL_ref h]
end Fk
/-! FkZo: errors that bear a number: they are raised, told by kind and number. -/
namespace Fk
open PySem PySem.Spec PyProof.Rows L2
/-! ### what is said of such a class -/
def oexB (K : PySem.W.Frag) (C : Addr) : Bool := match K.lookup C with
  | some ⟨.type "type", _, .cls cd, sl⟩ => (match cd.mro, sl.toList with
    | .ref C' :: bm, [_, _, _, _, some (.builtin n), _] => C' == C && n == "ValueError.__new__" && !cd.hasDel && cd.hasDict && PySem.HandSPX.refsVE bm
    | _, _ => false)
  | _ => false
/-- C: its own __init__ keeps the number as f -/
def numB (K : PySem.W.Frag) (C f : Str) : Bool :=
  oexB K (He.ga K C) && (He.eqO (PySem.W.findIn K (.ref (He.ga K C)) "__setattr__") (some (some (.builtin "object.__setattr__"))) && (decide (PySem.W.subIn K (.ref (He.ga K C)) (.type "BaseException") = some true) && (decide (PySem.W.typeIn K (.ref (He.ga K C)) = some (.type "type")) &&
  (PySem.W.keepIn K (.ref (He.ga K C)) && (He.eqO (PySem.W.findIn K (.ref (He.ga K C)) "__init__") (some (some (.ref (He.fAd K (C, some "__init__"))))) && (decide (PySem.W.typeIn K (.ref (He.fAd K (C, some "__init__"))) = some (.type "function")) &&
  (He.eqO (PySem.W.findIn K (.ref (He.ga K C)) f) (some none) && (He.eqO (PySem.W.specialIn K (.ref (He.ga K "KeepError")) "__getattribute__") (some (some (.builtin "type.__getattribute__"))) && (PySem.W.readsIn K (He.ga K "KeepError") (.type "type") &&
  (match PySem.W.findCls K (.ref (He.ga K "KeepError")) (.type "type") "__init__" with
    | some (.val (.builtin n)) => decide (n = "ValueError.__init__")
    | _ => false))))))))))
structure NumC (K : PySem.W.Frag) (C f : Str) : Prop where
  oex : OexC K (He.ga K C)
  ini : PySem.W.findIn K (.ref (He.ga K C)) "__init__" = some (some (.ref (He.fAd K (C, some "__init__"))))
  ity : PySem.W.typeIn K (.ref (He.fAd K (C, some "__init__"))) = some (.type "function")
  nof : PySem.W.findIn K (.ref (He.ga K C)) f = some none
  ks : PySem.W.specialIn K (.ref (He.ga K "KeepError")) "__getattribute__" = some (some (.builtin "type.__getattribute__"))
  kr : PySem.W.readsIn K (He.ga K "KeepError") (.type "type") = true
  ki : PySem.W.findCls K (.ref (He.ga K "KeepError")) (.type "type") "__init__" = some (.val (.builtin "ValueError.__init__"))
theorem oexB_ok {K : PySem.W.Frag} {C : Addr} (q : oexB K C = true) : ∃ nm q N bs bm sn sub ab col dd k0 k1 k2 k3 k5, K.lookup C = some (excClassObj nm q C N bs bm true sn sub ab col dd k0 k1 k2 k3 k5 "ValueError.__new__") ∧ PySem.HandSPX.refsVE bm = true := by
  unfold oexB at q
  split at q
  · rename_i dd cd sl ho
    split at q
    · rename_i C' bm k0 k1 k2 k3 n k5 hm hs
      simp only [Bool.and_eq_true, beq_iff_eq, Bool.not_eq_true'] at q
      obtain ⟨⟨⟨⟨e1, e2⟩, hdel⟩, hdict⟩, ht⟩ := q
      subst e1 e2
      obtain ⟨nm, bs, mro, ns, qn, hd, sn, sub, ab, col, del⟩ := cd
      dsimp only at hm hdel hdict
      subst hm hdel hdict
      have hsl : sl = #[k0, k1, k2, k3, some (.builtin "ValueError.__new__"), k5] := by
        obtain ⟨l⟩ := sl
        simp only at hs
        rw [hs]
      subst hsl
      exact ⟨nm, qn, ns, bs, bm, sn, sub, ab, col, dd, k0, k1, k2, k3, k5, ho, ht⟩
    · cases q
  · cases q
theorem numB_ok {K : PySem.W.Frag} {C f : Str} (h : numB K C f = true) : NumC K C f := by
  obtain ⟨h1, h⟩ := Bool.and_eq_true_iff.mp h
  obtain ⟨h2, h⟩ := Bool.and_eq_true_iff.mp h
  obtain ⟨h3, h⟩ := Bool.and_eq_true_iff.mp h
  obtain ⟨h4, h⟩ := Bool.and_eq_true_iff.mp h
  obtain ⟨h5, h⟩ := Bool.and_eq_true_iff.mp h
  obtain ⟨h6, h⟩ := Bool.and_eq_true_iff.mp h
  obtain ⟨h7, h⟩ := Bool.and_eq_true_iff.mp h
  obtain ⟨h8, h⟩ := Bool.and_eq_true_iff.mp h
  obtain ⟨h9, h⟩ := Bool.and_eq_true_iff.mp h
  obtain ⟨h10, h11⟩ := Bool.and_eq_true_iff.mp h
  refine ⟨⟨oexB_ok h1, He.eqO_ok h2, of_decide_eq_true h3, of_decide_eq_true h4, h5⟩, He.eqO_ok h6, of_decide_eq_true h7, He.eqO_ok h8, He.eqO_ok h9, h10, ?_⟩
  split at h11
  · rename_i n e
    rw [e, of_decide_eq_true h11]
  · cases h11
/-! ### its own __init__ -/
section
variable {X : Cx} {e : Expr} {es : List Expr} {ta : TA} {p1 p2 pos : Pos} {C f : Str}
/-- KeepError.__init__(self, ..): nothing of it is told -/
theorem pe_keinit {pl : Sem Bool} (N : NumC X.K C f) (hg : Gl X "KeepError") (hm : X.mg "KeepError" = some (.ref (He.ga X.K "KeepError"))) (ha : PA X (e :: es) ta)
    (hc : eval (.Call (.Attribute (.Name "KeepError" p1) "__init__" p2) (e :: es) [] pos) X.env = (do
      let ov ← eval (.Name "KeepError" p1) X.env
      standAt p2.atName
      let (f, first) ← holding [ov] (getMethod ov "__init__" pl)
      callWith pos f first (backTo pos (starEach (e :: es) X.env)) (backToKw pos (keywordEach [] X.env))) := by rfl)
    (he : starEach (e :: es) X.env = (false, eval e X.env) :: starEach es X.env := by rfl) (hpl : (backTo pos (starEach es X.env)).any (·.1) = false := by rfl) :
    PE X (.Call (.Attribute (.Name "KeepError" p1) "__init__" p2) (e :: es) [] pos) (tVeI X.K ta) := by
  refine ⟨fun pins s σ H Q I h => ?_⟩
  refine PySem.W.methodCall_KW (ld_glob I hg hm ?_ (by decide)) hc
  refine PySem.W.method_cls I.kIn N.ks (PySem.W.cls_value I.kIn N.kr N.ki (by decide +kernel) ?_)
  show wpAny _ _ (callWith pos (Value.builtin "ValueError.__init__") [] (backTo pos (starEach (e :: es) X.env)) []) _ _ _
  refine PyProof.Rows.callWith_method1 (thn (ha.run pos pins _ σ H _ (I.tok _) h) fun us s1 ⟨vs, H1, I1, r1, a, C, ws, ev, hl, T, ea, q⟩ => ?_) he hpl
  subst ev
  cases r1 with
  | @cons _ u0 _ ur ra rw' =>
    obtain rfl : u0 = Value.ref a := ra
    have hlen : ur.length ≤ sizeLine := by
      rw [← Paired.length rw', sizeLine_eq]
      omega
    exact oinit_ok T I1 ea hlen fun s' J => ⟨.non, H1, J, rfl, q⟩
end
/-- what it does: the new thing's dict is made -/
def spI (K : PySem.W.Frag) (C f : Str) : Sp := fun vs H Q _ => ∃ (a : Addr) (n : Int), vs = [.ref a, .int n] ∧ H a = some (exo a (He.ga K C) none) ∧ ∀ d, H d = none → d ≠ a → Q .non (upd (upd H d (exd d [(f, .int n)])) a (exo a (He.ga K C) (some d)))
structure NumI (P : Program) (w : World) (K : PySem.W.Frag) (mg : Str → Option Value) (base : Heap) (k : Nat) (C f : Str) : Prop where
  fn : ∃ fd, FnOk P w K mg base (L2.CX P w) k (He.fAd K (C, some "__init__")) fd ["self", f] (spI K C f) ∧ Binds K fd ["self", f] []
section
variable {P : Program} {w : World} {K : PySem.W.Frag} {mg : Str → Option Value} {base : Heap} {params : Arguments} {scope : Scope} {fd : FuncData} {k : Nat} {C f m name qual : Str} {body : List Stmt}
theorem num_init (N : NumC K C f) (F : FunD K name qual params body scope [] [] (He.fAd K (C, some "__init__")) fd)
    (S : FnScope ["self", f] ["self", f] scope) (hb : Binds K fd ["self", f] [])
    (h : ∀ (cdv : Value) (A : Around) (outer : List Env) (s : Shared) (H : Hp) (E : XK), Room k (A.deeper (envOfC qual scope s.heap.objs.size (He.fAd K (C, some "__init__")) cdv)) →
      PSs (cxOf (L2.CX P w) P w K mg base ["self", f] qual scope (He.fAd K (C, some "__init__")) cdv A outer s H E) body (tSeq (tDrop (tVeI K (tCons (tVar 0) (tCons (tC (.str m)) tNil)))) (tOst K f (tVar 0) (tVar 1)))) :
    NumI P w K mg base (k + 1) C f := by
  obtain ⟨oc, od, dV, kV, doc, pm, an, cdv, ct, osl, rfl, lk, hcd', _, _⟩ := F.ex
  refine ⟨⟨_, fn_of lk hcd' S (fun vs H Q E ⟨a, n, e, _⟩ => by rw [e]; rfl) fun A outer s H vs Q E hr ⟨a, n, ev, ha, q⟩ => ?_, hb⟩⟩
  subst ev
  refine ⟨_, h _ A outer s H E hr, ?_⟩
  refine ⟨.ref a, rfl, a, He.ga K C, [.str m], rfl, by show 1 ≤ 1000; omega, N.oex, ha, ?_⟩
  exact ⟨.int n, rfl, .ref a, rfl, a, He.ga K C, rfl, N.oex, N.nof, .inl ⟨ha, fun dx hn hne => q dx hn hne⟩⟩
end
/-! ### raised -/
def fRaiseN (c f : Str) (g : LA) : LS := fun env st => (g env st).go env fun ds st1 => match ds with
  | [.int n] => .ex ⟨c, some (f, n)⟩ env st1
  | _ => .stuck
section
variable {X : Cx} {T : List (Addr × Str)} {E : XK} {c f : Str} {e : Expr} {g : LA} {p apos pos : Pos} {k j : Nat}
theorem s_raiseN (N : NumC X.K c f) (I : NumI X.prog X.w X.K X.mg X.base k c f) (hr : Room j X.A) (hc : X.calm = true) (tk : Takes X (W0 E)) (hm : X.mg c = some (.ref (He.ga X.K c))) (ha : PAf X T E [e] g) (hjk : k + 1 ≤ j := by decide) (hg : Gl X c := by rfl) (hdb : (c == ("__debug__" : Str)) = false := by decide)
    (he : starEach [e] X.env = (false, eval e X.env) :: starEach [] X.env := by rfl) (hpl : (backTo apos (starEach [] X.env)).any (·.1) = false := by rfl) :
    PSf X T (W0 E) (.Raise (some (.Call (.Name c p) [e] [] apos)) none pos) (fRaiseN c f g) := by
  obtain ⟨fd, F1, hb⟩ := I.fn
  refine ps_to (ps_raise hc tk (pmk_oex N.oex N.ini N.ity F1 (hr.mono hjk) hb .nil (px_any LamX.takes0) hg hm ha hdb he hpl)) fun w σ H env st Dn he r p => ?_
  refine ⟨w, env, st, he, r, PostS.go (rel := Dats) (fun _ _ _ h => h) he p fun w1 vs H1 ds st1 s1 r1 dx p1 => ?_⟩
  match ds, p1, dx with
  | [.int n], p1, dx =>
    cases dx with
    | cons d1 d2 =>
      cases d1
      cases d2
      refine ⟨by show 1 ≤ 1000; omega, fun a hn => ⟨a, n, rfl, upd_same, fun d hd hne => ?_⟩⟩
      have hd1 : H1 d = none := by rw [upd_ne hne] at hd; exact hd
      refine ⟨rfl, d, [(f, .int n)], upd_same, by rw [upd_ne hne, upd_same], hd1, ?_⟩
      have eH : upd (del (upd (upd (upd H1 a (exo a (He.ga X.K c) none)) d (exd d [(f, .int n)])) a (exo a (He.ga X.K c) (some d))) a) d (.xd [(f, .int n)]) = upd H1 d (.xd [(f, .int n)]) := by
        funext b
        by_cases z : b = d
        · rw [z, upd_same, upd_same]
        · rw [upd_ne z, upd_ne z]
          by_cases y : b = a
          · rw [y, del_same, hn]
          · rw [del_ne y, upd_ne y, upd_ne z, upd_ne y]
      rw [eH]
      have at_ : ∀ b u, H1 b = some u → upd H1 d (.xd [(f, .int n)]) b = some u := fun b u q => by rw [upd_ne (ne_of_none q hd1)]; exact q
      have x := LamX.ExtN.of at_
      exact p1 w1 _ (some d) σ _ (Stp.extN x) (he.mono s1.le) (r1.extN x (r1.tabs.ext at_)) ⟨rfl, d, rfl, upd_same⟩
end
@[simp] theorem fRaiseN_int (c f : Str) (fe : LE) (env : DEnv) (st : Store) : fRaiseN c f (fCons fe fNil) env st = (fe env st).go env fun d st1 => match d with
  | .int n => .ex ⟨c, some (f, n)⟩ env st1
  | _ => .stuck := by
  unfold fRaiseN fCons fNil
  cases fe env st with
  | ok d s =>
    cases d <;> rfl
  | ex _ _ => rfl
  | stuck => rfl
end Fk
/-! FkZp: the kind of a refusal that bears a number. -/
namespace PySem.W
open PySem PySem.Spec PySem.Calls PyProof.Rows
section
variable {prog : Program} {w : World} {A : Around} {E : Value → Shared → Prop} {s : Shared} {K : Frag} {x D : Addr} {ox : Obj} {od : Option Obj}
theorem findObj_dataO {C : Addr} {name : Str} {a g : Value} (hc : (clsIn K C).isSome = true) (ha : findIn K (.ref C) name = some (some a)) (hg : specialIn K a "__get__" = some (some g)) (ht : takesIn K a = some true) : findObj K C od name = some (.bind g a) := by
  obtain ⟨cd, hc⟩ := Option.isSome_iff_exists.mp hc
  unfold findObj
  rw [hc, Option.bind_some, ha, Option.bind_some]
  simp [hg, ht]
theorem kin_classO {Q : Option Value → Shared → Prop} (C : L2.ExcC K D) (X : K.In s.heap) (I : InstAt s.heap x ox D od) (h : Q (some (.ref D)) { s with toks := s.toks + 1 }) : wpAny (model prog w) A (getAttr? (.ref x) "__class__") Q E s := by
  have hf : findObj K D od "__class__" = some (.bind (.builtin "getset_descriptor.__get__") (.builtin "object.__class__")) := findObj_dataO (by obtain ⟨cd, hc, _⟩ := any_some C.hd; rw [hc]; rfl) C.ha C.hn C.ht
  obtain ⟨hp, g, d, t, os⟩ := s
  have L0 := I.type (M := model prog w)
  have L1 := looks_findIn (M := model prog w) X C.hg
  have L2 := looks_findIn (M := model prog w) X C.hk
  have L3 := looks_find (M := model prog w) X I hf
  have sub : Looks (model prog w) hp (isInstance (.ref x) (.type "BaseException")) true := L0.andThen (looks_subIn X C.hs)
  have nb : (Value.builtin "BaseException.__getattribute__" == Value.builtin "object.__getattribute__") = false := by decide +kernel
  have hx1 : (onTheHeap (Value.ref D) && Value.builtin "BaseException.__getattribute__" == Value.builtin "object.__getattribute__") = false := by rw [nb]; rfl
  have hx0 : (false && onTheHeap (Value.builtin "BaseException.__getattribute__")) = false := rfl
  unfold getAttr? getAttrBy? getAttrBy
  refine wpAny_bind (wpAny_mkText (wpAny_bind (wpAny_attempt (wpAny_holding (wpAny_bind (L0.at (wpAny_bind (L1.at ?_))))))))
  show wpAny _ _ (if (onTheHeap (Value.ref D) && Value.builtin "BaseException.__getattribute__" == Value.builtin "object.__getattribute__") = true then _ else _) _ _ _
  rw [hx1, if_neg Bool.false_ne_true]
  unfold getAttrByItsOwn hookBefore
  refine wpAny_bind ?_
  rw [if_pos (show onTheHeap (Value.ref D) = true from rfl)]
  refine L2.at ?_
  refine wpAny_bind (wpAny_attempt (wpAny_holding ?_))
  unfold callGetattribute
  rw [hx0, if_neg Bool.false_ne_true]
  unfold boundAndCalled
  rw [PySem.F.excAttr_ValueError.ga.bind (.ref x)]
  refine wpAny_bind (wpAny_pure ?_)
  show wpAny _ _ (call (.builtin "BaseException.__getattribute__") [.ref x, .str "__class__" t]) _ _ _
  refine wpAny_call (codeAny_call_builtin PySem.F.excAttr_ValueError.ga.plain PySem.F.entry_bexc_ga ?_)
  refine @check_slot (model prog w) _ _ ⟨hp, g, d, t + 1, os⟩ "BaseException.__getattribute__" "BaseException" "__getattribute__" (.ref x) [.str "__class__" t] [] _ (by decide +kernel) (by decide +kernel) sub (PySem.F.args_bexc_ga (.ref x) (.str "__class__" t)) ?_
  unfold Builtin.«object.__getattribute__»
  refine wpAny_bind (wpAny_of_eq (a := ((Value.ref x : Value), [Value.str "__class__" t])) (by first | rfl | (simp only [slotArgs]; rfl)) ?_)
  refine wpAny_bind (wpAny_pure (wpAny_bind (L0.at (wpAny_bind (L3.at ?_)))))
  show wpAny _ _ (holding [Value.builtin "object.__class__"] (call (.builtin "getset_descriptor.__get__") [.builtin "object.__class__", .ref x, .ref D]) >>= ret) _ _ _
  refine wpAny_bind (wpAny_holding (wpAny_call (class_get (s := ⟨hp, g, d, t + 1, os⟩) (ox := ox) (od := od) X I C.hm ?_)))
  refine wpAny_pure ?_
  show wpAny _ _ (handedOut (.ref D)) _ _ _
  rw [handedOut_of (v := .ref D) rfl]
  first
    | exact wpAny_pure (wpAny_pure h)
    | exact wpAny_pure h
    | exact wpAny_pure (wpAny_bind (wpAny_pure (wpAny_pure h)))
theorem kitx_O (C : L2.ExcC K D) : KitX K (.ref x) (.ref D) (fun h => ∃ od, InstAt h x ox D od) where
  ty := fun _ _ _ ⟨_, I⟩ => I.type
  it := fun _ _ X _ => by
    obtain ⟨cdD, hcD, _⟩ := any_some C.hd
    unfold clsIn at hcD
    split at hcD
    · rename_i c' d' cd' sl' ho
      intro A' Q' E' s' k q
      unfold isType loadHead
      exact wpAny_bind (wpAny_loadPart (k _ _ (X _ _ ho)) (wpAny_pure q))
    · cases hcD
  ne := fun h tp dd its n sl X htp => by
    obtain ⟨cdD, hcD, _⟩ := any_some C.hd
    refine Bool.eq_false_iff.mpr fun q => ?_
    have e : D = tp := Value.ref.inj (beq_iff_eq.mp q)
    subst e
    unfold clsIn at hcD
    split at hcD
    · rename_i c' d' cd' sl' ho
      have z := (X _ _ ho).symm.trans htp
      cases z
    · cases hcD
  ca := fun X ⟨_, I⟩ k => kin_classO C X I k
end
end PySem.W
namespace L2
open PySem PySem.Spec PyProof.Rows
def rIsN (K : PySem.W.Frag) (D a dd : Addr) : List V → Hp → VK → Prop := fun xs H Q => (∃ fs, H dd = some (.xd fs)) ∧ rIsE K D a xs H Q
theorem call_isN {X : Cx} {a D dd : Addr} {oe : Obj} {pn : List (Addr × Obj)} (C : ExcC X.K D) (hz : Zc (.ref D) (some dd) oe) (hf : ∃ vs, oe.data = .fields vs) : CallR (X.suite a ((a, oe) :: pn)) (.builtin "isinstance") (rIsN X.K D a dd) := by
  intro pins s σ H xs us Q I r h
  obtain ⟨⟨fs, hd⟩, c, cv, b, rfl, hcv, e, q⟩ := h
  cases r with
  | cons rx rr =>
    cases rr with
    | cons rt rr =>
      cases rr
      cases rx
      have ec := hcv _ rt
      subst ec
      obtain ⟨hget, _⟩ := I.pin (a, oe) (List.mem_append.mpr (.inl List.mem_cons_self))
      obtain ⟨vs, hv⟩ := hf
      obtain ⟨mA, hns, _⟩ := (show ObjOk X.prog X.w H s.heap dd (.xd fs) from I.hok dd _ hd)
      obtain ⟨od, ho, _⟩ := lookIn_ns hns
      have J : PySem.W.InstAt s.heap a oe D (some od) := ⟨hget, hz.1, by unfold PySem.W.notCls; rw [hv] <;> rfl, by rw [hz.2]; exact ho⟩
      exact PySem.W.kia_one (PySem.W.kitx_O C) I.kIn ⟨_, J⟩ e (fun z => nomatch z) fun tk => ⟨.bl b, H, I.kept (t' := tk) fun _ _ z => z, rfl, q⟩
end L2
namespace Fk
open PySem PySem.Spec PyProof.Rows L2
def tIsN (i : Nat) (a dd : Addr) (b : Bool) : TE := fun σ H Q => σ[i]? = some (some (.ref a)) ∧ (∃ fs, H dd = some (.xd fs)) ∧ Q (.bl b) H
section
variable {X : Cx} {a dd : Addr} {oe : Obj} {pn : List (Addr × Obj)} {i : Nat} {C D e : Str} {p p1 p2 pos : Pos}
/-- what is said of a class, with a number or none -/
structure KindN (K : PySem.W.Frag) (C : Str) : Prop where
  mem : C ∈ kAll
  exc : ExcC K (He.ga K C)
  kit : ∀ D ∈ kAll, PySem.W.kitOne K (.ref (He.ga K C)) (.ref (He.ga K D)) = some (C == D)
  ve : PySem.W.kitOne K (.ref (He.ga K C)) (.type "ValueError") = some true
  exm : PySem.W.exmOne K (.ref (He.ga K C)) (.ref (He.ga K "KeepError")) = some true
theorem pe_isN (hz : Zc (.ref (He.ga X.K C)) (some dd) oe) (hf : ∃ vs, oe.data = .fields vs) (kc : KindN X.K C) (hD : D ∈ kAll) (hm : X.mg "isinstance" = none) (hmD : X.mg D = some (.ref (He.ga X.K D)))
    (hN : X.N[i]? = some e := by rfl) (hv : Vis X.env.scope e := by first | exact Or.inl rfl | exact Or.inr (Or.inl rfl) | exact Or.inr (Or.inr rfl)) (hg : Gl X "isinstance" := by rfl) (hg2 : Gl X D := by rfl) (hd : (e == ("__debug__" : Str)) = false := by decide) (hcd : (e == ("__classdict__" : Str)) = false := by decide) (hdb : (D == ("__debug__" : Str)) = false := by decide)
    (he : starEach [.Name e p1, .Name D p2] X.env = (false, eval (.Name e p1) X.env) :: starEach [.Name D p2] X.env := by rfl) (he2 : starEach [.Name D p2] X.env = (false, eval (.Name D p2) X.env) :: starEach [] X.env := by rfl) (hpl : (backTo pos (starEach [.Name D p2] X.env)).any (·.1) = false := by rfl) :
    PE (X.suite a ((a, oe) :: pn)) (.Call (.Name "isinstance" p) [.Name e p1, .Name D p2] [] pos) (tIsN i a dd (C == D)) :=
  pe_imp (pe_callB (X := X.suite a ((a, oe) :: pn)) (call_isN kc.exc hz hf) hg hm (by decide +kernel) (pa_cons (pe_var (i := i) hN hv hd hcd) (pa_cons (pe_glob (v := .ref (He.ga X.K D)) hg2 hmD rfl hdb) pa_nil he2) he) (by decide) (by decide) he hpl)
    fun σ H Q h => ⟨.ref a, h.1, h.2.1, ⟨.ref (He.ga X.K D), .ref (He.ga X.K D), C == D, rfl, fun u r => r, kc.kit D hD, h.2.2⟩⟩
theorem pe_isNV (hz : Zc (.ref (He.ga X.K C)) (some dd) oe) (hf : ∃ vs, oe.data = .fields vs) (kc : KindN X.K C) (hm : X.mg "isinstance" = none) (hmV : X.mg "ValueError" = none)
    (hN : X.N[i]? = some e := by rfl) (hv : Vis X.env.scope e := by first | exact Or.inl rfl | exact Or.inr (Or.inl rfl) | exact Or.inr (Or.inr rfl)) (hg : Gl X "isinstance" := by rfl) (hg2 : Gl X "ValueError" := by rfl) (hd : (e == ("__debug__" : Str)) = false := by decide) (hcd : (e == ("__classdict__" : Str)) = false := by decide)
    (he : starEach [.Name e p1, .Name "ValueError" p2] X.env = (false, eval (.Name e p1) X.env) :: starEach [.Name "ValueError" p2] X.env := by rfl) (he2 : starEach [.Name "ValueError" p2] X.env = (false, eval (.Name "ValueError" p2) X.env) :: starEach [] X.env := by rfl) (hpl : (backTo pos (starEach [.Name "ValueError" p2] X.env)).any (·.1) = false := by rfl) :
    PE (X.suite a ((a, oe) :: pn)) (.Call (.Name "isinstance" p) [.Name e p1, .Name "ValueError" p2] [] pos) (tIsN i a dd true) :=
  pe_imp (pe_callB (X := X.suite a ((a, oe) :: pn)) (call_isN kc.exc hz hf) hg hm (by decide +kernel) (pa_cons (pe_var (i := i) hN hv hd hcd) (pa_cons (pe_bltn (v := .ty "ValueError") hg2 hmV (by decide +kernel) rfl) pa_nil he2) he) (by decide) (by decide) he hpl)
    fun σ H Q h => ⟨.ref a, h.1, h.2.1, ⟨.ty "ValueError", .type "ValueError", true, rfl, fun u r => r, kc.ve, h.2.2⟩⟩
end
/-! ### the suite that tells the kind and the number -/
def kNm : List Str := ["BadDeed", "BadWrites", "BadHall"]
def tKN (a dd : Addr) (C : Str) : List Str → TA
  | [] => tNil
  | D :: r => tCons (tIsN 1 a dd (C == D)) (tKN a dd C r)
noncomputable def fWd : LE := fOp oIx (fVar 3) (fBM isL oIdx (fVar 2) (fCons (fC (.bl true)) fNil))
noncomputable def fInW : LT := fTest (fOp (oIn false) (fVar 4) (fTup (fCons (fC (.str "BadDeed")) (fCons (fC (.str "BadWrites")) (fCons (fC (.str "BadHall")) fNil)))))
def tNone9 : TS := fun _ _ _ => False
theorem pss_none9 {X : Cx} {ss : List Stmt} : PSs X ss tNone9 := ⟨fun _ _ _ _ _ _ h => h.elim⟩
def tSuiteN (K : PySem.W.Frag) (T : List (Addr × Str)) (E : XK) (a dd : Addr) (C : Str) : TS :=
  tSeq (tAsg (tLst (tKN a dd C ["BadCells", "BadDeed", "BadCount", "TooMany"])) (gName 2))
  (tSeq (tAsg (tOp rCat (tVar 2) (tLst (tKN a dd C ["Broken", "BadSaying", "BadCell"]))) (gName 2))
  (tSeq (tAsg (tOp rCat (tVar 2) (tLst (tKN a dd C ["BadWorth", "Gone", "BadKey", "BadRoot"]))) (gName 2))
  (tSeq (tAsg (tOp rCat (tVar 2) (tLst (tKN a dd C ["Full", "Busy", "NoBlock", "BadWrites"]))) (gName 2))
  (tSeq (tAsg (tOp rCat (tVar 2) (tLst (tKN a dd C ["BadHall", "BadText"]))) (gName 2))
  (tSeq (tAsg (tLst (tW ["BadCells", "BadDeed", "BadCount", "TooMany", "Broken", "BadSaying", "BadCell", "BadWorth", "Gone"])) (gName 3))
  (tSeq (tAsg (tOp rCat (tVar 3) (tLst (tW ["BadKey", "BadRoot", "Full", "Busy", "NoBlock", "BadWrites", "BadHall", "BadText"]))) (gName 3))
  (tSeq (tIfS (tOr (tOf K T E eqB fA) (tNot (tB (tIsN 1 a dd true)))) (tRet (tC (.str "other"))) tNext)
  (tSeq (tAsg (tOf K T E Dat fWd) (gName 4))
  (tSeq (tIfS (tOf K T E eqB fInW) (tRet (tTup (tCons (tVar 4) (tCons (tXf a (.ref (He.ga K C)) (some dd) (He.ga K C) "number" (tVar 1)) tNil)))) tNext)
  tNone9)))))))))
theorem tKN_ans {a dd : Addr} {C : Str} : ∀ {l : List Str} {σ : L2.St} {H : Hp} {Q : List V → Hp → Prop}, σ[1]? = some (some (.ref a)) → (∃ fs, H dd = some (.xd fs)) → Q (l.map fun D => V.bl (C == D)) H → tKN a dd C l σ H Q
  | [], _, _, _, _, _, q => q
  | D :: r, _, _, _, h, hd, q => ⟨h, hd, tKN_ans (l := r) h hd q⟩
theorem fWd_at {C : Str} (hC : C ∈ kAll) (o0 o1 o4 : Option D) : fWd [o0, o1, some (.lst (kAll.map fun x => D.bl (C == x))), some (.lst (kAll.map D.str)), o4] [] = .ok (.str C) [] := by
  obtain ⟨h1, h2, h3, h4⟩ := kinds_of C hC
  have hc : oIdx (.lst (kAll.map fun x => D.bl (C == x))) [.bl true] [] = .ok (.int (kIx C)) [] := by
    have e : oIdx (.lst (kAll.map fun x => D.bl (C == x))) [.bl true] [] = (if flatD (.bl true) = true ∧ (kAll.map fun x => D.bl (C == x)).all flatD = true then (match idxF (.bl true) (kAll.map fun x => D.bl (C == x)) with
      | some j => Res.ok (.int ((j : Nat) : Int)) []
      | none => .stuck) else .stuck) := rfl
    rw [e, if_pos ⟨rfl, rfl⟩, h1]
  have hb : ∀ o g env, kBM1 isL o g env (.lst (kAll.map fun x => D.bl (C == x))) [] = (g env []).bind (o (.lst (kAll.map fun x => D.bl (C == x)))) := fun _ _ _ => rfl
  have hx : atI (kAll.map D.str) (kIx C : Int) = some (.str C) := by
    have hl : kIx C < kAll.length := (List.getElem?_eq_some_iff.mp h2).1
    rw [atI_nat (by rw [List.length_map]; exact hl), List.getElem?_map, h2]
    rfl
  generalize kAll.map (fun x => D.bl (C == x)) = L at *
  generalize kAll.map D.str = M at *
  unfold fWd
  simp [hb, hc, hx]
theorem fInW_at {C : Str} (hC : C ∈ kNm) (o0 o1 o2 o3 : Option D) : fInW [o0, o1, o2, o3, some (.str C)] [] = .ok true [] := by
  have hin : oIn false (.str C) (.tup [.str "BadDeed", .str "BadWrites", .str "BadHall"]) [] = .ok (.bl true) [] := by
    show (if flatD (.str C) = true ∧ [D.str "BadDeed", D.str "BadWrites", D.str "BadHall"].all flatD = true then Res.ok (D.bl ([D.str "BadDeed", D.str "BadWrites", D.str "BadHall"].any fun z => eqFlat z (.str C))) [] else .stuck) = _
    rw [if_pos ⟨rfl, rfl⟩]
    have : ∀ C ∈ kNm, ([D.str "BadDeed", D.str "BadWrites", D.str "BadHall"].any fun z => eqFlat z (.str C)) = true := by decide +kernel
    rw [this C hC]
  unfold fInW
  simp [hin]
/-- the classes that bear a number, and under which name -/
def kNf : List Str := ["BadDeed", "BadWrites", "BadHall", "BadText"]
def kFl (C : Str) : Str := if C = "BadText" then "row" else "number"
theorem kNm_num : ∀ C ∈ kNf, C ∈ kNum := by decide
theorem kNm_all : ∀ C ∈ kNm, C ∈ kAll := by decide
theorem kNf_nm {C : Str} (h : C ∈ kNf) (n : C ≠ "BadText") : C ∈ kNm ∧ kFl C = "number" := by
  refine ⟨?_, if_neg n⟩
  have : ∀ C ∈ kNf, C ≠ "BadText" → C ∈ kNm := by decide
  exact this C h n
theorem suite_ansN {K : PySem.W.Frag} {T : List (Addr × Str)} {E : XK} {C : Str} (hC : C ∈ kNm) {a dd : Addr} {n : Int} (u0 u2 u3 u4 : Option V) {H0 : Hp} {D0 : Ends} (hdd : H0 dd = some (.xd [("number", .int n)])) (hT : LamX.Tabs T H0)
    (hq : ∀ H' p, LamX.ExtN H0 H' → LamX.Tabs T H' → Fre H0 p → H' p = some (.tup [.str C, .int n]) → D0.rt (.ref p) H') : tSuiteN K T E a dd C D0 [u0, some (.ref a), u2, u3, u4] H0 := by
  unfold tSuiteN tSeq tAsg gName
  refine lst_ans (ys := (["BadCells", "BadDeed", "BadCount", "TooMany"] : List Str).map fun x => V.bl (C == x)) (fun Q' q => tKN_ans rfl ⟨_, hdd⟩ q) (by simp) fun p1 H1 x1 y1 => ?_
  refine cat_ans (ys := (["Broken", "BadSaying", "BadCell"] : List Str).map fun x => V.bl (C == x)) (fun Q' q => tKN_ans rfl ⟨_, x1 _ _ hdd⟩ q) rfl y1 (by simp) fun p2 H2 x2 y2 => ?_
  refine cat_ans (ys := (["BadWorth", "Gone", "BadKey", "BadRoot"] : List Str).map fun x => V.bl (C == x)) (fun Q' q => tKN_ans rfl ⟨_, x2 _ _ (x1 _ _ hdd)⟩ q) rfl y2 (by simp) fun p3 H3 x3 y3 => ?_
  refine cat_ans (ys := (["Full", "Busy", "NoBlock", "BadWrites"] : List Str).map fun x => V.bl (C == x)) (fun Q' q => tKN_ans rfl ⟨_, x3 _ _ (x2 _ _ (x1 _ _ hdd))⟩ q) rfl y3 (by simp) fun p4 H4 x4 y4 => ?_
  refine cat_ans (ys := (["BadHall", "BadText"] : List Str).map fun x => V.bl (C == x)) (fun Q' q => tKN_ans rfl ⟨_, x4 _ _ (x3 _ _ (x2 _ _ (x1 _ _ hdd)))⟩ q) rfl y4 (by simp) fun p5 H5 x5 y5 => ?_
  dsimp only
  refine lst_ans (ys := (["BadCells", "BadDeed", "BadCount", "TooMany", "Broken", "BadSaying", "BadCell", "BadWorth", "Gone"] : List Str).map V.str) (fun Q' q => tW_ans q) (by simp) fun p6 H6 x6 y6 => ?_
  refine cat_ans (ys := (["BadKey", "BadRoot", "Full", "Busy", "NoBlock", "BadWrites", "BadHall", "BadText"] : List Str).map V.str) (fun Q' q => tW_ans q) rfl y6 (by simp) fun p7 H7 x7 y7 => ?_
  have y5' : H7 p5 = some (.lst (kAll.map fun x => V.bl (C == x))) := (x6.trans x7) _ _ y5
  have y7' : H7 p7 = some (.lst (kAll.map V.str)) := y7
  let w : Wd := ⟨fun p => if p = p5 then some (.lst (kAll.map fun x => V.bl (C == x))) else if p = p7 then some (.lst (kAll.map V.str)) else none, [], fun _ => none⟩
  have xs : Ext H0 H7 := (((((x1.trans x2).trans x3).trans x4).trans x5).trans x6).trans x7
  have wF : ∀ b o, w.F b = some o → (b = p5 ∧ o = .lst (kAll.map fun x => V.bl (C == x))) ∨ (b = p7 ∧ o = .lst (kAll.map V.str)) := fun b o h => by
    have h' : (if b = p5 then some (HO.lst (kAll.map fun x => V.bl (C == x))) else if b = p7 then some (.lst (kAll.map V.str)) else none) = some o := h
    by_cases e1 : b = p5
    · rw [if_pos e1] at h'
      exact .inl ⟨e1, (Option.some.inj h').symm⟩
    · rw [if_neg e1] at h'
      by_cases e2 : b = p7
      · rw [if_pos e2] at h'
        exact .inr ⟨e2, (Option.some.inj h').symm⟩
      · rw [if_neg e2] at h'
        cases h'
  have r : Rel K T w H7 [] := ⟨fun b o h => by
      rcases wF b o h with ⟨rfl, rfl⟩ | ⟨rfl, rfl⟩
      · exact y5'
      · exact y7', rfl, List.nodup_nil, fun k c p h _ => (by cases h), hT.ext xs, fun p vs h => (by cases h), fun b ps h => by
      rcases wF b _ h with ⟨_, z⟩ | ⟨_, z⟩ <;> cases z⟩
  have d5 : Dat w (.ref p5) (.lst (kAll.map fun x => D.bl (C == x))) := .lst (by simp [w]) (bools_at kAll)
  have hne : p7 ≠ p5 := fun z => by
    rw [z, y5'] at y7'
    have : (kAll.map fun x => V.bl (C == x)) = kAll.map V.str := by
      have := Option.some.inj y7'
      injection this
    cases this
  have d7 : Dat w (.ref p7) (.lst (kAll.map D.str)) := .lst (by simp [w, hne]) (Dats.of_strs _)
  have he : EnvR w [u0, some (.ref a), some (.ref p5), some (.ref p7), u4] [none, none, some (.lst (kAll.map fun x => D.bl (C == x))), some (.lst (kAll.map D.str)), none] := by
    refine ⟨rfl, fun i d h => ?_⟩
    match i, h with
    | 0, h => cases h
    | 1, h => cases h
    | 2, h => cases h; exact ⟨_, rfl, d5⟩
    | 3, h => cases h; exact ⟨_, rfl, d7⟩
    | 4, h => cases h
    | n + 5, h => cases h
  have ka : ∀ b o, H0 b = some o → KA w H7 b o := fun b o h => ⟨xs b o h, fun z => nomatch z⟩
  refine ⟨w, _, [], he, r, ?_⟩
  rw [fA_at (kNm_all C hC)]
  intro w1 c1 H8 s8 r8 e8
  cases (show c1 = false from e8)
  show (if false = true then _ else _)
  have hd8 : H8 dd = some (.xd [("number", .int n)]) := ((ka _ _ hdd).stp s8 (by intro _ z; cases z)).1
  refine ⟨rfl, ⟨_, hd8⟩, true, rfl, ?_⟩
  show (if (!true) = true then _ else _)
  refine ⟨w1, _, [], he.mono s8.le, r8, ?_⟩
  rw [fWd_at (kNm_all C hC)]
  intro w2 v H9 s9 r9 dv
  cases dv
  refine ⟨w2, _, [], ((he.mono s8.le).mono s9.le).set 4 (.str C), r9, ?_⟩
  show Post K T E eqB w2 H9 (fInW [none, none, some (.lst (kAll.map fun x => D.bl (C == x))), some (.lst (kAll.map D.str)), some (.str C)] []) _
  rw [fInW_at hC]
  intro w3 c3 H10 s10 r10 e10
  cases (show c3 = true from e10)
  show (if true = true then _ else _)
  have k10 : ∀ b o, H0 b = some o → (∀ ps, o ≠ .tbl ps) → H10 b = some o := fun b o h hn => ((((ka b o h).stp s8 hn).stp s9 hn).stp s10 hn).1
  refine ⟨.str C, rfl, .ref a, rfl, rfl, rfl, dd, _, .int n, rfl, k10 _ _ hdd (by intro _ z; cases z), rfl, by rw [sizeLine_eq]; show 2 ≤ _; omega, fun p hp => ?_⟩
  have at_ : ∀ b u, H10 b = some u → upd H10 p (.tup [.str C, .int n]) b = some u := fun b u e => by rw [upd_ne (ne_of_none e hp)]; exact e
  refine hq _ p (fun b o h hn => at_ _ _ (k10 b o h hn)) (r10.tabs.ext at_) (fun o ho => ?_) upd_same
  rcases Classical.em (∃ ps, o = HO.tbl ps) with z | z
  · exact z
  · have := k10 p o ho fun ps e => z ⟨ps, e⟩
    rw [hp] at this
    cases this
noncomputable def fIsT : LT := fTest (fOp oEq (fVar 4) (fC (.str "BadText")))
def tSuiteT (K : PySem.W.Frag) (T : List (Addr × Str)) (E : XK) (a dd : Addr) : TS :=
  tSeq (tAsg (tLst (tKN a dd "BadText" ["BadCells", "BadDeed", "BadCount", "TooMany"])) (gName 2))
  (tSeq (tAsg (tOp rCat (tVar 2) (tLst (tKN a dd "BadText" ["Broken", "BadSaying", "BadCell"]))) (gName 2))
  (tSeq (tAsg (tOp rCat (tVar 2) (tLst (tKN a dd "BadText" ["BadWorth", "Gone", "BadKey", "BadRoot"]))) (gName 2))
  (tSeq (tAsg (tOp rCat (tVar 2) (tLst (tKN a dd "BadText" ["Full", "Busy", "NoBlock", "BadWrites"]))) (gName 2))
  (tSeq (tAsg (tOp rCat (tVar 2) (tLst (tKN a dd "BadText" ["BadHall", "BadText"]))) (gName 2))
  (tSeq (tAsg (tLst (tW ["BadCells", "BadDeed", "BadCount", "TooMany", "Broken", "BadSaying", "BadCell", "BadWorth", "Gone"])) (gName 3))
  (tSeq (tAsg (tOp rCat (tVar 3) (tLst (tW ["BadKey", "BadRoot", "Full", "Busy", "NoBlock", "BadWrites", "BadHall", "BadText"]))) (gName 3))
  (tSeq (tIfS (tOr (tOf K T E eqB fA) (tNot (tB (tIsN 1 a dd true)))) (tRet (tC (.str "other"))) tNext)
  (tSeq (tAsg (tOf K T E Dat fWd) (gName 4))
  (tSeq (tIfS (tOf K T E eqB fInW) tNone9 tNext)
  (tRet (tIf (tOf K T E eqB fIsT) (tTup (tCons (tVar 4) (tCons (tXf a (.ref (He.ga K "BadText")) (some dd) (He.ga K "BadText") "row" (tVar 1)) tNil))) (tVar 4))))))))))))
theorem fInW_T (o0 o1 o2 o3 : Option D) : fInW [o0, o1, o2, o3, some (.str "BadText")] [] = .ok false [] := by
  have hin : oIn false (.str "BadText") (.tup [.str "BadDeed", .str "BadWrites", .str "BadHall"]) [] = .ok (.bl false) [] := by
    show (if flatD (.str "BadText") = true ∧ [D.str "BadDeed", D.str "BadWrites", D.str "BadHall"].all flatD = true then Res.ok (D.bl ([D.str "BadDeed", D.str "BadWrites", D.str "BadHall"].any fun z => eqFlat z (.str "BadText"))) [] else .stuck) = _
    rw [if_pos ⟨rfl, rfl⟩]
    have : ([D.str "BadDeed", D.str "BadWrites", D.str "BadHall"].any fun z => eqFlat z (.str "BadText")) = false := by decide +kernel
    rw [this]
  unfold fInW
  simp [hin]
theorem str_bt : PyData.strOk "BadText" = true := by decide +kernel
theorem fIsT_T (o0 o1 o2 o3 : Option D) : fIsT [o0, o1, o2, o3, some (.str "BadText")] [] = .ok true [] := by
  unfold fIsT
  simp [oEq_str str_bt str_bt]
theorem kT_all : ("BadText" : Str) ∈ kAll := by decide
theorem suite_ansT {K : PySem.W.Frag} {T : List (Addr × Str)} {E : XK} {a dd : Addr} {n : Int} (u0 u2 u3 u4 : Option V) {H0 : Hp} {D0 : Ends} (hdd : H0 dd = some (.xd [("row", .int n)])) (hT : LamX.Tabs T H0)
    (hq : ∀ H' p, LamX.ExtN H0 H' → LamX.Tabs T H' → Fre H0 p → H' p = some (.tup [.str "BadText", .int n]) → D0.rt (.ref p) H') : tSuiteT K T E a dd D0 [u0, some (.ref a), u2, u3, u4] H0 := by
  unfold tSuiteT tSeq tAsg gName
  refine lst_ans (ys := (["BadCells", "BadDeed", "BadCount", "TooMany"] : List Str).map fun x => V.bl (("BadText" : Str) == x)) (fun Q' q => tKN_ans rfl ⟨_, hdd⟩ q) (by simp) fun p1 H1 x1 y1 => ?_
  refine cat_ans (ys := (["Broken", "BadSaying", "BadCell"] : List Str).map fun x => V.bl (("BadText" : Str) == x)) (fun Q' q => tKN_ans rfl ⟨_, x1 _ _ hdd⟩ q) rfl y1 (by simp) fun p2 H2 x2 y2 => ?_
  refine cat_ans (ys := (["BadWorth", "Gone", "BadKey", "BadRoot"] : List Str).map fun x => V.bl (("BadText" : Str) == x)) (fun Q' q => tKN_ans rfl ⟨_, x2 _ _ (x1 _ _ hdd)⟩ q) rfl y2 (by simp) fun p3 H3 x3 y3 => ?_
  refine cat_ans (ys := (["Full", "Busy", "NoBlock", "BadWrites"] : List Str).map fun x => V.bl (("BadText" : Str) == x)) (fun Q' q => tKN_ans rfl ⟨_, x3 _ _ (x2 _ _ (x1 _ _ hdd))⟩ q) rfl y3 (by simp) fun p4 H4 x4 y4 => ?_
  refine cat_ans (ys := (["BadHall", "BadText"] : List Str).map fun x => V.bl (("BadText" : Str) == x)) (fun Q' q => tKN_ans rfl ⟨_, x4 _ _ (x3 _ _ (x2 _ _ (x1 _ _ hdd)))⟩ q) rfl y4 (by simp) fun p5 H5 x5 y5 => ?_
  dsimp only
  refine lst_ans (ys := (["BadCells", "BadDeed", "BadCount", "TooMany", "Broken", "BadSaying", "BadCell", "BadWorth", "Gone"] : List Str).map V.str) (fun Q' q => tW_ans q) (by simp) fun p6 H6 x6 y6 => ?_
  refine cat_ans (ys := (["BadKey", "BadRoot", "Full", "Busy", "NoBlock", "BadWrites", "BadHall", "BadText"] : List Str).map V.str) (fun Q' q => tW_ans q) rfl y6 (by simp) fun p7 H7 x7 y7 => ?_
  have y5' : H7 p5 = some (.lst (kAll.map fun x => V.bl (("BadText" : Str) == x))) := (x6.trans x7) _ _ y5
  have y7' : H7 p7 = some (.lst (kAll.map V.str)) := y7
  let w : Wd := ⟨fun p => if p = p5 then some (.lst (kAll.map fun x => V.bl (("BadText" : Str) == x))) else if p = p7 then some (.lst (kAll.map V.str)) else none, [], fun _ => none⟩
  have xs : Ext H0 H7 := (((((x1.trans x2).trans x3).trans x4).trans x5).trans x6).trans x7
  have wF : ∀ b o, w.F b = some o → (b = p5 ∧ o = .lst (kAll.map fun x => V.bl (("BadText" : Str) == x))) ∨ (b = p7 ∧ o = .lst (kAll.map V.str)) := fun b o h => by
    have h' : (if b = p5 then some (HO.lst (kAll.map fun x => V.bl (("BadText" : Str) == x))) else if b = p7 then some (.lst (kAll.map V.str)) else none) = some o := h
    by_cases e1 : b = p5
    · rw [if_pos e1] at h'
      exact .inl ⟨e1, (Option.some.inj h').symm⟩
    · rw [if_neg e1] at h'
      by_cases e2 : b = p7
      · rw [if_pos e2] at h'
        exact .inr ⟨e2, (Option.some.inj h').symm⟩
      · rw [if_neg e2] at h'
        cases h'
  have r : Rel K T w H7 [] := ⟨fun b o h => by
      rcases wF b o h with ⟨rfl, rfl⟩ | ⟨rfl, rfl⟩
      · exact y5'
      · exact y7', rfl, List.nodup_nil, fun k c p h _ => (by cases h), hT.ext xs, fun p vs h => (by cases h), fun b ps h => by
      rcases wF b _ h with ⟨_, z⟩ | ⟨_, z⟩ <;> cases z⟩
  have d5 : Dat w (.ref p5) (.lst (kAll.map fun x => D.bl (("BadText" : Str) == x))) := .lst (by simp [w]) (bools_at kAll)
  have hne : p7 ≠ p5 := fun z => by
    rw [z, y5'] at y7'
    have : (kAll.map fun x => V.bl (("BadText" : Str) == x)) = kAll.map V.str := by
      have := Option.some.inj y7'
      injection this
    cases this
  have d7 : Dat w (.ref p7) (.lst (kAll.map D.str)) := .lst (by simp [w, hne]) (Dats.of_strs _)
  have he : EnvR w [u0, some (.ref a), some (.ref p5), some (.ref p7), u4] [none, none, some (.lst (kAll.map fun x => D.bl (("BadText" : Str) == x))), some (.lst (kAll.map D.str)), none] := by
    refine ⟨rfl, fun i d h => ?_⟩
    match i, h with
    | 0, h => cases h
    | 1, h => cases h
    | 2, h => cases h; exact ⟨_, rfl, d5⟩
    | 3, h => cases h; exact ⟨_, rfl, d7⟩
    | 4, h => cases h
    | n + 5, h => cases h
  have ka : ∀ b o, H0 b = some o → KA w H7 b o := fun b o h => ⟨xs b o h, fun z => nomatch z⟩
  refine ⟨w, _, [], he, r, ?_⟩
  rw [fA_at (kT_all)]
  intro w1 c1 H8 s8 r8 e8
  cases (show c1 = false from e8)
  show (if false = true then _ else _)
  have hd8 : H8 dd = some (.xd [("row", .int n)]) := ((ka _ _ hdd).stp s8 (by intro _ z; cases z)).1
  refine ⟨rfl, ⟨_, hd8⟩, true, rfl, ?_⟩
  show (if (!true) = true then _ else _)
  refine ⟨w1, _, [], he.mono s8.le, r8, ?_⟩
  rw [fWd_at (kT_all)]
  intro w2 v H9 s9 r9 dv
  cases dv
  refine ⟨w2, _, [], ((he.mono s8.le).mono s9.le).set 4 (.str "BadText"), r9, ?_⟩
  show Post K T E eqB w2 H9 (fInW [none, none, some (.lst (kAll.map fun x => D.bl (("BadText" : Str) == x))), some (.lst (kAll.map D.str)), some (.str "BadText")] []) _
  rw [fInW_T]
  intro w3 c3 H10 s10 r10 e10
  cases (show c3 = false from e10)
  show (if false = true then _ else _)
  refine ⟨w3, _, [], (((he.mono s8.le).mono s9.le).set 4 (.str "BadText")).mono s10.le, r10, ?_⟩
  show Post K T E eqB w3 H10 (fIsT [none, none, some (.lst (kAll.map fun x => D.bl (("BadText" : Str) == x))), some (.lst (kAll.map D.str)), some (.str "BadText")] []) _
  rw [fIsT_T]
  intro w4 c4 H11 s11 r11 e11
  cases (show c4 = true from e11)
  show (if true = true then _ else _)
  have k10 : ∀ b o, H0 b = some o → (∀ ps, o ≠ .tbl ps) → H11 b = some o := fun b o h hn => (((((ka b o h).stp s8 hn).stp s9 hn).stp s10 hn).stp s11 hn).1
  refine ⟨.str "BadText", rfl, .ref a, rfl, rfl, rfl, dd, _, .int n, rfl, k10 _ _ hdd (by intro _ z; cases z), rfl, by rw [sizeLine_eq]; show 2 ≤ _; omega, fun p hp => ?_⟩
  have at_ : ∀ b u, H11 b = some u → upd H11 p (.tup [.str "BadText", .int n]) b = some u := fun b u e => by rw [upd_ne (ne_of_none e hp)]; exact e
  refine hq _ p (fun b o h hn => at_ _ _ (k10 b o h hn)) (r11.tabs.ext at_) (fun o ho => ?_) upd_same
  rcases Classical.em (∃ ps, o = HO.tbl ps) with z | z
  · exact z
  · have := k10 p o ho fun ps e => z ⟨ps, e⟩
    rw [hp] at this
    cases this
/-! ### words, with numbers or none -/
def TTn (K : PySem.W.Frag) (T : List (Addr × Str)) (occ : List Str) : (XK → Hp → VK → Prop) → Hp → VK → Prop := fun tl H Q =>
  tl (fun cls d H' => (∃ C, (C ∈ occ ∧ C ∉ kNum ∧ cls = .ref (He.ga K C) ∧ d = none) ∧ LamX.Tabs T H' ∧ ∀ H'', LamX.ExtN H' H'' → LamX.Tabs T H'' → Q (.str C) H'') ∨
    ∃ C dd n, (C ∈ occ ∧ C ∈ kNf ∧ cls = .ref (He.ga K C) ∧ d = some dd) ∧ H' dd = some (.xd [(kFl C, .int n)]) ∧ LamX.Tabs T H' ∧ ∀ H'' p, LamX.ExtN H' H'' → LamX.Tabs T H'' → Fre H' p → H'' p = some (.tup [.str C, .int n]) → Q (.ref p) H'') H Q
def tKindN (K : PySem.W.Frag) (T : List (Addr × Str)) (E : XK) (occ : List Str) (a : Addr) (cls : Value) (d : Option Addr) : TS := fun D σ H => σ.length = 5 →
  (∃ C, (C ∈ occ ∧ C ∉ kNum ∧ cls = .ref (He.ga K C) ∧ d = none) ∧ tSuite K T E a C D σ H) ∨ ∃ q : Str × Addr, (q.1 ∈ occ ∧ q.1 ∈ kNf ∧ cls = .ref (He.ga K q.1) ∧ d = some q.2) ∧ (if q.1 = "BadText" then tSuiteT K T E a q.2 else tSuiteN K T E a q.2 q.1) D σ H
theorem pss_or {X : Cx} {ss : List Stmt} {t u : TS} (h : PSs X ss t) (k : PSs X ss u) : PSs X ss (fun D σ H => t D σ H ∨ u D σ H) := ⟨fun pins s σ H D I x => x.elim (h.run pins s σ H D I) (k.run pins s σ H D I)⟩
theorem kind_wishN {K : PySem.W.Frag} {T : List (Addr × Str)} {E : XK} {occ : List Str} (hk : ∀ C ∈ occ, KindN K C) {Q : VK} {nx bk ct : L2.St → Hp → Prop} {Wout : WX} (cls : Value) (d : Option Addr) (σ : L2.St) (H : Hp)
    (h : (∃ C, (C ∈ occ ∧ C ∉ kNum ∧ cls = .ref (He.ga K C) ∧ d = none) ∧ LamX.Tabs T H ∧ ∀ H'', LamX.ExtN H H'' → LamX.Tabs T H'' → Q (.str C) H'') ∨
      ∃ C dd n, (C ∈ occ ∧ C ∈ kNf ∧ cls = .ref (He.ga K C) ∧ d = some dd) ∧ H dd = some (.xd [(kFl C, .int n)]) ∧ LamX.Tabs T H ∧ ∀ H'' p, LamX.ExtN H H'' → LamX.Tabs T H'' → Fre H p → H'' p = some (.tup [.str C, .int n]) → Q (.ref p) H'') :
    wAs K (.ref (He.ga K "KeepError")) 1 (tKindN K T E occ) Wout { nx := nx, rt := Q, bk := bk, ct := ct } cls d σ H := by
  rcases h with ⟨C, ⟨hC, hn, rfl, rfl⟩, hT, q⟩ | ⟨C, dd, n, ⟨hC, hn, rfl, rfl⟩, hd, hT, q⟩
  · refine ⟨true, (hk C hC).exm, fun _ a ha hl => .inl ⟨C, ⟨hC, hn, rfl, rfl⟩, ?_⟩, fun z => nomatch z⟩
    rw [List.length_set] at hl
    match σ, hl with
    | [x0, x1, x2, x3, x4], _ => exact suite_ans (hk C hC).mem hn x0 x2 x3 x4 hT q
  · refine ⟨true, (hk C hC).exm, fun _ a ha hl => .inr ⟨(C, dd), ⟨hC, hn, rfl, rfl⟩, ?_⟩, fun z => nomatch z⟩
    rw [List.length_set] at hl
    match σ, hl with
    | [x0, x1, x2, x3, x4], _ =>
      show (if C = "BadText" then tSuiteT K T E a dd else tSuiteN K T E a dd C) _ _ _
      by_cases e : C = "BadText"
      · subst e
        rw [if_pos rfl]
        exact suite_ansT x0 x2 x3 x4 hd hT q
      · rw [if_neg e]
        obtain ⟨n1, n2⟩ := kNf_nm hn e
        rw [n2] at hd
        exact suite_ansN n1 x0 x2 x3 x4 hd hT q
/-! ### as plain functions -/
def kKindN (occ : List Str) : Res D → Res D
  | .ok d st => .ok d st
  | .ex x st => match x.num with
    | none => if x.c ∈ occ ∧ x.c ∉ kNum then .ok (.str x.c) st else .stuck
    | some (f, n) => if f = kFl x.c ∧ x.c ∈ occ ∧ x.c ∈ kNf then .ok (.tup [.str x.c, .int n]) st else .stuck
  | .stuck => .stuck
def fKindN (occ : List Str) (fb : LE) : LE := fun env st => kKindN occ (fb env st)
@[simp] theorem fKindN_eq (occ : List Str) (fb : LE) (env : DEnv) (st : Store) : fKindN occ fb env st = kKindN occ (fb env st) := (rfl)
@[simp] theorem kKindN_ok (occ : List Str) (d : D) (st : Store) : kKindN occ (.ok d st) = .ok d st := (rfl)
@[simp] theorem kKindN_ex (occ : List Str) (c : Str) (st : Store) : kKindN occ (.ex ⟨c, none⟩ st) = if c ∈ occ ∧ c ∉ kNum then .ok (.str c) st else .stuck := (rfl)
@[simp] theorem kKindN_num (occ : List Str) (c f : Str) (n : Int) (st : Store) : kKindN occ (.ex ⟨c, some (f, n)⟩ st) = if f = kFl c ∧ c ∈ occ ∧ c ∈ kNf then .ok (.tup [.str c, .int n]) st else .stuck := (rfl)
section
variable {K : PySem.W.Frag} {T : List (Addr × Str)} {E : XK} {occ : List Str} {fb : LE} {w : Wd} {H H' : Hp} {σ : L2.St} {env : DEnv} {st : Store}
/-- a thing that stands, known from now on -/
theorem Rel.more (r : Rel K T w H st) (x : LamX.ExtN H H') (t : LamX.Tabs T H') {p : Addr} {vs : List V} (hp : Fre H p) (h : H' p = some (.tup vs)) : Stp w H ⟨upd w.F p (.tup vs), w.ads, w.S⟩ H' ∧ Rel K T ⟨upd w.F p (.tup vs), w.ads, w.S⟩ H' st := by
  have nF : w.F p = none := by
    cases q : w.F p with
    | none => rfl
    | some o =>
      obtain ⟨ps, e⟩ := hp o (r.fr p o q)
      exact absurd (by rw [q, e]) (r.nt p ps)
  have nA : p ∉ w.ads := fun z => by
    obtain ⟨k, hk, e⟩ := List.getElem_of_mem z
    have hs : st[k]? = some (st[k]'(by rw [← r.len]; exact hk)) := List.getElem?_eq_getElem _
    obtain ⟨o, h1, h2⟩ := (r.at_ k _ p hs (by rw [List.getElem?_eq_getElem hk, e])).nt
    obtain ⟨ps, e2⟩ := hp o h1
    exact h2 ps e2
  have le : Le w ⟨upd w.F p (.tup vs), w.ads, w.S⟩ := ⟨fun a u h => by
    show upd w.F p (.tup vs) a = some u
    rw [upd_ne (fun z => by rw [z, nF] at h; cases h)]
    exact h, fun _ _ h => h, rfl⟩
  have r1 := r.extN x t
  have s1 := Stp.extN (w := w) x
  refine ⟨⟨le, fun q h n => absurd h n, s1.keep, s1.free, fun a h n => ?_⟩, ⟨fun a u q => ?_, r1.len, r1.nd, fun k c q h1 h2 => ?_, r1.tabs, r1.scr.le le, nt_upd r1.nt (by intro _ z; cases z)⟩⟩
  · by_cases z : a = p
    · rw [z]; exact .inl hp
    · have h' : upd w.F p (.tup vs) a ≠ none := h
      rw [upd_ne z] at h'
      exact absurd n h'
  · have q' : upd w.F p (.tup vs) a = some u := q
    by_cases z : a = p
    · rw [z, upd_same] at q'
      cases q'
      rw [z]
      exact h
    · rw [upd_ne z] at q'
      exact r1.fr a u q'
  · have h2' : w.ads[k]? = some q := h2
    have y := r1.at_ k c q h1 h2'
    refine y.mono le (fun hc => ?_) fun u e => e
    show upd w.F p (.tup vs) q = none
    rw [upd_ne (fun z => nA (by rw [← z]; exact List.mem_of_getElem? h2'))]
    exact y.noF hc
theorem kind_postN {Q : VK} (he : EnvR w σ env) (r : Rel K T w H st) (p : Post K T E Dat w H (kKindN occ (fb env st)) Q) : TTn K T occ (fun E' H' Q' => tOf K T E' Dat fb σ H' Q') H Q := by
  refine ⟨w, env, st, he, r, ?_⟩
  cases h : fb env st with
  | ok d st' =>
    rw [h] at p
    exact p
  | stuck =>
    rw [h] at p
    exact p.elim
  | ex x st' =>
    rw [h] at p
    obtain ⟨xc, xn⟩ := x
    cases xn with
    | none =>
      have p : Post K T E Dat w H (if xc ∈ occ ∧ xc ∉ kNum then .ok (.str xc) st' else .stuck) Q := p
      by_cases q : xc ∈ occ ∧ xc ∉ kNum
      · rw [if_pos q] at p
        intro w' c od H' s' r' z
        exact .inl ⟨xc, ⟨q.1, q.2, z.1, z.2⟩, r'.tabs, fun H2 x2 t2 => p w' (.str xc) H2 (s'.trans (Stp.extN x2)) (r'.extN x2 t2) (.str _)⟩
      · rw [if_neg q] at p
        exact p.elim
    | some fn =>
      obtain ⟨f, n⟩ := fn
      have p9 : Post K T E Dat w H (if f = kFl xc ∧ xc ∈ occ ∧ xc ∈ kNf then .ok (.tup [.str xc, .int n]) st' else .stuck) Q := p
      by_cases q : f = kFl xc ∧ xc ∈ occ ∧ xc ∈ kNf
      · rw [if_pos q] at p9
        obtain ⟨q1, q2, q3⟩ := q
        subst q1
        intro w' c od H' s' r' z
        obtain ⟨z1, d, z2, z3⟩ := z
        refine .inr ⟨xc, d, n, ⟨q2, q3, z1, z2⟩, z3, r'.tabs, fun H2 p2 x2 t2 hf hp => ?_⟩
        obtain ⟨s3, r3⟩ := r'.more x2 t2 hf hp
        exact p9 _ (.ref p2) H2 (s'.trans s3) r3 (.tup upd_same (.cons (.str _) (.cons (.int _) .nil)))
      · rw [if_neg q] at p9
        exact p9.elim
theorem sim_kindN : Sim K T E Dat (LamX.tLam T (TTn K T occ) fun E' => tOf K T E' Dat fb) (fKindN occ fb) := fun w σ H env st Q he r p =>
  ⟨r.tabs, fun H1 x1 t1 => kind_postN (E := E) he (r.extN x1 t1) (Post.pull (show Post K T E Dat w H (kKindN occ (fb env st)) Q from p) (Stp.extN x1))⟩
end
/-! ### the rule -/
structure KndG (X : Cx) (T : List (Addr × Str)) (TT : (XK → Hp → VK → Prop) → Hp → VK → Prop) : Prop where
  fn : ∃ (pg : Arguments) (bg : List Stmt) (sg : Scope) (fd : FuncData) (Ng : List Str), FunD X.K "_law_kind" "_law_kind" pg bg sg [] [] (He.fAd X.K ("_law_kind", none)) fd ∧ FnScope Ng ["_law_work"] sg ∧ Binds X.K fd ["_law_work"] [] ∧ Ng[0]? = some ("_law_work" : Str) ∧ Vis sg "_law_work" ∧
    ∀ (cdg : Value) (q : Str), LamX.GivesTo X Ng "_law_kind" sg (He.fAd X.K ("_law_kind", none)) cdg bg "_law_work" q TT
  mg : X.mg "_law_kind" = some (.ref (He.ga X.K "_law_kind"))
  tab : ∃ c P, LamX.TabB X.base X.mg c P ∧ X.env.code = .ref c ∧ (P, X.env.qual ++ "<lambda>") ∈ T ∧ ∀ p ∈ T, p.1 = P → p.2 = X.env.qual ++ "<lambda>"
section
variable {X : Cx} {T : List (Addr × Str)} {E : XK} {occ : List Str} {params : Arguments} {body : Expr} {scope : Scope} {fb : LE} {p lpos pos : Pos} {j k : Nat}
theorem x_kindN (kk : KndG X T (TTn X.K T occ)) (hr : Room j X.A) (L : LamX.LamS X.env.scope scope)
    (hbody : ∀ (A : Around) (outer : List Env) (s : Shared) (H : Hp) (E' : XK) (f c' : Addr), Room k (LamX.lamCx X A outer s H E' scope f c').A → Passes (L2.CX (LamX.lamCx X A outer s H E' scope f c').prog (LamX.lamCx X A outer s H E' scope f c').w) (LamX.lamCx X A outer s H E' scope f c') E' → PEf (LamX.lamCx X A outer s H E' scope f c') T E' body fb)
    (hjk : k + 2 ≤ j := by decide) (hg : Gl X "_law_kind" := by rfl) (hdef : defaultsOf params X.env = ([], []) := by rfl)
    (hbind : ∀ (q : Str) (cl : List (Str × Addr)) (pm cv ctv : Value), bindArgs (PySem.W.kla_fn "<lambda>" q params body scope cl pm cv ctv) ⟨[], []⟩ = pure [] := by intro _ _ _ _ _; rfl) :
    PEf X T E (.Call (.Name "_law_kind" p) [.Lambda params body scope lpos] [] pos) (fKindN occ fb) := by
  obtain ⟨pg, bg, sg, fd, Ng, F, Sg, hb, hNg, hva, hG⟩ := kk.fn
  obtain ⟨c, P, TB, hcode, hmT, hu⟩ := kk.tab
  have kp := F.kp
  obtain ⟨oc, od, dV, kV, doc, pm, an, cdv, ct, osl, rfl, lk, hcd, _, _⟩ := F.ex
  exact pe_to (LamX.pe_lamcall (k := k) (t := fun E' => tOf X.K T E' Dat fb) hg kk.mg kp lk hcd hb Sg hNg hva (hG cdv _) TB hcode hmT hu (hr.mono hjk) L hdef hbind (fun A outer s H E f c' hr => hbody A outer s H E f c' hr px_lam)) sim_kindN
end
/-! ### what the head must say -/
def kindNB (occ : List Str) (K : PySem.W.Frag) : Bool := occ.all fun C => decide (C ∈ kAll) && (excB K (He.ga K C) && ((kAll.all fun D => decide (PySem.W.kitOne K (.ref (He.ga K C)) (.ref (He.ga K D)) = some (C == D))) &&
  ((decide (PySem.W.kitOne K (.ref (He.ga K C)) (.type "ValueError") = some true) && decide (PySem.W.exmOne K (.ref (He.ga K C)) (.ref (He.ga K "KeepError")) = some true)) && (decide (C ∉ kNum) || (decide (C ∈ kNf) && numB K C (kFl C))))))
theorem kindNB_ok {occ : List Str} {K : PySem.W.Frag} (h : kindNB occ K = true) {C : Str} (hC : C ∈ occ) : KindN K C ∧ (C ∈ kNum → NumC K C (kFl C)) := by
  have h := List.all_eq_true.mp h C hC
  obtain ⟨h1, h⟩ := Bool.and_eq_true_iff.mp h
  obtain ⟨h2, h⟩ := Bool.and_eq_true_iff.mp h
  obtain ⟨h3, h⟩ := Bool.and_eq_true_iff.mp h
  obtain ⟨h4, h⟩ := Bool.and_eq_true_iff.mp h
  obtain ⟨h4, h5⟩ := Bool.and_eq_true_iff.mp h4
  refine ⟨⟨of_decide_eq_true h1, excB_ok h2, fun D hD => of_decide_eq_true (List.all_eq_true.mp h3 D hD), of_decide_eq_true h4, of_decide_eq_true h5⟩, fun hn => ?_⟩
  rcases Bool.or_eq_true_iff.mp h with h | h
  · exact absurd hn (of_decide_eq_true h)
  · exact numB_ok (Bool.and_eq_true_iff.mp h).2
theorem KindN.plain {K : PySem.W.Frag} {C : Str} (k : KindN K C) (h : C ∉ kNum) : KindC K C := ⟨k.mem, h, k.exc, k.kit, k.ve, k.exm⟩
theorem KindN.xf {K : PySem.W.Frag} {C : Str} (k : KindN K C) : XfC K (He.ga K C) := ⟨k.exc.hg, k.exc.hk, k.exc.hs, k.exc.hd⟩
/-! ### list * int that is a cell -/
def oMulC : O2 := fun d e st => match lstOf d st, e with
  | some a, .int k => if -(2 ^ 63) ≤ k ∧ k < 2 ^ 63 ∧ a.length * k.toNat ≤ lim then .ok (.ref st.length) (st ++ [.lst (List.replicate k.toNat a).flatten]) else .stuck
  | _, _ => .stuck
theorem sim_mulC {K : PySem.W.Frag} {T : List (Addr × Str)} : SimR2 K T rRep oMulC := fun E w H st x y d e Q r dx dy p => by
  cases q : lstOf d st with
  | none => unfold oMulC at p; rw [q] at p; exact p.elim
  | some ds =>
    unfold oMulC at p
    rw [q] at p
    obtain ⟨l, vs, e1, h1, h2⟩ := lst_at r dx q
    cases dy with
    | int k =>
      have p3 : Post K T E Dat w H (if -(2 ^ 63) ≤ k ∧ k < 2 ^ 63 ∧ ds.length * k.toNat ≤ lim then .ok (.ref st.length) (st ++ [.lst (List.replicate k.toNat ds).flatten]) else .stuck) Q := p
      by_cases c : -(2 ^ 63) ≤ k ∧ k < 2 ^ 63 ∧ ds.length * k.toNat ≤ lim
      · rw [if_pos c] at p3
        exact ⟨l, k, vs, e1, rfl, h1, c.1, c.2.1, by rw [h2.length, lim_eq]; exact c.2.2, p3.newC r (h2.rep _)⟩
      · rw [if_neg c] at p3
        exact p3.elim
    | _ => exact p.elim
theorem x_mulC {X : Cx} {T : List (Addr × Str)} {E : XK} {a b : Expr} {fa fb : LE} {pos : Pos} (ha : PEf X T E a fa) (hb : PEf X T E b fb) : PEf X T E (.BinOp a .Mult b pos) (fOp oMulC fa fb) := x_op op_rep sim_mulC ha hb
theorem oMulC_of {a : List D} {k : Int} (h : -(2 ^ 63) ≤ k ∧ k < 2 ^ 63 ∧ a.length * k.toNat ≤ lim) (st : Store) : oMulC (.lst a) (.int k) st = .ok (.ref st.length) (st ++ [.lst (List.replicate k.toNat a).flatten]) := if_pos h
/-! ### name = [(x, d[x]) for x in d] on one line -/
theorem s_setIt {X : Cx} {T : List (Addr × Str)} {E : XK} {i j kk n1 i2 : Nat} {x d y : Str} {p0 p1 p2 p3 p4 p5 p6 pos py spos : Pos} {scope : Scope} {own : List (Str × Nat)} (hr : Room kk X.A) (hc : X.calm = true) (hN : X.N.Nodup) (ok : BlkOk X.N X.env.scope scope own) (hown : own.map (·.2) = [j])
    (hg : ∀ (s : Shared) (H : Hp) (C : Addr) (cl : List (Str × Addr)) (fp : List Addr), PG (X.blk s H scope (compEnvC scope cl C X.env) fp) (.Name x p5) (gName j))
    (hx1 : ∀ (s : Shared) (H : Hp) (C : Addr) (cl : List (Str × Addr)) (fp : List Addr), PE (X.blk s H scope (compEnvC scope cl C X.env) fp) (.Name x p1) (tVar j))
    (hx3 : ∀ (s : Shared) (H : Hp) (C : Addr) (cl : List (Str × Addr)) (fp : List Addr), PE (X.blk s H scope (compEnvC scope cl C X.env) fp) (.Name x p3) (tVar j))
    (hd2 : ∀ (s : Shared) (H : Hp) (C : Addr) (cl : List (Str × Addr)) (fp : List Addr), PE (X.blk s H scope (compEnvC scope cl C X.env) fp) (.Name d p2) (tVar i))
    (hd : PE X (.Name d p6) (tVar i)) (hs : ∀ x, foldedSetIterable (.Name d p6) X.env x = pure x := by intro _; rfl)
    (hy : X.N[i2]? = some y := by rfl) (hyl : X.env.scope.names.lookup y = some .local := by rfl) (hsw : swapsWith (.ListComp (.Tuple [.Name x p1, .Subscript (.Name d p2) (.Name x p3) p4] n1 p0) [⟨.Name x p5, .Name d p6, [], 0⟩] scope pos) (some (.Name y py)) spos.line X.env = pure true := by exact sw_true rfl rfl rfl (by decide +kernel)) :
    PSf X T (W0 E) (.Assign [.Name y py] (.ListComp (.Tuple [.Name x p1, .Subscript (.Name d p2) (.Name x p3) p4] n1 p0) [⟨.Name x p5, .Name d p6, [], 0⟩] scope pos) spos) (fAsg (fItems i j) (gN i2)) := by
  have h := ps_setLc (i := i2) (py := py) (spos := spos) (pos := pos) hc hN hy hyl hsw (pi_keys hd) ok hg (fun _ _ _ _ _ => pts_nil) (fun s H C cl fp => pe_tup (x1 := n1) (pos := p0) (pa_cons (hx1 s H C cl fp) (pa_cons (pe_dget (pos := p4) (hu1 hr) (hd2 s H C cl fp) (hx3 s H C cl fp) (fun _ _ => rfl)) pa_nil))) hs
  rw [hown] at h
  exact ps_to (ps_lock h) fun w σ H env st Dn he r p =>
    sim_items w σ H env st _ he r (PostS.go (fun _ _ _ h => h) he p fun w1 x H1 d st1 s1 r1 dx p1 => p1 w1 _ H1 (Stp.refl w1 H1) ((he.mono s1.le).set i2 dx) r1)
/-! ### the hook: the interpreter's own statics are looked at as well (readsIn) -/
def asS (g : Addr → Option Obj) (n : Nat) : List Addr := He.asD g n ++ [PySem.cStatics]
def obsN (n : Nat) (fa : List He.Fa) (fn : List He.DefD) (tb : List TbD) (tf : List He.Defn) (ex : PySem.W.Frag → Bool) (g : Addr → Option Obj) : AlK := (obsF fa fn tb (He.frT g (asS g n)), ex (He.frT g (asS g n)) && He.tabsB g tf (He.frT g (asS g n)))
theorem saysN_of {n : Nat} {fa : List He.Fa} {fn : List He.DefD} {tb : List TbD} {tf : List He.Defn} {ex : PySem.W.Frag → Bool} {w : World} {h : Heap} (e : obsN n fa fn tb tf ex h.get? = valK fn tb w) : SaysK fa fn tb tf ex w h (He.frT h.get? (asS h.get? n)) := by
  have e1 : obsF fa fn tb (He.frT h.get? (asS h.get? n)) = valF fn tb w := congrArg (fun z : AlK => z.1) e
  have e2 : (ex (He.frT h.get? (asS h.get? n)) && He.tabsB h.get? tf (He.frT h.get? (asS h.get? n))) = true := congrArg (fun z : AlK => z.2) e
  obtain ⟨h1, h2⟩ := Bool.and_eq_true_iff.mp e2
  have key : ∀ p ∈ tf, PySem.W.codeHdIn (He.frT h.get? (asS h.get? n)) (He.cT (He.frT h.get? (asS h.get? n)) p).1 (He.cT (He.frT h.get? (asS h.get? n)) p).2 = true ∧ ∃ o, h.get? (He.cT (He.frT h.get? (asS h.get? n)) p).2 = some o ∧ He.emptyTab o = true := fun p hp => by
    obtain ⟨h3, h4⟩ := Bool.and_eq_true_iff.mp (List.all_eq_true.mp h2 p hp)
    refine ⟨h3, ?_⟩
    cases q : h.get? (He.cT (He.frT h.get? (asS h.get? n)) p).2 with
    | none =>
      rw [q] at h4
      cases h4
    | some o =>
      rw [q] at h4
      exact ⟨o, rfl, h4⟩
  refine ⟨e1, h1, fun p hp => (key p hp).1, fun p hp => ?_, fun p hp => ?_⟩
  · obtain ⟨o, e, ht⟩ := (key p hp).2
    exact He.frT_none e ht
  · obtain ⟨o, e, ht⟩ := (key p hp).2
    rw [e, He.emptyTab_eq ht]
def hookN (n : Nat) (fa : List He.Fa) (fn : List He.DefD) (tb : List TbD) (tf : List He.Defn) (ex : PySem.W.Frag → Bool) : PySem.W.Hook where
  α := AlK
  obs := fun s => obsN n fa fn tb tf ex s.heap.get?
  val := fun w => valK fn tb w
  says := fun w h => ∃ K : PySem.W.Frag, K.In h ∧ SaysK fa fn tb tf ex w h K
  of := fun _ _ e => ⟨_, He.frT_in, saysN_of e⟩
  keeps := fun _ _ _ ⟨K, hK, c⟩ k => ⟨K, PySem.W.Frag.In.keeps hK k, ⟨c.f, c.more, c.hd, c.out, fun p hp => k _ _ (c.empty p hp)⟩⟩
theorem obsN_eq {n : Nat} {fa : List He.Fa} {fn : List He.DefD} {tb : List TbD} {tf : List He.Defn} {ex : PySem.W.Frag → Bool} {g : Addr → Option Obj} {s : Shared} (h : ∀ a, g a = s.heap.get? a) : obsN n fa fn tb tf ex g = (hookN n fa fn tb tf ex).obs s := by
  have e : g = s.heap.get? := funext h
  rw [e] <;> rfl
end Fk
/-! FkZq: slices of texts. -/
namespace Fk
open PySem PySem.Spec PyProof.Rows L2
section
variable {X : Cx} {T : List (Addr × Str)} {E : XK} {a : Expr} {fa : LE} {pos : Pos}
def oSlT : D → Option Int → Option Int → Store → Res D := fun d lo hi st => match d with
  | .str z => if z.length ≤ lim then .ok (.str (cutS z lo hi)) st else .stuck
  | _ => .stuck
def fSlT (fa : LE) (fl fh : Option LE) : LE := fun env st => (fa env st).bind fun d st1 => (fPart fl env st1).bind fun lo st2 => (fPart fh env st2).bind fun hi st3 => oSlT d lo hi st3
theorem x_slT {lo hi : Option Expr} {fl fh : Option LE} {p2 : Pos} (ha : PEf X T E a fa) (hl : POf X T E lo fl) (hh : POf X T E hi fh) : PEf X T E (.Subscript a (.Slice lo hi none p2) pos) (fSlT fa fl fh) := pe_to (pe_slice sl_str ha hl hh) fun w σ H env st Q e r p => by
  refine ⟨w, env, st, e, r, p.bind fun w1 x H1 d st1 s1 r1 dx p1 => ?_⟩
  refine ⟨w1, env, st1, e.mono s1.le, r1, Post.bind (rel := eqO) p1 fun w2 l H2 l' st2 s2 r2 dl p2 => ?_⟩
  cases (show l = l' from dl)
  refine ⟨w2, env, st2, (e.mono s1.le).mono s2.le, r2, Post.bind (rel := eqO) p2 fun w3 u H3 u' st3 s3 r3 du p3 => ?_⟩
  cases (show u = u' from du)
  have dx3 := (dx.mono s2.le).mono s3.le
  cases dx3 with
  | str z =>
    have p4 : Post X.K T E Dat w3 H3 (if z.length ≤ lim then .ok (.str (cutS z l u)) st3 else .stuck) Q := p3
    by_cases c : z.length ≤ lim
    · rw [if_pos c] at p4
      exact ⟨z, rfl, by rw [lim_eq]; exact c, p4.here r3 (.str _)⟩
    · rw [if_neg c] at p4
      exact p4.elim
  | non => exact p3.elim
  | bl b => exact p3.elim
  | int b => exact p3.elim
  | tup h1 h2 => exact p3.elim
  | lst h1 h2 => exact p3.elim
  | lck h1 h2 => exact p3.elim
  | ref h1 => exact p3.elim
end
/-! ### evaluated -/
def kSlT1 (fl fh : Option LE) (env : DEnv) : D → Store → Res D := fun d st1 => (fPart fl env st1).bind fun lo st2 => (fPart fh env st2).bind fun hi st3 => oSlT d lo hi st3
def kSlT2 (d : D) (fh : Option LE) (env : DEnv) : Option Int → Store → Res D := fun lo st2 => (fPart fh env st2).bind fun hi st3 => oSlT d lo hi st3
def kSlT3 (d : D) (lo : Option Int) : Option Int → Store → Res D := fun hi st3 => oSlT d lo hi st3
@[simp] theorem fSlT_eq (fa : LE) (fl fh : Option LE) (env : DEnv) (st : Store) : fSlT fa fl fh env st = (fa env st).bind (kSlT1 fl fh env) := (rfl)
@[simp] theorem kSlT1_eq (fl fh : Option LE) (env : DEnv) (d : D) (st : Store) : kSlT1 fl fh env d st = (fPart fl env st).bind (kSlT2 d fh env) := (rfl)
@[simp] theorem kSlT2_eq (d : D) (fh : Option LE) (env : DEnv) (lo : Option Int) (st : Store) : kSlT2 d fh env lo st = (fPart fh env st).bind (kSlT3 d lo) := (rfl)
@[simp] theorem kSlT3_eq (d : D) (lo hi : Option Int) (st : Store) : kSlT3 d lo hi st = oSlT d lo hi st := (rfl)
theorem oSlT_str {z : Str} (h : z.length ≤ lim) (lo hi : Option Int) (st : Store) : oSlT (.str z) lo hi st = .ok (.str (cutS z lo hi)) st := if_pos h
theorem cutS_mem {z : Str} {lo hi : Option Int} {c : Nat} (h : c ∈ (cutS z lo hi).cps.toList) : c ∈ z.cps.toList := by
  unfold cutS at h
  exact List.mem_of_mem_drop (List.mem_of_mem_take h)
theorem cutS_len (z : Str) (lo hi : Option Int) : (cutS z lo hi).length ≤ z.length := by
  show (((z.cps.toList.drop (HT.sIx z.length 0 lo)).take (HT.sIx z.length z.length hi - HT.sIx z.length 0 lo)).toArray).size ≤ z.cps.size
  rw [List.size_toArray, List.length_take, List.length_drop, Array.length_toList]
  omega
end Fk
namespace Fq
open PySem PySem.Spec PyProof.Rows L2 Fk
def top (i : Nat) : Stmt := PySem.Challenge.pw_fencekeep_k24_texts_refused.main.body.getD i (.Pass ⟨0, 0, 0, 0⟩)
abbrev s_l_start : Stmt := top 37
theorem sc_l_start : FnScope ["_law_script", "_law_mixed", "_law_cell"] ["_law_script"] (defScope s_l_start) := ⟨rfl, rfl, rfl, by decide +kernel, rfl, by decide +kernel, by decide +kernel⟩
def d_l_start : He.DefD := ⟨("_law_start", none), "_law_start", "_law_start", defArgs s_l_start, defBody s_l_start, defScope s_l_start, [], []⟩
abbrev s_l_drawn : Stmt := top 38
theorem sc_l_drawn : FnScope ["_law_state", "_law_many", "_law_found", "_law_cell"] ["_law_state", "_law_many"] (defScope s_l_drawn) := ⟨rfl, rfl, rfl, by decide +kernel, rfl, by decide +kernel, by decide +kernel⟩
def d_l_drawn : He.DefD := ⟨("_law_drawn", none), "_law_drawn", "_law_drawn", defArgs s_l_drawn, defBody s_l_drawn, defScope s_l_drawn, [], []⟩
abbrev s_l_row : Stmt := top 41
theorem sc_l_row : FnScope ["_law_state", "_law_bound", "_law_found", "_law_k", "_law_cell", "_law_worth", "_law_some"] ["_law_state", "_law_bound"] (defScope s_l_row) := ⟨rfl, rfl, rfl, by decide +kernel, rfl, by decide +kernel, by decide +kernel⟩
def d_l_row : He.DefD := ⟨("_law_row", none), "_law_row", "_law_row", defArgs s_l_row, defBody s_l_row, defScope s_l_row, [], []⟩
abbrev s_l_spoilt : Stmt := top 44
theorem sc_l_spoilt : FnScope ["_law_state", "_law_text", "_law_way", "_law_at", "_law_signs", "_law_sign", "_law_rows", "_law_k", "_law_words", "_law_j", "_law_odd"] ["_law_state", "_law_text"] (defScope s_l_spoilt) := ⟨rfl, rfl, rfl, by decide +kernel, rfl, by decide +kernel, by decide +kernel⟩
def d_l_spoilt : He.DefD := ⟨("_law_spoilt", none), "_law_spoilt", "_law_spoilt", defArgs s_l_spoilt, defBody s_l_spoilt, defScope s_l_spoilt, [], []⟩
abbrev s_l_same : Stmt := top 39
theorem sc_l_same : FnScope ["_law_found", "_law_due_here", "_law_alike", "_law_k"] ["_law_found", "_law_due_here"] (defScope s_l_same) := ⟨rfl, rfl, rfl, by decide +kernel, rfl, by decide +kernel, by decide +kernel⟩
def d_l_same : He.DefD := ⟨("_law_same", none), "_law_same", "_law_same", defArgs s_l_same, defBody s_l_same, defScope s_l_same, [], []⟩
abbrev s_l_number : Stmt := top 42
theorem sc_l_number : FnScope ["_law_word", "_law_sign"] ["_law_word"] (defScope s_l_number) := ⟨rfl, rfl, rfl, by decide +kernel, rfl, by decide +kernel, by decide +kernel⟩
def d_l_number : He.DefD := ⟨("_law_number", none), "_law_number", "_law_number", defArgs s_l_number, defBody s_l_number, defScope s_l_number, [], []⟩
abbrev s_l_due : Stmt := top 43
theorem sc_l_due : FnScope ["_law_text", "_law_found", "_law_rows", "_law_k", "_law_words", "_law_numbers", "_law_good", "_law_word"] ["_law_text"] (defScope s_l_due) := ⟨rfl, rfl, rfl, by decide +kernel, rfl, by decide +kernel, by decide +kernel⟩
def d_l_due : He.DefD := ⟨("_law_due", none), "_law_due", "_law_due", defArgs s_l_due, defBody s_l_due, defScope s_l_due, [], []⟩
abbrev s_number_of : Stmt := top 34
theorem sc_number_of : FnScope ["word", "sign"] ["word"] (defScope s_number_of) := ⟨rfl, rfl, rfl, by decide +kernel, rfl, by decide +kernel, by decide +kernel⟩
def d_number_of : He.DefD := ⟨("number_of", none), "number_of", "number_of", defArgs s_number_of, defBody s_number_of, defScope s_number_of, [], []⟩
abbrev s_is_number : Stmt := top 28
theorem sc_is_number : FnScope ["thing", "low", "high"] ["thing", "low", "high"] (defScope s_is_number) := ⟨rfl, rfl, rfl, by decide +kernel, rfl, by decide +kernel, by decide +kernel⟩
def d_is_number : He.DefD := ⟨("is_number", none), "is_number", "is_number", defArgs s_is_number, defBody s_is_number, defScope s_is_number, [], []⟩
abbrev s_is_worth : Stmt := top 29
theorem sc_is_worth : FnScope ["thing"] ["thing"] (defScope s_is_worth) := ⟨rfl, rfl, rfl, by decide +kernel, rfl, by decide +kernel, by decide +kernel⟩
def d_is_worth : He.DefD := ⟨("is_worth", none), "is_worth", "is_worth", defArgs s_is_worth, defBody s_is_worth, defScope s_is_worth, [], []⟩
abbrev s_is_deed : Stmt := top 30
theorem sc_is_deed : FnScope ["deed", "many", "word", "rest"] ["deed", "many"] (defScope s_is_deed) := ⟨rfl, rfl, rfl, by decide +kernel, rfl, by decide +kernel, by decide +kernel⟩
def d_is_deed : He.DefD := ⟨("is_deed", none), "is_deed", "is_deed", defArgs s_is_deed, defBody s_is_deed, defScope s_is_deed, [], []⟩
abbrev s_BadText_num : Stmt := inClass (top 18) 0
theorem sc_BadText_num : FnScope ["self", "row"] ["self", "row"] (defScope s_BadText_num) := ⟨rfl, rfl, rfl, by decide +kernel, rfl, by decide +kernel, by decide +kernel⟩
def d_BadText_num : He.DefD := ⟨("BadText", some "__init__"), "__init__", "BadText.__init__", defArgs s_BadText_num, defBody s_BadText_num, defScope s_BadText_num, [], []⟩
abbrev s_read : Stmt := top 35
theorem sc_read : FnScope ["text", "found", "number", "line", "word", "rest", "deed", "one"] ["text"] (defScope s_read) := ⟨rfl, rfl, rfl, by decide +kernel, rfl, by decide +kernel, by decide +kernel⟩
def d_read : He.DefD := ⟨("read", none), "read", "read", defArgs s_read, defBody s_read, defScope s_read, [], []⟩
abbrev s_l_kind : Stmt := top 40
theorem sc_l_kind : FnScope ["_law_work", "e", "_law_kinds", "_law_words", "_law_word"] ["_law_work"] (defScope s_l_kind) := ⟨rfl, rfl, rfl, by decide +kernel, rfl, by decide +kernel, by decide +kernel⟩
def d_l_kind : He.DefD := ⟨("_law_kind", none), "_law_kind", "_law_kind", defArgs s_l_kind, defBody s_l_kind, defScope s_l_kind, [], []⟩
abbrev s_law : Stmt := top 45
theorem sc_law : FnScope ["_law_script", "_law_state", "_law_odd", "_law_turn", "_law_text", "_law_change"] ["_law_script"] (defScope s_law) := ⟨rfl, rfl, rfl, by decide +kernel, rfl, by decide +kernel, by decide +kernel⟩
def d_law : He.DefD := ⟨("law", none), "law", "law", defArgs s_law, defBody s_law, defScope s_law, [], []⟩
def fn : List He.DefD := [d_l_start, d_l_drawn, d_l_row, d_l_spoilt, d_l_same, d_l_number, d_l_due, d_number_of, d_is_number, d_is_worth, d_is_deed, d_BadText_num, d_read, d_law, d_l_kind]
abbrev tfq : List TabQ := [(("law", none), "law")]
def fa : List He.Fa := [.glo "_law_start", .free "range", .free "len", .glo "_law_drawn", .free "str", .glo "_law_row", .free "int", .glo "_law_spoilt", .free "list", .free "tuple", .free "isinstance", .glo "_law_same", .free "bool", .glo "_law_number", .glo "_law_due", .free "enumerate", .str "FIGURES" "0123456789", .free "all", .int "MOST_FIGURES" 6, .glo "number_of", .glo "SIZES", .int "MOST_WORTH" 999999, .glo "is_number", .glo "is_worth", .int "MOST_CELLS" 256, .glo "is_deed", .int "MOST_DEEDS" 300, .glo "KeepError", .glo "BadText", .glo "read", .glo "TooMany", .glo "BadCount", .glo "BadDeed", .glo "BadCells", .glo "BadCell", .glo "BadSaying", .glo "Broken", .glo "BadRoot", .glo "BadKey", .glo "Gone", .glo "BadWorth", .glo "BadWrites", .glo "NoBlock", .glo "Busy", .glo "Full", .glo "BadHall", .free "ValueError", .glo "_law_kind", .glo "law"]
def tb : List TbD := [("SIZES", [("put", 3), ("flush", 2), ("fence", 1), ("swear", 3)])]
end Fq
namespace Fq
open PySem PySem.Spec PyProof.Rows L2 Fk
def nm0 : List Str := ["KeepError", "BadCells", "BadCount", "TooMany", "Broken", "BadSaying", "BadCell", "BadWorth", "Gone", "BadKey", "BadRoot", "Full", "Busy", "NoBlock", "BadDeed", "BadWrites", "BadHall", "BadText", "MOST_CELLS", "MOST_WORTH", "MOST_DEEDS", "PUT", "FLUSH", "FENCE", "SWEAR", "SIZES", "is_number", "is_worth", "is_deed", "FIGURES"]
def nm1 : List Str := ["MOST_FIGURES", "number_of", "read", "_law_start", "_law_drawn", "_law_same", "_law_kind", "_law_row", "_law_number", "_law_due", "_law_spoilt"]
abbrev nms : List Str := nm0 ++ nm1
abbrev R : PySem.W.OpenRow := PySem.W.OpenLaw.row PySem.Challenge.rw_fencekeep_k24_texts_refused
abbrev hk : PySem.W.Hook := hookN 6 fa fn tb (tfq.map (·.1)) (fun K => kindNB ["BadText"] K && apartB tfq K)
def ob (s : PySem.W.SharedT) : AlK := obsN 6 fa fn tb (tfq.map (·.1)) (fun K => kindNB ["BadText"] K && apartB tfq K) (HandSHeadRun.getT s)
theorem ob_eq (s : PySem.W.SharedT) : ob s = hk.obs s.abs := obsN_eq (HandSHeadRun.getT_eq s)
theorem runF (w : World) : HandSHeadRun.RunEq R (PySem.W.view R.prog [45]) hk ob 8000 nms (w.withFollow "special-get-raises" false) := fun os => by kernel_rfl
theorem runT (w : World) : HandSHeadRun.RunEq R (PySem.W.view R.prog [45]) hk ob 8000 nms (w.withFollow "special-get-raises" true) := fun os => by kernel_rfl
theorem run (w : World) : HandSHeadRun.RunEq R (PySem.W.view R.prog [45]) hk ob 8000 nms w :=
  PySem.W.byRow2 "special-get-raises" (P := fun w => HandSHeadRun.RunEq R (PySem.W.view R.prog [45]) hk ob 8000 nms w) runF runT w
end Fq
open PySem PySem.Spec PyProof.Rows L2
namespace Fk
/-! ### the plain functions -/
noncomputable def L_l_start_0 : LS := fAsg (fOp oMod (fOp oAdd (fOp oAdd (fOp oMul (fVar 1) (fC (.int 48271))) (fVar 2)) (fC (.int 7))) (fC (.int 2147483647))) (gN 1)
noncomputable def b_l_start : LS := fSeq (fAsg (fC (.int 1)) (gN 1)) (fSeq (fFor (iA (fVar 0)) (gN 2) (L_l_start_0)) (fRet (fLstC (fCons (fVar 0) (fCons (fC (.int 0)) (fCons (fVar 1) (fCons (fC (.int 0)) fNil)))))))
noncomputable abbrev m_l_start : FM := runB 3 b_l_start
noncomputable def b_l_drawn : LS := fSeq (fIfS (fTest (fOp oGt (fOp oIx (fVar 0) (fC (.int 3))) (fC (.int 0)))) (fSeq (fAsg (fOp oMod (fOp oIx (fVar 0) (fC (.int 3))) (fVar 1)) (gN 2)) (fSeq (fAsg (fOp oDiv (fOp oIx (fVar 0) (fC (.int 3))) (fVar 1)) (gSubL (fVar 0) (fC (.int 3)))) (fRet (fVar 2)))) (fNext)) (fSeq (fAsg (fOp oAdd (fOp oIx (fVar 0) (fC (.int 1))) (fC (.int 1))) (gSubL (fVar 0) (fC (.int 1)))) (fSeq (fIfS (fTest (fOp oLe (fOp oIx (fVar 0) (fC (.int 1))) (fCB oLen (fCons (fOp oIx (fVar 0) (fC (.int 0))) fNil)))) (fSeq (fAsg (fOp oIx (fOp oIx (fVar 0) (fC (.int 0))) (fOp oSub (fOp oIx (fVar 0) (fC (.int 1))) (fC (.int 1)))) (gN 3)) (fSeq (fAsg (fIf (fTest (fOp oGe (fVar 3) (fOp oPow (fC (.int 10)) (fC (.int 18))))) (fOp oDiv (fVar 3) (fVar 1)) (fC (.int 0))) (gSubL (fVar 0) (fC (.int 3)))) (fRet (fOp oMod (fVar 3) (fVar 1))))) (fNext)) (fSeq (fAsg (fOp oMod (fOp oAdd (fOp oMul (fOp oIx (fVar 0) (fC (.int 2))) (fC (.int 48271))) (fC (.int 11))) (fC (.int 2147483647))) (gSubL (fVar 0) (fC (.int 2)))) (fRet (fOp oMod (fOp oDiv (fOp oIx (fVar 0) (fC (.int 2))) (fC (.int 7))) (fVar 1))))))
noncomputable abbrev m_l_drawn : FM := runB 4 b_l_drawn
noncomputable def L_l_row_0 : LS := fSeq (fPar 4 5 (fCons (fCall 2 m_l_drawn (fCons (fVar 0) (fCons (fC (.int 256)) fNil))) (fCons (fCall 2 m_l_drawn (fCons (fVar 0) (fCons (fOp oIx (fLst (fCons (fC (.int 10)) (fCons (fC (.int 1000000)) fNil))) (fCall 2 m_l_drawn (fCons (fVar 0) (fCons (fC (.int 2)) fNil)))) fNil))) fNil))) (fSeq (fAsg (fLst (fCons (fOp oAdd (fOp oAdd (fOp oAdd (fC (.str "put ")) (fCB oStr (fCons (fVar 4) fNil))) (fC (.str " "))) (fCB oStr (fCons (fVar 5) fNil))) (fCons (fOp oAdd (fC (.str "flush ")) (fCB oStr (fCons (fVar 4) fNil))) (fCons (fC (.str "fence")) fNil)))) (gN 6)) (fDrop (fBM isL oApp (fVar 2) (fCons (fOp oIx (fOp oAdd (fVar 6) (fLst (fCons (fOp oAdd (fOp oAdd (fOp oAdd (fC (.str "swear ")) (fCB oStr (fCons (fVar 4) fNil))) (fC (.str " "))) (fCB oStr (fCons (fVar 5) fNil))) fNil))) (fCall 2 m_l_drawn (fCons (fVar 0) (fCons (fC (.int 4)) fNil)))) fNil))))
noncomputable def b_l_row : LS := fSeq (fAsg (fLstC fNil) (gN 2)) (fSeq (fFor (iR1 (fCons (fCall 2 m_l_drawn (fCons (fVar 0) (fCons (fVar 1) fNil))) fNil)) (gN 3) (L_l_row_0)) (fRet (fBM isS oJoin (fC (.str "\n")) (fCons (fVar 2) fNil))))
noncomputable abbrev m_l_row : FM := runB 7 b_l_row
noncomputable def b_l_spoilt : LS := fSeq (fPar 2 3 (fCons (fCall 2 m_l_drawn (fCons (fVar 0) (fCons (fC (.int 9)) fNil))) (fCons (fCall 2 m_l_drawn (fCons (fVar 0) (fCons (fOp oAdd (fCB oLen (fCons (fVar 1) fNil)) (fC (.int 1))) fNil))) fNil))) (fSeq (fAsg (fC (.str "0123456789 \n-+abcdefhlnprstuw!#$&'()*,./:;<=>?@ABCXYZ[]_{|}~")) (gN 4)) (fSeq (fAsg (fOp oIx (fVar 4) (fCall 2 m_l_drawn (fCons (fVar 0) (fCons (fOp oIx (fLst (fCons (fC (.int 13)) (fCons (fCB oLen (fCons (fVar 4) fNil)) fNil))) (fCall 2 m_l_drawn (fCons (fVar 0) (fCons (fC (.int 2)) fNil)))) fNil)))) (gN 5)) (fSeq (fIfS (fTest (fOp oLt (fVar 2) (fC (.int 3)))) (fRet (fOp oAdd (fOp oAdd (fSlT (fVar 1) none (some (fVar 3))) (fOp oIx (fLst (fCons (fVar 5) (fCons (fC (.str "")) (fCons (fVar 5) fNil)))) (fVar 2))) (fSlT (fVar 1) (some (fOp oAdd (fVar 3) (fCB oInt (fCons (fOp oGt (fVar 2) (fC (.int 0))) fNil)))) none))) (fNext)) (fSeq (fAsg (fBM isS oSplit (fVar 1) (fCons (fC (.str "\n")) fNil)) (gN 6)) (fSeq (fAsg (fCall 2 m_l_drawn (fCons (fVar 0) (fCons (fCB oLen (fCons (fVar 6) fNil)) fNil))) (gN 7)) (fSeq (fIfS (fTest (fOp oLt (fVar 2) (fC (.int 6)))) (fRet (fBM isS oJoin (fC (.str "\n")) (fCons (fOp oIx (fLst (fCons (fOp oAdd (fSl (fVar 6) none (some (fVar 7))) (fSl (fVar 6) (some (fOp oAdd (fVar 7) (fC (.int 1)))) none)) (fCons (fOp oAdd (fSl (fVar 6) none (some (fOp oAdd (fVar 7) (fC (.int 1))))) (fSl (fVar 6) (some (fVar 7)) none)) (fCons (fOp oAdd (fSl (fVar 6) (some (fVar 7)) none) (fSl (fVar 6) none (some (fVar 7)))) fNil)))) (fOp oSub (fVar 2) (fC (.int 3)))) fNil))) (fNext)) (fSeq (fAsg (fBM isS oSplit (fOp oIx (fVar 6) (fVar 7)) (fCons (fC (.str " ")) fNil)) (gN 8)) (fSeq (fAsg (fCall 2 m_l_drawn (fCons (fVar 0) (fCons (fCB oLen (fCons (fVar 8) fNil)) fNil))) (gN 9)) (fSeq (fAsg (fLst (fCons (fC (.str "")) (fCons (fC (.str "00")) (fCons (fC (.str "01")) (fCons (fC (.str "255")) (fCons (fC (.str "256")) (fCons (fC (.str "999999")) (fCons (fC (.str "1000000")) (fCons (fC (.str "-1")) (fCons (fC (.str "+1")) (fCons (fC (.str "1_0")) (fCons (fC (.str "0")) (fCons (fC (.str "fence")) (fCons (fC (.str "put")) (fCons (fC (.str "Put")) (fCons (fC (.str "swear")) fNil)))))))))))))))) (gN 10)) (fSeq (fAsg (fOp oAdd (fOp oAdd (fSl (fVar 8) none (some (fVar 9))) (fOp oIx (fLst (fCons (fLst fNil) (fCons (fOp oMulL (fLst (fCons (fOp oIx (fVar 8) (fVar 9)) fNil)) (fC (.int 2))) (fCons (fLst (fCons (fOp oIx (fVar 10) (fCall 2 m_l_drawn (fCons (fVar 0) (fCons (fC (.int 15)) fNil)))) fNil)) fNil)))) (fOp oSub (fVar 2) (fC (.int 6))))) (fSl (fVar 8) (some (fOp oAdd (fVar 9) (fC (.int 1)))) none)) (gN 8)) (fRet (fBM isS oJoin (fC (.str "\n")) (fCons (fOp oAdd (fOp oAdd (fSl (fVar 6) none (some (fVar 7))) (fLst (fCons (fBM isS oJoin (fC (.str " ")) (fCons (fVar 8) fNil)) fNil))) (fSl (fVar 6) (some (fOp oAdd (fVar 7) (fC (.int 1)))) none)) fNil)))))))))))))
noncomputable abbrev m_l_spoilt : FM := runB 11 b_l_spoilt
noncomputable def T_l_same_0 (self : FM) : LT := (fNot (fTest (fCall 2 (self) (fCons (fOp oIx (fVar 0) (fVar 3)) (fCons (fOp oIx (fVar 1) (fVar 3)) fNil)))))
noncomputable def b_l_same (self : FM) : LS := fSeq (fIfS (fTest (fIsiT [.tup, .lst] (fVar 1))) (fSeq (fIfS ((fOr (fNot (fTest (fIsiT [.tup, .lst] (fVar 0)))) (fTest (fOp oNe (fIsi .lst (fVar 0)) (fIsi .lst (fVar 1)))))) (fRet (fC (.bl false))) (fNext)) (fSeq (fIfS (fTest (fOp oNe (fCB oLen (fCons (fVar 0) fNil)) (fCB oLen (fCons (fVar 1) fNil)))) (fRet (fC (.bl false))) (fNext)) (fRet (fOp oEq (fLc (iR1 (fCons (fCB oLen (fCons (fVar 1) fNil)) fNil)) (gN 3) ((T_l_same_0 self)) (fVar 3) [3]) (fLst fNil))))) (fNext)) (fSeq (fAsg ((fAndV (fOp oEq (fIsi .bl (fVar 0)) (fIsi .bl (fVar 1))) (fOp oEq (fIsi .int (fVar 0)) (fIsi .int (fVar 1))))) (gN 2)) (fRet ((fAndV (fVar 2) (fOp oEq (fVar 0) (fVar 1))))))
noncomputable def m_l_same : Nat → FM
  | 0 => fun _ _ => .stuck
  | n + 1 => runB 4 (b_l_same (m_l_same n))
noncomputable def T_l_number_0 : LT := (fTest (fOp (oIn true) (fVar 1) (fC (.str "0123456789"))))
noncomputable def b_l_number : LS := fSeq (fIfS ((fOr (fNot (fTest (fChain oLe oLe (fC (.int 1)) (fCB oLen (fCons (fVar 0) fNil)) (fC (.int 6))))) (fTest (fOp oNe (fLc (iA (fVar 0)) (gN 1) (T_l_number_0) (fVar 1) [1]) (fLst fNil))))) (fRet (fOp oSub (fC (.int 0)) (fC (.int 1)))) (fNext)) (fRet (fIf ((fAnd (fTest (fOp oEq (fOp oIx (fVar 0) (fC (.int 0))) (fC (.str "0")))) (fTest (fOp oNe (fVar 0) (fC (.str "0")))))) (fOp oSub (fC (.int 0)) (fC (.int 1))) (fCB oInt (fCons (fVar 0) fNil))))
noncomputable abbrev m_l_number : FM := runB 2 b_l_number
noncomputable def E_l_due_0 : LE := (fCall 1 m_l_number (fCons (fVar 7) fNil))
noncomputable def L_l_due_1 : LS := fSeq (fAsg (fBM isS oSplit (fOp oIx (fVar 2) (fVar 3)) (fCons (fC (.str " ")) fNil)) (gN 4)) (fSeq (fAsg (fLc (iA (fSl (fVar 4) (some (fC (.int 1))) none)) (gN 7) (fYes) E_l_due_0 [7]) (gN 5)) (fSeq (fAsg ((fAndV (fOp oLt (fVar 3) (fC (.int 300))) (fOp oEq (fDget2 (fDisp (fPc (fC (.str "put")) (fC (.int 3)) (fPc (fC (.str "flush")) (fC (.int 2)) (fPc (fC (.str "fence")) (fC (.int 1)) (fPc (fC (.str "swear")) (fC (.int 3)) fPn))))) (fOp oIx (fVar 4) (fC (.int 0))) (fC (.int 0))) (fCB oLen (fCons (fVar 4) fNil))))) (gN 6)) (fSeq (fIfS ((fOr (fNot (fTest (fVar 6))) (fOr (fTest (fOp (oIn false) (fOp oSub (fC (.int 0)) (fC (.int 1))) (fVar 5))) ((fAnd (fTest (fOp oNe (fSl (fVar 5) none (some (fC (.int 1)))) (fLst fNil))) (fTest (fOp oGt (fOp oIx (fVar 5) (fC (.int 0))) (fC (.int 255))))))))) (fRet (fTup (fCons (fC (.str "BadText")) (fCons (fVar 3) fNil)))) (fNext)) (fDrop (fBM isL oApp (fVar 1) (fCons (fCB oTupOf (fCons (fOp oAdd (fSl (fVar 4) none (some (fC (.int 1)))) (fVar 5)) fNil)) fNil))))))
noncomputable def b_l_due : LS := fSeq (fAsg (fLstC fNil) (gN 1)) (fSeq (fAsg (fIf (fTest (fOp oNe (fVar 0) (fC (.str "")))) (fBM isS oSplit (fVar 0) (fCons (fC (.str "\n")) fNil)) (fLst fNil)) (gN 2)) (fSeq (fFor (iR1 (fCons (fCB oLen (fCons (fVar 2) fNil)) fNil)) (gN 3) (L_l_due_1)) (fRet (fFz (fVar 1)))))
noncomputable abbrev m_l_due : FM := runB 8 b_l_due
noncomputable def E_number_of_0 : LE := (fOp (oIn false) (fVar 1) (fC (.str "0123456789")))
noncomputable def b_number_of : LS := fSeq (fIfS ((fOr (fNot (fTest (fChain oLe oLe (fC (.int 1)) (fCB oLen (fCons (fVar 0) fNil)) (fC (.int 6))))) (fNot (fTest (fCB oAll (fCons (fLc (iA (fVar 0)) (gN 1) (fYes) E_number_of_0 [1]) fNil)))))) (fRet (fUn oNeg (fC (.int 1)))) (fNext)) (fRet (fIf ((fOr (fTest (fOp oEq (fVar 0) (fC (.str "0")))) (fTest (fOp oNe (fOp oIx (fVar 0) (fC (.int 0))) (fC (.str "0")))))) (fCB oInt (fCons (fVar 0) fNil)) (fUn oNeg (fC (.int 1)))))
noncomputable abbrev m_number_of : FM := runB 2 b_number_of
noncomputable def b_is_number : LS := fRet ((fAndV (fIsi .int (fVar 0)) (fAndV (fNotV (fIsi .bl (fVar 0))) (fChain oLe oLe (fVar 1) (fVar 0) (fVar 2)))))
noncomputable abbrev m_is_number : FM := runB 3 b_is_number
noncomputable def b_is_worth : LS := fRet (fCall 3 m_is_number (fCons (fVar 0) (fCons (fC (.int 0)) (fCons (fC (.int 999999)) fNil))))
noncomputable abbrev m_is_worth : FM := runB 1 b_is_worth
noncomputable def b_is_deed : LS := fSeq (fIfS ((fOr (fNot (fTest (fIsi .tup (fVar 0)))) (fOr (fTest (fOp oEq (fVar 0) (fTup fNil))) (fNot (fTest (fIsi .str (fOp oIx (fVar 0) (fC (.int 0))))))))) (fRet (fC (.bl false))) (fNext)) (fSeq (fAsg (fVar 0) (gSt (gN 2) (gN 3))) (fSeq (fIfS (fTest (fOp oNe (fGetI [("put", 3), ("flush", 2), ("fence", 1), ("swear", 3)] (fVar 2) 0) (fCB oLen (fCons (fVar 0) fNil)))) (fRet (fC (.bl false))) (fNext)) (fRet ((fOrV (fOp oEq (fVar 3) (fLst fNil)) ((fAndV (fCall 3 m_is_number (fCons (fOp oIx (fVar 3) (fC (.int 0))) (fCons (fC (.int 0)) (fCons (fOp oSub (fVar 1) (fC (.int 1))) fNil)))) ((fOrV (fOp oEq (fCB oLen (fCons (fVar 3) fNil)) (fC (.int 1))) (fCall 1 m_is_worth (fCons (fOp oIx (fVar 3) (fC (.int 1))) fNil)))))))))))
noncomputable abbrev m_is_deed : FM := runB 4 b_is_deed
noncomputable def E_read_0 : LE := (fCall 1 m_number_of (fCons (fVar 7) fNil))
noncomputable def L_read_1 : LS := fSeq (fAsg (fBM isS oSplit (fVar 3) (fCons (fC (.str " ")) fNil)) (gSt (gN 4) (gN 5))) (fSeq (fAsg (fCB oTupOf (fCons (fOp oAdd (fLst (fCons (fVar 4) fNil)) (fLc (iA (fVar 5)) (gN 7) (fYes) E_read_0 [7])) fNil)) (gN 6)) (fSeq (fIfS ((fOr (fTest (fOp oEq (fVar 2) (fC (.int 300)))) (fNot (fTest (fCall 2 m_is_deed (fCons (fVar 6) (fCons (fC (.int 256)) fNil))))))) (fRaiseN "BadText" "row" (fCons (fVar 2) fNil)) (fNext)) (fDrop (fBM isL oApp (fVar 1) (fCons (fVar 6) fNil)))))
noncomputable def b_read : LS := fSeq (fAsg (fLstC fNil) (gN 1)) (fSeq (fFor (iEn (fCons (fIf (fTest (fOp oNe (fVar 0) (fC (.str "")))) (fBM isS oSplit (fVar 0) (fCons (fC (.str "\n")) fNil)) (fLst fNil)) fNil)) (gTu [gN 2, gN 3]) (L_read_1)) (fRet (fFz (fVar 1))))
noncomputable abbrev m_read : FM := runB 8 b_read
noncomputable def L_law_0 : LS := fAsg (fCall 2 m_l_spoilt (fCons (fVar 1) (fCons (fVar 4) fNil))) (gN 4)
noncomputable def L_law_1 : LS := fSeq (fAsg (fCall 2 m_l_row (fCons (fVar 1) (fCons (fC (.int 9)) fNil))) (gN 4)) (fSeq (fIfS (fTest (fOp oEq (fCall 2 m_l_drawn (fCons (fVar 1) (fCons (fC (.int 5)) fNil))) (fC (.int 0)))) (fAsg (fOp oIx (fVar 2) (fCall 2 m_l_drawn (fCons (fVar 1) (fCons (fC (.int 17)) fNil)))) (gN 4)) (fNext)) (fSeq (fIfS (fTest (fOp oEq (fCall 2 m_l_drawn (fCons (fVar 1) (fCons (fC (.int 9)) fNil))) (fC (.int 0)))) (fAsg (fBM isS oJoin (fC (.str "\n")) (fCons (fOp oMulL (fLst (fCons (fC (.str "fence")) fNil)) (fOp oAdd (fC (.int 299)) (fCall 2 m_l_drawn (fCons (fVar 1) (fCons (fC (.int 4)) fNil))))) fNil)) (gN 4)) (fNext)) (fSeq (fFor (iR1 (fCons (fCall 2 m_l_drawn (fCons (fVar 1) (fCons (fC (.int 4)) fNil))) fNil)) (gN 5) (L_law_0)) (fIfS (fNot (fTest (fCall 2 (m_l_same 6) (fCons (fKindN ["BadText"] (fCall 1 m_read (fCons (fVar 4) fNil))) (fCons (fCall 1 m_l_due (fCons (fVar 4) fNil)) fNil))))) (fRet (fC (.bl false))) (fNext)))))
noncomputable def b_law : LS := fSeq (fAsg (fCall 1 m_l_start (fCons (fVar 0) fNil)) (gN 1)) (fSeq (fAsg (fLst (fCons (fC (.str "")) (fCons (fC (.str " ")) (fCons (fC (.str "\n")) (fCons (fC (.str "fence\n")) (fCons (fC (.str "fence\n\nfence")) (fCons (fC (.str "fence ")) (fCons (fC (.str " fence")) (fCons (fC (.str "put 256 0")) (fCons (fC (.str "put 255 999999")) fNil)))))))))) (gN 2)) (fSeq (fAsg (fOp oAdd (fVar 2) (fLst (fCons (fC (.str "put 0 1000000")) (fCons (fC (.str "flush")) (fCons (fC (.str "flush 1 2")) (fCons (fC (.str "fence 1")) (fCons (fC (.str "put 1")) (fCons (fC (.str "swear 1")) (fCons (fC (.str "put 00 1")) (fCons (fC (.str "put 1 -1")) fNil)))))))))) (gN 2)) (fSeq (fFor (iR1 (fCons (fC (.int 6)) fNil)) (gN 3) (L_law_1)) (fRet (fC (.bl true))))))
noncomputable abbrev m_law : FM := runB 6 b_law
end Fk
namespace Fk
/-! ### the draws -/
/-- the state of the draws stands at k -/
def Stt (ns : List Int) (st : Store) (k : Nat) : Prop := ∃ (at_ : Nat) (mixed rest : Int), st[k]? = some (.lst [.lck (ns.map D.int), .int at_, .int mixed, .int rest])
/-- all but k is as it was; there may be more -/
def Keeps (k : Nat) (st st' : Store) : Prop := st.length ≤ st'.length ∧ ∀ j, j < st.length → j ≠ k → st'[j]? = st[j]?
theorem Keeps.refl (k : Nat) (st : Store) : Keeps k st st := ⟨Nat.le_refl _, fun _ _ _ => rfl⟩
theorem Keeps.trans {k : Nat} {a b c : Store} (x : Keeps k a b) (y : Keeps k b c) : Keeps k a c := ⟨Nat.le_trans x.1 y.1, fun j h n => (y.2 j (Nat.lt_of_lt_of_le h x.1) n).trans (x.2 j h n)⟩
theorem Keeps.set {k : Nat} {st : Store} (c : Cell) : Keeps k st (st.set k c) := ⟨by simp, fun j _ h => List.getElem?_set_ne h.symm⟩
theorem Keeps.app {k : Nat} {st : Store} (c : Cell) : Keeps k st (st ++ [c]) := ⟨by simp, fun j h _ => List.getElem?_append_left h⟩
theorem Keeps.at_ {k j : Nat} {st st' : Store} {c : Cell} (x : Keeps k st st') (h : st[j]? = some c) (n : j ≠ k) : st'[j]? = some c := (x.2 j (List.getElem?_eq_some_iff.mp h).1 n).trans h
/-- a cell that was not there at first may be put -/
theorem Keeps.setNew {k f : Nat} {st st' : Store} (x : Keeps k st st') (hf : st.length ≤ f) (c : Cell) : Keeps k st (st'.set f c) := ⟨by simpa using x.1, fun j h n => by
  rw [List.getElem?_set_ne (by omega)]
  exact x.2 j h n⟩
theorem set_at {st : Store} {k : Nat} {c c' : Cell} (h : st[k]? = some c) : (st.set k c')[k]? = some c' := List.getElem?_set_self (List.getElem?_eq_some_iff.mp h).1
theorem drawn_spec {ns : List Int} {st : Store} {k : Nat} (S : Stt ns st k) {many : Int} (h0 : 0 < many) (h1 : many < 1073741824) :
    ∃ v st', m_l_drawn [.ref k, .int many] st = .ok (.int v) st' ∧ 0 ≤ v ∧ v < many ∧ Stt ns st' k ∧ Keeps k st st' := by
  obtain ⟨at_, mixed, rest, hs⟩ := S
  have hd : (decide (0 < many ∧ many < 1073741824)) = true := decide_eq_true ⟨h0, h1⟩
  have hm : (decide (0 < many)) = true := decide_eq_true h0
  have rd : ∀ xs i, oIx (.ref k) (.int i) (st.set k (.lst xs)) = pickD (atI xs i) (st.set k (.lst xs)) := fun xs i => oIx_ref (set_at hs) i
  have wr0 : ∀ v env, gSubK2 v env (.ref k) (.int 3) st = .nx env (st.set k (.lst [.lck (ns.map D.int), .int at_, .int mixed, v])) := fun v env => gSubK2_ref hs (j := 3) rfl (by simp) v env
  have wr1 : ∀ v env, gSubK2 v env (.ref k) (.int 1) st = .nx env (st.set k (.lst [.lck (ns.map D.int), v, .int mixed, .int rest])) := fun v env => gSubK2_ref hs (j := 1) rfl (by simp) v env
  have wr2 : ∀ a b c d v env, gSubK2 v env (.ref k) (.int 2) (st.set k (.lst [a, b, c, d])) = .nx env (st.set k (.lst [a, b, v, d])) := fun a b c d v env => (gSubK2_ref (set_at hs) (j := 2) rfl (by simp) v env).trans (by rw [List.set_set]; rfl)
  have wr3 : ∀ a b c d v env, gSubK2 v env (.ref k) (.int 3) (st.set k (.lst [a, b, c, d])) = .nx env (st.set k (.lst [a, b, c, v])) := fun a b c d v env => (gSubK2_ref (set_at hs) (j := 3) rfl (by simp) v env).trans (by rw [List.set_set]; rfl)
  have e0 : ∀ x : Int, 0 ≤ x % many := fun x => Int.emod_nonneg _ (by omega)
  have e1 : ∀ x : Int, x % many < many := fun x => Int.emod_lt_of_pos _ h0
  have fin : ∀ (a : Nat) (m r : Int), Stt ns (st.set k (.lst [.lck (ns.map D.int), .int a, .int m, .int r])) k ∧ Keeps k st (st.set k (.lst [.lck (ns.map D.int), .int a, .int m, .int r])) := fun a m r => ⟨⟨a, m, r, set_at hs⟩, Keeps.set _⟩
  have hw : ∀ i : Int, cMul i 48271 = true := fun i => cMul_r (by decide)
  have hp : (10 : Int) ^ (18 : Int).toNat = 1000000000000000000 := by decide
  unfold m_l_drawn
  rw [runB_eq]
  unfold b_l_drawn
  by_cases c : 0 < rest
  · exact ⟨rest % many, _, by simp [hs, oIx_ref hs, c, hd, hm, h0, h1, wr0], e0 _, e1 _, fin at_ mixed (rest / many)⟩
  by_cases c2 : (at_ : Int) + 1 ≤ ns.length
  · obtain ⟨x, hx⟩ : ∃ x, ns[at_]? = some x := ⟨ns[at_]'(by omega), List.getElem?_eq_getElem _⟩
    have hx2 : atI (ns.map D.int) (at_ : Int) = some (D.int x) := by
      rw [atI_nat (by rw [List.length_map]; omega), List.getElem?_map, hx]
      rfl
    have ea : (at_ : Int) + 1 - 1 = at_ := by omega
    have en : (at_ : Int) + 1 = ((at_ + 1 : Nat) : Int) := rfl
    by_cases c3 : 1000000000000000000 ≤ x
    · exact ⟨x % many, _, by simp [hs, oIx_ref hs, c, hd, hm, h0, h1, wr1, wr3, rd, c2, hx2, ea, c3, hp], e0 _, e1 _, fin (at_ + 1) mixed (x / many)⟩
    · exact ⟨x % many, _, by simp [hs, oIx_ref hs, c, hd, hm, h0, h1, wr1, wr3, rd, c2, hx2, ea, c3, hp], e0 _, e1 _, fin (at_ + 1) mixed 0⟩
  · exact ⟨(mixed * 48271 + 11) % 2147483647 / 7 % many, _, by simp [hs, oIx_ref hs, c, hd, hm, h0, h1, wr1, wr2, rd, c2, hw], e0 _, e1 _, fin (at_ + 1) ((mixed * 48271 + 11) % 2147483647) rest⟩
theorem start_spec (ns : List Int) (st : Store) : ∃ mixed : Int, m_l_start [.lck (ns.map D.int)] st = .ok (.ref st.length) (st ++ [.lst [.lck (ns.map D.int), .int (0 : Nat), .int mixed, .int 0]]) := by
  have hw : ∀ i : Int, cMul i 48271 = true := fun i => cMul_r (by decide)
  obtain ⟨e, s, h1, m, rfl, o, he⟩ := forRun_inv (g := gT) (lg := gN 2) (body := fAsg (fOp oMod (fOp oAdd (fOp oAdd (fOp oMul (fVar 1) (fC (.int 48271))) (fVar 2)) (fC (.int 7))) (fC (.int 2147483647))) (gN 1)) (items := ns.map D.int)
    (fun _ e s => ∃ m : Int, s = st ∧ ∃ o, e = [some (.lck (ns.map D.int)), some (.int m), o]) (fun _ _ _ _ => rfl)
    (fun i d e s hd ⟨m, hs, o, he⟩ => by
      rw [List.getElem?_map] at hd
      cases q : ns[i]? with
      | none => rw [q] at hd; cases hd
      | some x =>
        rw [q] at hd
        cases hd
        subst hs he
        refine ⟨_, _, _, _, rfl, .inl (by simp [hw]; exact ⟨rfl, rfl⟩), _, rfl, _, rfl⟩) (env := [some (.lck (ns.map D.int)), some (.int 1), none]) (st := st) ⟨1, rfl, none, rfl⟩
  subst he
  refine ⟨m, ?_⟩
  unfold m_l_start
  rw [runB_eq]
  simp only [b_l_start, L_l_start_0]
  simp [h1]
theorem Stt.lt {ns : List Int} {st : Store} {k : Nat} (S : Stt ns st k) : k < st.length := by
  obtain ⟨_, _, _, h⟩ := S
  exact (List.getElem?_eq_some_iff.mp h).1
theorem Stt.app {ns : List Int} {st : Store} {k : Nat} (S : Stt ns st k) (c : Cell) : Stt ns (st ++ [c]) k := by
  have hl := S.lt
  obtain ⟨a, b, d, h⟩ := S
  exact ⟨a, b, d, by rw [List.getElem?_append_left hl]; exact h⟩
theorem Stt.set {ns : List Int} {st : Store} {k f : Nat} (S : Stt ns st k) (h : f ≠ k) (c : Cell) : Stt ns (st.set f c) k := by
  obtain ⟨a, b, d, e⟩ := S
  exact ⟨a, b, d, by rw [List.getElem?_set_ne h]; exact e⟩
theorem Stt.keep {ns : List Int} {st st' : Store} {k : Nat} (S : Stt ns st k) (h : st'[k]? = st[k]?) : Stt ns st' k := by
  obtain ⟨a, b, c, e⟩ := S
  exact ⟨a, b, c, by rw [h]; exact e⟩
/-! ### what is told and what is due, the same -/
mutual
/-- what a thing looks like, cells seen through -/
inductive Sees (st : Store) : D → D → Prop
  | non : Sees st .non .non
  | bl (b : Bool) : Sees st (.bl b) (.bl b)
  | int (b : Int) : Sees st (.int b) (.int b)
  | str (b : Str) : Sees st (.str b) (.str b)
  | tup {xs ys : List D} : Seess st xs ys → Sees st (.tup xs) (.tup ys)
  | lst {xs ys : List D} : Seess st xs ys → Sees st (.lst xs) (.lst ys)
  | lck {xs ys : List D} : Seess st xs ys → Sees st (.lck xs) (.lst ys)
  | ref {k : Nat} {xs ys : List D} : st[k]? = some (.lst xs) → Seess st xs ys → Sees st (.ref k) (.lst ys)
inductive Seess (st : Store) : List D → List D → Prop
  | nil : Seess st [] []
  | cons {x y : D} {xs ys : List D} : Sees st x y → Seess st xs ys → Seess st (x :: xs) (y :: ys)
end
theorem Seess.length {st : Store} : ∀ {xs ys : List D}, Seess st xs ys → xs.length = ys.length
  | _, _, .nil => rfl
  | _, _, .cons _ r => congrArg Nat.succ r.length
theorem Seess.get {st : Store} : ∀ {xs ys : List D} {i : Nat}, Seess st xs ys → i < ys.length → ∃ x y, xs[i]? = some x ∧ ys[i]? = some y ∧ Sees st x y
  | _, _, i, .nil, h => absurd h (Nat.not_lt_zero _)
  | _, _, 0, .cons h _, _ => ⟨_, _, rfl, rfl, h⟩
  | _, _, i + 1, .cons _ r, h => by
    obtain ⟨x, y, h1, h2, h3⟩ := r.get (i := i) (by simpa using h)
    exact ⟨x, y, by simpa using h1, by simpa using h2, h3⟩
mutual
theorem sees_self {st : Store} : ∀ d : D, clrD d = true → Sees st d d
  | .non, _ => .non
  | .int b, _ => .int b
  | .str b, _ => .str b
  | .tup xs, h => .tup (seess_self xs (by simpa [clrD] using h))
  | .lst xs, h => .lst (seess_self xs (by simpa [clrD] using h))
  | .bl _, h => by simp [clrD] at h
  | .lck _, h => by simp [clrD] at h
  | .ref _, h => by simp [clrD] at h
theorem seess_self {st : Store} : ∀ ds : List D, clrDs ds = true → Seess st ds ds
  | [], _ => .nil
  | x :: xs, h => by
    have h' : clrD x = true ∧ clrDs xs = true := by simpa [clrDs] using h
    exact .cons (sees_self x h'.1) (seess_self xs h'.2)
end
mutual
/-- its lists are not too long -/
def lenD : D → Prop
  | .tup xs | .lst xs | .lck xs => xs.length ≤ 1000000 ∧ lenDs xs
  | .non | .bl _ | .int _ | .str _ | .ref _ => True
def lenDs : List D → Prop
  | [] => True
  | x :: xs => lenD x ∧ lenDs xs
end
theorem lenDs_all {xs : List D} : lenDs xs ↔ ∀ x ∈ xs, lenD x := by
  induction xs with
  | nil => simp [lenDs]
  | cons x xs ih => simp [lenDs, ih]
def isLst : D → Bool
  | .lst _ => true
  | _ => false
/-- a list or tuple: what is read of it -/
theorem sees_seq {st : Store} {a x : D} {ys : List D} (h : Sees st a x) (hx : x = .tup ys ∨ x = .lst ys) : ∃ xs, Seess st xs ys ∧ oLen [a] st = .ok (.int ys.length) st ∧ (∀ i, oIx a (.int i) st = pickD (atI xs i) st) ∧ kIsiT [.tup, .lst] a st = .ok (.bl true) st ∧
    kIsi .lst a st = .ok (.bl (isLst x)) st := by
  cases h with
  | tup r =>
    rcases hx with hx | hx <;> cases hx
    exact ⟨_, r, by rw [oLen_tup, r.length], fun i => oIx_tup _ _ _, rfl, rfl⟩
  | lst r =>
    rcases hx with hx | hx <;> cases hx
    exact ⟨_, r, by rw [oLen_lst, r.length], fun i => oIx_lst _ _ _, rfl, rfl⟩
  | lck r =>
    rcases hx with hx | hx <;> cases hx
    exact ⟨_, r, by rw [oLen_lck, r.length], fun i => oIx_lck _ _ _, rfl, rfl⟩
  | @ref k _ _ hk r =>
    rcases hx with hx | hx <;> cases hx
    have e : kdOf (.ref k) st = some .lst := by
      show (match rdOf (.ref k) st with | some _ => some Kd.lst | none => none) = _
      rw [rdOf_ref hk]
    exact ⟨_, r, by rw [oLen_ref hk, r.length], fun i => oIx_ref hk i, kIsiT_of e, kIsi_of e⟩
  | _ => rcases hx with hx | hx <;> cases hx
theorem same_seq {st : Store} {f : FM} {a b x : D} {ys : List D} (ha : Sees st a x) (hb : Sees st b x) (hx : x = .tup ys ∨ x = .lst ys) (hl : ys.length ≤ 1000000)
    (ih : ∀ (i : Nat) (u v y : D), ys[i]? = some y → Sees st u y → Sees st v y → f [u, v] st = .ok (.bl true) st) : runB 4 (b_l_same f) [a, b] st = .ok (.bl true) st := by
  obtain ⟨as, ra, la, xa, ta, ka⟩ := sees_seq ha hx
  obtain ⟨bs, rb, lb, xb, tb, kb⟩ := sees_seq hb hx
  have hlc : ∀ env : DEnv, env[0]? = some (some a) → env[1]? = some (some b) → env.length = 4 → lcRun gT (gN 3) (fNot (fTest (fCall 2 f (fCons (fOp oIx (fVar 0) (fVar 3)) (fCons (fOp oIx (fVar 1) (fVar 3)) fNil))))) (fVar 3) env (rgD 0 1 ys.length) st = .ok [] st := fun env e0 e1 el => by
    have := lcRun_pure (g := gT) (lg := gN 3) (ft := fNot (fTest (fCall 2 f (fCons (fOp oIx (fVar 0) (fVar 3)) (fCons (fOp oIx (fVar 1) (fVar 3)) fNil))))) (fe := fVar 3) (envw := env) (st := st) rfl (items := rgD 0 1 ys.length) (fun _ => false) id fun d hd => by
      obtain ⟨i, hi⟩ := List.getElem?_of_mem hd
      obtain ⟨hlt, rfl⟩ := rgD_get hi
      obtain ⟨u, y, hu, hy, su⟩ := ra.get hlt
      obtain ⟨v, y', hv, hy', sv⟩ := rb.get hlt
      rw [hy] at hy'
      cases hy'
      have ez : (0 : Int) + (i : Nat) * 1 = (i : Nat) := by omega
      refine ⟨_, rfl, ?_, (by intro h; cases h)⟩
      have a0 : (env.set 3 (some (.int (0 + (i : Nat) * 1))))[0]? = some (some a) := by rw [List.getElem?_set_ne (by decide), e0]
      have a1 : (env.set 3 (some (.int (0 + (i : Nat) * 1))))[1]? = some (some b) := by rw [List.getElem?_set_ne (by decide), e1]
      have a3 : (env.set 3 (some (.int (0 + (i : Nat) * 1))))[3]? = some (some (.int (i : Nat))) := by rw [List.getElem?_set_self (by omega), ez]
      have i1 : atI as (i : Int) = some u := by rw [atI_nat (by rw [ra.length]; exact hlt), hu]
      have i2 : atI bs (i : Int) = some v := by rw [atI_nat (by rw [rb.length]; exact hlt), hv]
      have hf := ih i u v y hy su sv
      simp only [fNot_eq, fTest_eq, fCall_eq, fCons_eq, fOp_eq, fVar_eq, a0, a1, a3, atV_some, Res.bind_at, kOp1_eq, xa, xb, i1, i2, pickD_some, kCons1_eq, fNil_eq, kCons2_eq, kCall_2, hf, kTest_bl, kNot_eq, Bool.not_true]
    rw [this, List.filter_eq_nil_iff.mpr (fun _ _ => Bool.false_ne_true)]
    rfl
  have hr := kR1_of (j := (ys.length : Int)) (by omega) st
  have hz : oEq (.lst []) (.lst []) st = .ok (.bl true) st := oEq_nil (by simp [rdyDs]) (by simp [depDs]) st
  have hlc2 : ∀ env : DEnv, env[0]? = some (some a) → env[1]? = some (some b) → env.length = 4 → kLc (gN 3) (fNot (fTest (fCall 2 f (fCons (fOp oIx (fVar 0) (fVar 3)) (fCons (fOp oIx (fVar 1) (fVar 3)) fNil))))) (fVar 3) env (rgD 0 1 ys.length, gT) st = .ok (.lst []) st := fun env e0 e1 el => kLc_of (ys := []) (hlc env e0 e1 el) (Nat.zero_le _)
  rw [runB_eq]
  simp only [b_l_same, T_l_same_0]
  simp [ta, tb, ka, kb, la, lb, hr, hlc2, hz]
theorem same_sees : ∀ (n : Nat) {st : Store} {a b x : D}, Sees st a x → Sees st b x → rdyD x = true → lenD x → depD x < n → m_l_same n [a, b] st = .ok (.bl true) st
  | 0, _, _, _, _, _, _, _, _, h => absurd h (Nat.not_lt_zero _)
  | n + 1, st, a, b, x, ha, hb, hr, hl, hd => by
    show runB 4 (b_l_same (m_l_same n)) [a, b] st = _
    have seq : ∀ ys, (x = .tup ys ∨ x = .lst ys) → runB 4 (b_l_same (m_l_same n)) [a, b] st = .ok (.bl true) st := fun ys hx => by
      have h1 : rdyDs ys = true := by rcases hx with hx | hx <;> (rw [hx] at hr; simpa [rdyD] using hr)
      have h2 : ys.length ≤ 1000000 ∧ lenDs ys := by rcases hx with hx | hx <;> (rw [hx] at hl; simpa [lenD] using hl)
      have h3 : depDs ys < n := by rcases hx with hx | hx <;> (rw [hx] at hd; simp [depD] at hd; exact hd)
      refine same_seq ha hb hx h2.1 fun i u v y hy su sv => ?_
      have hm := List.mem_of_getElem? hy
      exact same_sees n su sv (rdyDs_all.mp h1 y hm) (lenDs_all.mp h2.2 y hm) (Nat.lt_of_le_of_lt (depDs_le.mp (Nat.le_refl _) y hm) h3)
    have one : oEq x x st = .ok (.bl true) st → a = x → b = x → (∀ k, kIsiT [.tup, .lst] x st = .ok (.bl k) st → k = false) → (∃ k, kIsiT [.tup, .lst] x st = .ok (.bl k) st) → (∃ k, kIsi .bl x st = .ok (.bl k) st) → (∃ k, kIsi .int x st = .ok (.bl k) st) → runB 4 (b_l_same (m_l_same n)) [a, b] st = .ok (.bl true) st := fun he ea eb h0 ⟨k0, h1⟩ ⟨k1, h2⟩ ⟨k2, h3⟩ => by
      subst ea
      subst eb
      have := h0 _ h1
      subst this
      rw [runB_eq]
      simp only [b_l_same, T_l_same_0]
      simp [h1, h2, h3, he]
    cases x with
    | tup ys => exact seq ys (.inl rfl)
    | lst ys => exact seq ys (.inr rfl)
    | non =>
      cases ha; cases hb
      exact one (by rw [oEq_rdy (by simp [rdyD]) (by simp [rdyD]) (by simp [depD]) (by simp [depD])]; simp [eqD]) rfl rfl (fun k h => by simp at h; exact h) ⟨_, rfl⟩ ⟨_, rfl⟩ ⟨_, rfl⟩
    | bl c =>
      cases ha; cases hb
      exact one (by simp) rfl rfl (fun k h => by simp at h; exact h) ⟨_, rfl⟩ ⟨_, rfl⟩ ⟨_, rfl⟩
    | int c =>
      cases ha; cases hb
      exact one (by simp) rfl rfl (fun k h => by simp at h; exact h) ⟨_, rfl⟩ ⟨_, rfl⟩ ⟨_, rfl⟩
    | str c =>
      cases ha; cases hb
      exact one (by rw [oEq_str (by simpa [rdyD] using hr) (by simpa [rdyD] using hr)]; simp) rfl rfl (fun k h => by simp at h; exact h) ⟨_, rfl⟩ ⟨_, rfl⟩ ⟨_, rfl⟩
    | lck _ => cases ha
    | ref _ => cases ha
/-! ### texts that are joined and split -/
/-- joined with one sign -/
def jn (c : Nat) : List (List Nat) → List Nat
  | [] => []
  | [x] => x
  | x :: y :: r => x ++ c :: jn c (y :: r)
theorem jn_cons {c : Nat} {x : List Nat} {l : List (List Nat)} (h : l ≠ []) : jn c (x :: l) = x ++ c :: jn c l := by
  cases l with
  | nil => exact absurd rfl h
  | cons y r => rfl
theorem join_cps (c : Nat) : ∀ ps : List Str, (Str.join ⟨#[c]⟩ ps).cps.toList = jn c (ps.map fun p => p.cps.toList)
  | [] => rfl
  | [x] => rfl
  | x :: y :: r => by
    have ih := join_cps c (y :: r)
    show (x ++ (⟨#[c]⟩ : Str) ++ Str.join ⟨#[c]⟩ (y :: r)).cps.toList = _
    rw [Str.cps_append, Str.cps_append, Array.toList_append, Array.toList_append, ih]
    simp [jn]
theorem cut_one {c : Nat} : ∀ {a b u v : List Nat}, c ∉ a → c ∉ b → a ++ c :: u = b ++ c :: v → a = b ∧ u = v
  | [], [], u, v, _, _, h => by simpa using h
  | [], y :: b, u, v, _, h2, h => by
    have e := (List.cons.inj h).1
    exact absurd (by rw [e]; exact List.mem_cons_self) h2
  | x :: a, [], u, v, h1, _, h => by
    have e := (List.cons.inj h).1
    exact absurd (by rw [← e]; exact List.mem_cons_self) h1
  | x :: a, y :: b, u, v, h1, h2, h => by
    obtain ⟨e1, e2⟩ := List.cons.inj h
    obtain ⟨e3, e4⟩ := cut_one (fun z => h1 (List.mem_cons_of_mem _ z)) (fun z => h2 (List.mem_cons_of_mem _ z)) e2
    rw [e1, e3]
    exact ⟨rfl, e4⟩
theorem jn_inj {c : Nat} : ∀ {a b : List (List Nat)}, a ≠ [] → b ≠ [] → (∀ p ∈ a, c ∉ p) → (∀ p ∈ b, c ∉ p) → jn c a = jn c b → a = b
  | [], _, h, _, _, _, _ => absurd rfl h
  | _, [], _, h, _, _, _ => absurd rfl h
  | [x], [y], _, _, _, _, h => by
    have e : x = y := h
    rw [e]
  | [x], y :: z :: r, _, _, h1, h2, h => by
    have e : x = y ++ c :: jn c (z :: r) := h
    exact absurd (by rw [e]; simp) (h1 x List.mem_cons_self)
  | x :: z :: r, [y], _, _, h1, h2, h => by
    have e : x ++ c :: jn c (z :: r) = y := h
    exact absurd (by rw [← e]; simp) (h2 y List.mem_cons_self)
  | x :: z :: r, y :: w :: q, _, _, h1, h2, h => by
    have e : x ++ c :: jn c (z :: r) = y ++ c :: jn c (w :: q) := h
    obtain ⟨e1, e2⟩ := cut_one (h1 x List.mem_cons_self) (h2 y List.mem_cons_self) e
    rw [e1, jn_inj (by simp) (by simp) (fun p hp => h1 p (List.mem_cons_of_mem _ hp)) (fun p hp => h2 p (List.mem_cons_of_mem _ hp)) e2]
theorem cps_inj {a b : Str} (h : a.cps.toList = b.cps.toList) : a = b := by
  cases a
  cases b
  have := Array.toList_inj.mp h
  rw [Str.mk.injEq]
  exact this
theorem map_cps_inj : ∀ {a b : List Str}, (a.map fun p => p.cps.toList) = (b.map fun p => p.cps.toList) → a = b
  | [], [], _ => rfl
  | [], _ :: _, h => by cases h
  | _ :: _, [], h => by cases h
  | x :: a, y :: b, h => by
    obtain ⟨e1, e2⟩ := List.cons.inj h
    rw [cps_inj e1, map_cps_inj e2]
/-- split at a sign what was joined with it -/
theorem split_join {c : Nat} {ps : List Str} (hne : ps ≠ []) (hf : ∀ p ∈ ps, c ∉ p.cps.toList) : Txt.split (Txt.join ⟨#[c]⟩ ps) ⟨#[c]⟩ = ps := by
  have h1 := StrLaws.join_split (Txt.join ⟨#[c]⟩ ps) ⟨#[c]⟩
  have h2 := StrLaws.split_free (Txt.join ⟨#[c]⟩ ps) c
  have h3 : Txt.join ⟨#[c]⟩ ps = Str.join ⟨#[c]⟩ ps := StrLaws.glued_eq_join _ _
  have h4 : Txt.split (Txt.join ⟨#[c]⟩ ps) ⟨#[c]⟩ ≠ [] := fun z => by
    have := PyProof.Rows.split_pos (Txt.join ⟨#[c]⟩ ps) ⟨#[c]⟩
    rw [z] at this
    exact absurd this (by decide)
  refine map_cps_inj (jn_inj (c := c) (by simpa using h4) (by simpa using hne) (fun p hp => ?_) (fun p hp => ?_) ?_)
  · obtain ⟨q, hq, rfl⟩ := List.mem_map.mp hp
    exact h2 q hq
  · obtain ⟨q, hq, rfl⟩ := List.mem_map.mp hp
    exact hf q hq
  · have h5 := congrArg (fun z : Str => z.cps.toList) (h1.trans h3)
    rw [join_cps, join_cps] at h5
    exact h5
/-- a split of any text, by its pieces -/
theorem split_sp (c : Nat) (x : Str) : Txt.split x ⟨#[c]⟩ ≠ [] ∧ (∀ p ∈ Txt.split x ⟨#[c]⟩, c ∉ p.cps.toList) ∧ Txt.join ⟨#[c]⟩ (Txt.split x ⟨#[c]⟩) = x := by
  refine ⟨fun z => ?_, StrLaws.split_free x c, ?_⟩
  · have := PyProof.Rows.split_pos x ⟨#[c]⟩
    rw [z] at this
    exact absurd this (by decide)
  · have h3 : Txt.join ⟨#[c]⟩ (Txt.split x ⟨#[c]⟩) = Str.join ⟨#[c]⟩ (Txt.split x ⟨#[c]⟩) := StrLaws.glued_eq_join _ _
    rw [h3]
    exact StrLaws.join_split x ⟨#[c]⟩
theorem join_len (sep : Str) (ps : List Str) : (Txt.join sep ps).length ≤ (ps.map (·.length)).sum + ps.length * sep.length := by
  have h3 : Txt.join sep ps = Str.join sep ps := StrLaws.glued_eq_join _ _
  rw [h3]
  exact StrLaws.join_length_le sep ps
theorem jn_mem {c z : Nat} : ∀ {l : List (List Nat)}, z ∈ jn c l → z = c ∨ ∃ p ∈ l, z ∈ p
  | [], h => by cases h
  | [x], h => .inr ⟨x, List.mem_cons_self, h⟩
  | x :: y :: r, h => by
    have h' : z ∈ x ++ c :: jn c (y :: r) := h
    rcases List.mem_append.mp h' with h | h
    · exact .inr ⟨x, List.mem_cons_self, h⟩
    · rcases List.mem_cons.mp h with h | h
      · exact .inl h
      · rcases jn_mem h with h | ⟨p, hp, h⟩
        · exact .inl h
        · exact .inr ⟨p, List.mem_cons_of_mem _ hp, h⟩
theorem join_mem {c z : Nat} {ps : List Str} (h : z ∈ (Txt.join ⟨#[c]⟩ ps).cps.toList) : z = c ∨ ∃ p ∈ ps, z ∈ p.cps.toList := by
  have h3 : Txt.join ⟨#[c]⟩ ps = Str.join ⟨#[c]⟩ ps := StrLaws.glued_eq_join _ _
  rw [h3, join_cps] at h
  rcases jn_mem h with h | ⟨p, hp, h⟩
  · exact .inl h
  · obtain ⟨q, hq, rfl⟩ := List.mem_map.mp hp
    exact .inr ⟨q, hq, h⟩
theorem strOk_of {x : Str} (h : ∀ c ∈ x.cps.toList, c < 1114112) : PyData.strOk x = true := by
  unfold PyData.strOk
  rw [Array.all_eq_true']
  intro c hc
  exact decide_eq_true (h c (Array.mem_toList_iff.mpr hc))
theorem strOk_mem {x : Str} (h : PyData.strOk x = true) {c : Nat} (hc : c ∈ x.cps.toList) : c < 1114112 := by
  unfold PyData.strOk at h
  rw [Array.all_eq_true'] at h
  exact of_decide_eq_true (h c (Array.mem_toList_iff.mp hc))
/-! ### a number's text -/
abbrev tx (n : Int) : Str := ((toString n : String) : Str)
theorem tx_digits {n : Int} (h0 : 0 ≤ n) : ∀ c ∈ (tx n).cps.toList, 48 ≤ c ∧ c ≤ 57 := by
  obtain ⟨m, rfl⟩ := Int.eq_ofNat_of_zero_le h0
  intro c hc
  have hc' : c ∈ (Str.ofString (toString ((m : Nat) : Int))).cps.toList := hc
  rw [PySem.W.KIN.signs_num] at hc'
  obtain ⟨ch, hch, e⟩ := List.mem_map.mp hc'
  have r := PyProof.Rows.digit_range (Nat.isDigit_of_mem_toDigits (by decide) (by decide) hch)
  rw [← e]
  exact r
theorem tx_len {n : Int} (h0 : 0 ≤ n) (h1 : n < 1000000) : 1 ≤ (tx n).length ∧ (tx n).length ≤ 6 := ⟨PySem.W.KLn.one_le h0, PyProof.Rows.toString_length_le h0 (k := 6) (by decide) (by omega)⟩
theorem tx_reads {n : Int} (h0 : 0 ≤ n) (h1 : n < 1000000) : PySem.intText? (tx n) = some n := PySem.W.KIN.num_reads h0 (by omega)
/-! ### numbers, worths -/
theorem num_int (x lo hi : Int) (st : Store) : m_is_number [.int x, .int lo, .int hi] st = .ok (.bl (decide (lo ≤ x ∧ x ≤ hi))) st := by
  unfold m_is_number
  rw [runB_eq]
  unfold b_is_number
  by_cases c : lo ≤ x <;> simp [c]
theorem num_non {d : D} {k : Kd} {st : Store} (h : kdOf d st = some k) (hk : k.isa .int = false) (lo hi : D) : m_is_number [d, lo, hi] st = .ok (.bl false) st := by
  unfold m_is_number
  rw [runB_eq]
  unfold b_is_number
  simp [kIsi_of h, hk]
theorem num_bl (b : Bool) (lo hi : D) (st : Store) : m_is_number [.bl b, lo, hi] st = .ok (.bl false) st := by
  unfold m_is_number
  rw [runB_eq]
  unfold b_is_number
  simp
theorem worth_int (x : Int) (st : Store) : m_is_worth [.int x] st = .ok (.bl (decide (0 ≤ x ∧ x ≤ 999999))) st := by
  unfold m_is_worth
  rw [runB_eq]
  unfold b_is_worth
  simp [num_int]
theorem worth_non {d : D} {k : Kd} {st : Store} (h : kdOf d st = some k) (hk : k.isa .int = false) : m_is_worth [d] st = .ok (.bl false) st := by
  unfold m_is_worth
  rw [runB_eq]
  unfold b_is_worth
  simp [num_non h hk]
theorem worth_bl (b : Bool) (st : Store) : m_is_worth [.bl b] st = .ok (.bl false) st := by
  unfold m_is_worth
  rw [runB_eq]
  unfold b_is_worth
  simp [num_bl]
/-! ### deeds -/
inductive Deed where
  | put (c w : Int) | flush (c : Int) | fence | swear (c w : Int)
def Deed.d : Deed → D
  | .put c w => .tup [.str "put", .int c, .int w]
  | .flush c => .tup [.str "flush", .int c]
  | .fence => .tup [.str "fence"]
  | .swear c w => .tup [.str "swear", .int c, .int w]
/-- a deed on so many cells -/
def Deed.ok (many : Int) : Deed → Prop
  | .put c w => (0 ≤ c ∧ c < many) ∧ 0 ≤ w ∧ w ≤ 999999
  | .flush c => 0 ≤ c ∧ c < many
  | .fence => True
  | .swear c w => (0 ≤ c ∧ c < many) ∧ 0 ≤ w ∧ w ≤ 999999
/-! ### is_deed -/
@[simp] theorem lk_put : List.lookup ("put" : Str) [(("put" : Str), (3 : Int)), ("flush", 2), ("fence", 1), ("swear", 3)] = some 3 := by decide
@[simp] theorem lk_flush : List.lookup ("flush" : Str) [(("put" : Str), (3 : Int)), ("flush", 2), ("fence", 1), ("swear", 3)] = some 2 := by decide
@[simp] theorem lk_fence : List.lookup ("fence" : Str) [(("put" : Str), (3 : Int)), ("flush", 2), ("fence", 1), ("swear", 3)] = some 1 := by decide
@[simp] theorem lk_swear : List.lookup ("swear" : Str) [(("put" : Str), (3 : Int)), ("flush", 2), ("fence", 1), ("swear", 3)] = some 3 := by decide
theorem deed_ok {many : Int} (d : Deed) (h : d.ok many) (st : Store) : m_is_deed [d.d, .int many] st = .ok (.bl true) st := by
  unfold m_is_deed
  rw [runB_eq]
  unfold b_is_deed
  have s1 : PyData.strOk "put" = true := by decide +kernel
  have s2 : PyData.strOk "flush" = true := by decide +kernel
  have s3 : PyData.strOk "fence" = true := by decide +kernel
  have s4 : PyData.strOk "swear" = true := by decide +kernel
  have r1 : (0 : Int) ≤ 999999 := by decide
  cases d with
  | put c w =>
    obtain ⟨⟨h1, h2⟩, h3, h4⟩ := h
    have h5 : c ≤ many - 1 := by omega
    simp [Deed.d, oEq_nilT, oEq_nil, rdyDs, rdyD, depDs, depD, s1, num_int, worth_int, h1, h3, h4, h5]
  | flush c =>
    obtain ⟨h1, h2⟩ := h
    have h5 : c ≤ many - 1 := by omega
    simp [Deed.d, oEq_nilT, oEq_nil, rdyDs, rdyD, depDs, depD, s2, num_int, worth_int, h1, h5]
  | fence =>
    simp [Deed.d, oEq_nilT, oEq_nil, rdyDs, rdyD, depDs, depD, s3, num_int, worth_int]
  | swear c w =>
    obtain ⟨⟨h1, h2⟩, h3, h4⟩ := h
    have h5 : c ≤ many - 1 := by omega
    simp [Deed.d, oEq_nilT, oEq_nil, rdyDs, rdyD, depDs, depD, s4, num_int, worth_int, h1, h3, h4, h5]
/-! ### number_of -/
def digB (c : Nat) : Bool := decide (48 ≤ c ∧ c ≤ 57)
/-- the number that a word writes, or -1 -/
def numOf (s : Str) : Int := if (1 ≤ s.length ∧ s.length ≤ 6) ∧ s.cps.toList.all digB = true ∧ (s.cps.toList = [48] ∨ s.cps.toList.head? ≠ some 48) then ((NumText.digitsVal s.cps.toList : Nat) : Int) else -1
theorem figs (c : Nat) : decide (c ∈ ("0123456789" : Str).cps.toList) = digB c := by
  have e : ("0123456789" : Str).cps.toList = [48, 49, 50, 51, 52, 53, 54, 55, 56, 57] := by decide +kernel
  rw [e]
  unfold digB
  refine decide_eq_decide.mpr ?_
  simp
  omega
theorem zero_str : ("0" : Str) = ⟨#[48]⟩ := by decide +kernel
theorem lc_figs (s : Str) (env : DEnv) (st : Store) (hl : env.length = 2) : lcRun gT (gN 1) fYes (fOp (oIn false) (fVar 1) (fC (.str "0123456789"))) env (s.cps.toList.map fun c => D.str ⟨#[c]⟩) st = .ok ((s.cps.toList.map digB).map D.bl) st := by
  have key : ∀ cs : List Nat, lcRun gT (gN 1) fYes (fOp (oIn false) (fVar 1) (fC (.str "0123456789"))) env (cs.map fun c => D.str ⟨#[c]⟩) st = .ok ((cs.map digB).map D.bl) st := fun cs => by
    obtain ⟨l, s', h1, h2, h3⟩ := lcRun_inv (g := gT) (lg := gN 1) (ft := fYes) (fe := fOp (oIn false) (fVar 1) (fC (.str "0123456789"))) (envw := env) (items := cs.map fun c => D.str ⟨#[c]⟩) D.bl
      (fun i l s => s = st ∧ l = (cs.take i).map digB) (fun _ _ _ _ => rfl) (fun i d l s hd ⟨hs, hl2⟩ => by
        subst hs
        rw [List.getElem?_map] at hd
        cases q : cs[i]? with
        | none => rw [q] at hd; cases hd
        | some c =>
          rw [q] at hd
          cases hd
          have e1 : (env.set 1 (some (.str ⟨#[c]⟩)))[1]? = some (some (.str ⟨#[c]⟩)) := List.getElem?_set_self (by omega)
          refine ⟨_, _, true, _, rfl, rfl, fun _ => ⟨digB c, s, ?_, rfl, ?_⟩, fun h => by cases h⟩
          · rw [fOp_eq, fVar_eq, e1, atV_some, Res.bind_at, kOp1_eq, fC_eq, Res.bind_at, oIn_sign, figs]
          · have hlt := (List.getElem?_eq_some_iff.mp q).1
            have ec : cs[i] = c := (List.getElem?_eq_some_iff.mp q).2
            rw [List.take_succ_eq_append_getElem hlt, List.map_append, hl2, ec]
            rfl) (st := st) ⟨rfl, rfl⟩
    rw [h1, h2, h3]
    simp
  exact key _
theorem number_spec (s : Str) (hs : PyData.strOk s = true) (hl : s.length ≤ lim) (st : Store) : m_number_of [.str s] st = .ok (.int (numOf s)) st := by
  have hsz : s.cps.toList.length = s.length := by
    rw [Array.length_toList]
    rfl
  obtain ⟨L, hL⟩ : ∃ L, L = (s.cps.toList.map digB).map D.bl := ⟨_, rfl⟩
  have hcomp : fLc (iA (fVar 0)) (gN 1) fYes (fOp (oIn false) (fVar 1) (fC (.str "0123456789"))) [1] [some (.str s), none] st = .ok (.lst L) st := by
    rw [fLc_eq, iA_eq, fVar_eq]
    show ((kWk (.str s) st).bind _) = _
    rw [kWk_str, Res.bind_at, hL]
    exact kLc_of (lc_figs s _ st rfl) (by rw [List.length_map, List.length_map, hsz]; exact hl)
  have hall : oAll [.lst L] st = .ok (.bl (s.cps.toList.all digB)) st := by
    rw [hL, oAll_lst, List.all_map]
    rfl
  have z0 : PyData.strOk "0" = true := by decide +kernel
  have h48 : ("0" : Str).cps.toList = [48] := by decide +kernel
  unfold m_number_of
  rw [runB_eq]
  simp only [b_number_of, E_number_of_0]
  by_cases c1 : (1 : Int) ≤ s.length ∧ (s.length : Int) ≤ 6
  · have c1' : 1 ≤ s.length ∧ s.length ≤ 6 := by omega
    by_cases c2 : s.cps.toList.all digB = true
    · have hne : s.cps.toList ≠ [] := fun z => by
        have := congrArg List.length z
        rw [hsz] at this
        have h0 : s.length = 0 := this
        omega
      have hd : NumText.AllDigits s.cps.toList := fun c hc => by
        have := List.all_eq_true.mp c2 c hc
        exact of_decide_eq_true this
      have hi : PySem.intText? s = some ((NumText.digitsVal s.cps.toList : Nat) : Int) := PySem.intText_digits hd hne (by omega)
      obtain ⟨c0, cr, hcs⟩ : ∃ c0 cr, s.cps.toList = c0 :: cr := by
        cases q : s.cps.toList with
        | nil => exact absurd q hne
        | cons a l => exact ⟨a, l, rfl⟩
      have hx : oIx (.str s) (.int 0) st = .ok (.str ⟨#[c0]⟩) st := oIx_str (by rw [hcs]; simp) hl st
      have hc0 : 48 ≤ c0 ∧ c0 ≤ 57 := hd c0 (by rw [hcs]; exact List.mem_cons_self)
      have sc : PyData.strOk ⟨#[c0]⟩ = true := strOk_of fun c hc => by
        have : c = c0 := by simpa using hc
        omega
      have int_s : oInt [.str s] st = .ok (.int ((NumText.digitsVal s.cps.toList : Nat) : Int)) st := oInt_str hi (by omega) st
      have b1 : (s == ("0" : Str)) = decide (s.cps.toList = [48]) := by
        by_cases q : s.cps.toList = [48]
        · rw [decide_eq_true q, show s = "0" from cps_inj (q.trans h48.symm)]
          exact beq_self_eq_true _
        · rw [decide_eq_false q]
          exact beq_false_of_ne fun z => q (by rw [z]; exact h48)
      have b2 : ((⟨#[c0]⟩ : Str) == ("0" : Str)) = decide (c0 = 48) := by
        by_cases q : c0 = 48
        · subst q
          decide +kernel
        · rw [decide_eq_false q]
          refine beq_false_of_ne fun z => q ?_
          have := congrArg (fun y : Str => y.cps.toList) z
          rw [h48] at this
          simpa using this
      by_cases c3 : s.cps.toList = [48]
      · have b1' : (s == ("0" : Str)) = true := by rw [b1]; exact decide_eq_true c3
        simp [-fLc_eq, hl, c1.1, c1.2, hcomp, hall, c2, oEq_str hs z0, b1', int_s]
        unfold numOf
        rw [if_pos ⟨c1', c2, .inl c3⟩]
      · have b1' : (s == ("0" : Str)) = false := by rw [b1]; exact decide_eq_false c3
        by_cases c4 : c0 = 48
        · have b2' : ((⟨#[c0]⟩ : Str) == ("0" : Str)) = true := by rw [b2]; exact decide_eq_true c4
          simp [-fLc_eq, hl, c1.1, c1.2, hcomp, hall, c2, oEq_str hs z0, b1', hx, oNe_str sc z0, b2']
          unfold numOf
          rw [if_neg (by rintro ⟨_, _, h | h⟩; exact c3 h; exact h (by rw [hcs, c4]; rfl))]
        · have b2' : ((⟨#[c0]⟩ : Str) == ("0" : Str)) = false := by rw [b2]; exact decide_eq_false c4
          simp [-fLc_eq, hl, c1.1, c1.2, hcomp, hall, c2, oEq_str hs z0, b1', hx, oNe_str sc z0, b2', int_s]
          unfold numOf
          rw [if_pos ⟨c1', c2, .inr (by rw [hcs]; simp [c4])⟩]
    · have c2' : s.cps.toList.all digB = false := by simpa using c2
      simp [-fLc_eq, hl, c1.1, c1.2, hcomp, hall, c2']
      unfold numOf
      rw [if_neg (by rintro ⟨_, h, _⟩; exact c2 h)]
  · have e : numOf s = -1 := by
      unfold numOf
      rw [if_neg (by rintro ⟨h, _⟩; exact c1 ⟨by omega, by omega⟩)]
    rw [e]
    by_cases c3 : (1 : Int) ≤ s.length
    · have c4 : ¬ (s.length : Int) ≤ 6 := fun h => c1 ⟨c3, h⟩
      simp [hl, c3, c4]
    · simp [hl, c3]
theorem digits_head (m : Nat) : (Nat.toDigits 10 m).head? = some '0' → m = 0 := by
  induction m using Nat.strongRecOn with
  | _ m ih =>
    by_cases h : m < 10
    · rw [Nat.toDigits_of_lt_base h]
      intro e
      have e2 : Nat.digitChar m = '0' := by simpa using e
      have key : ∀ d : Nat, d < 10 → Nat.digitChar d = '0' → d = 0 := by decide
      exact key m h e2
    · have hm : m % 10 < 10 := Nat.mod_lt m (by decide)
      have t : Nat.toDigits 10 (m / 10) ++ Nat.toDigits 10 (m % 10) = Nat.toDigits 10 (10 * (m / 10) + m % 10) := Nat.toDigits_append_toDigits (by decide) (by omega) hm
      rw [Nat.div_add_mod] at t
      rw [← t]
      intro e
      have hne : Nat.toDigits 10 (m / 10) ≠ [] := fun z => by
        have h := PySem.W.KIN.val_back (m / 10)
        rw [z] at h
        have : (0 : Nat) = m / 10 := h
        omega
      have e2 : (Nat.toDigits 10 (m / 10)).head? = some '0' := by
        cases q : Nat.toDigits 10 (m / 10) with
        | nil => exact absurd q hne
        | cons a l =>
          rw [q] at e
          simpa using e
      have := ih (m / 10) (by omega) e2
      omega
theorem numOf_tx {n : Int} (h0 : 0 ≤ n) (h1 : n < 1000000) : numOf (tx n) = n := by
  have hl := tx_len h0 h1
  have hd := tx_digits h0
  obtain ⟨m, rfl⟩ := Int.eq_ofNat_of_zero_le h0
  have es : (tx (m : Int)).cps.toList = (Nat.toDigits 10 m).map Char.toNat := PySem.W.KIN.signs_num m
  have hh : (tx (m : Int)).cps.toList = [48] ∨ (tx (m : Int)).cps.toList.head? ≠ some 48 := by
    by_cases c : (tx (m : Int)).cps.toList.head? = some 48
    · refine .inl ?_
      rw [es, List.head?_map] at c
      have c2 : (Nat.toDigits 10 m).head? = some '0' := by
        cases q : (Nat.toDigits 10 m).head? with
        | none => rw [q] at c; cases c
        | some ch =>
          rw [q] at c
          have e : ch.toNat = 48 := by simpa using c
          have e2 : ch = '0' := by
            apply Char.ext
            apply UInt32.toNat_inj.mp
            exact e
          rw [e2]
      have := digits_head m c2
      subst this
      rw [es]
      decide
    · exact .inr c
  unfold numOf
  rw [if_pos ⟨hl, List.all_eq_true.mpr fun c hc => decide_eq_true (hd c hc), hh⟩, es, PySem.W.KIN.val_back]
/-! ### a row's text -/
def Deed.parts : Deed → List Str
  | .put c w => ["put", tx c, tx w]
  | .flush c => ["flush", tx c]
  | .fence => ["fence"]
  | .swear c w => ["swear", tx c, tx w]
def Deed.line (d : Deed) : Str := Txt.join " " d.parts
def rowText (ds : List Deed) : Str := Txt.join "\n" (ds.map Deed.line)
theorem sp_str : (" " : Str) = ⟨#[32]⟩ := by decide +kernel
theorem nl_str : ("\n" : Str) = ⟨#[10]⟩ := by decide +kernel
theorem sp_len : (" " : Str).length = 1 := by decide +kernel
theorem nl_len : ("\n" : Str).length = 1 := by decide +kernel
/-- a word of a deed: small letters or figures, not long -/
def wordOk (s : Str) : Prop := (∀ c ∈ s.cps.toList, 48 ≤ c ∧ c < 128) ∧ 1 ≤ s.length ∧ s.length ≤ 6
theorem word_lit {s : Str} (h : (s.cps.toList.all fun c => decide (48 ≤ c ∧ c < 128)) = true) (h1 : 1 ≤ s.length) (h2 : s.length ≤ 6) : wordOk s := ⟨fun c hc => of_decide_eq_true (List.all_eq_true.mp h c hc), h1, h2⟩
theorem word_tx {n : Int} (h0 : 0 ≤ n) (h1 : n < 1000000) : wordOk (tx n) := ⟨fun c hc => by have := tx_digits h0 c hc; omega, tx_len h0 h1⟩
theorem parts_ok (d : Deed) (h : d.ok 256) : ∀ p ∈ d.parts, wordOk p := by
  have w1 : wordOk "put" := word_lit (by decide +kernel) (by decide +kernel) (by decide +kernel)
  have w2 : wordOk "flush" := word_lit (by decide +kernel) (by decide +kernel) (by decide +kernel)
  have w3 : wordOk "fence" := word_lit (by decide +kernel) (by decide +kernel) (by decide +kernel)
  have w4 : wordOk "swear" := word_lit (by decide +kernel) (by decide +kernel) (by decide +kernel)
  intro p hp
  cases d with
  | put c w =>
    obtain ⟨⟨h1, h2⟩, h3, h4⟩ := h
    simp [Deed.parts] at hp
    rcases hp with rfl | rfl | rfl
    · exact w1
    · exact word_tx h1 (by omega)
    · exact word_tx h3 (by omega)
  | flush c =>
    obtain ⟨h1, h2⟩ := h
    simp [Deed.parts] at hp
    rcases hp with rfl | rfl
    · exact w2
    · exact word_tx h1 (by omega)
  | fence =>
    simp [Deed.parts] at hp
    rw [hp]
    exact w3
  | swear c w =>
    obtain ⟨⟨h1, h2⟩, h3, h4⟩ := h
    simp [Deed.parts] at hp
    rcases hp with rfl | rfl | rfl
    · exact w4
    · exact word_tx h1 (by omega)
    · exact word_tx h3 (by omega)
theorem parts_len (d : Deed) : 1 ≤ d.parts.length ∧ d.parts.length ≤ 3 := by cases d <;> simp [Deed.parts]
theorem sum_le {α : Type} {f : α → Nat} {m : Nat} : ∀ {l : List α}, (∀ x ∈ l, f x ≤ m) → (l.map f).sum ≤ l.length * m
  | [], _ => Nat.zero_le _
  | x :: l, h => by
    have h1 := h x List.mem_cons_self
    have h2 := sum_le (f := f) fun y hy => h y (List.mem_cons_of_mem x hy)
    rw [List.map_cons, List.sum_cons, List.length_cons, Nat.succ_mul]
    omega
theorem line_len (d : Deed) (h : d.ok 256) : d.line.length ≤ 21 := by
  have h1 := join_len " " d.parts
  have h2 := sum_le (f := fun p : Str => p.length) (m := 6) fun p hp => (parts_ok d h p hp).2.2
  have h3 := parts_len d
  rw [sp_len] at h1
  unfold Deed.line
  omega
theorem line_mem (d : Deed) (h : d.ok 256) {c : Nat} (hc : c ∈ d.line.cps.toList) : c = 32 ∨ (48 ≤ c ∧ c < 128) := by
  unfold Deed.line at hc
  rw [sp_str] at hc
  rcases join_mem hc with h1 | ⟨p, hp, h1⟩
  · exact .inl h1
  · exact .inr ((parts_ok d h p hp).1 c h1)
theorem text_mem {ds : List Deed} (h : ∀ d ∈ ds, d.ok 256) {c : Nat} (hc : c ∈ (rowText ds).cps.toList) : c < 128 := by
  unfold rowText at hc
  rw [nl_str] at hc
  rcases join_mem hc with h1 | ⟨p, hp, h1⟩
  · omega
  · obtain ⟨d, hd, rfl⟩ := List.mem_map.mp hp
    have := line_mem d (h d hd) h1
    omega
theorem text_ok {ds : List Deed} (h : ∀ d ∈ ds, d.ok 256) : PyData.strOk (rowText ds) = true := strOk_of fun c hc => by have := text_mem h hc; omega
theorem text_len {ds : List Deed} (h : ∀ d ∈ ds, d.ok 256) : (rowText ds).length ≤ ds.length * 22 := by
  have h1 := join_len "\n" (ds.map Deed.line)
  have h2 := sum_le (f := fun p : Str => p.length) (m := 21) (l := ds.map Deed.line) fun p hp => by
    obtain ⟨d, hd, rfl⟩ := List.mem_map.mp hp
    exact line_len d (h d hd)
  rw [nl_len, List.length_map] at h1
  rw [List.length_map] at h2
  unfold rowText
  omega
theorem split_line (d : Deed) (h : d.ok 256) : Txt.split d.line " " = d.parts := by
  unfold Deed.line
  rw [sp_str]
  refine split_join (fun z => ?_) fun p hp hc => ?_
  · have := parts_len d
    rw [z] at this
    exact absurd this.1 (by decide)
  · have := (parts_ok d h p hp).1 32 hc
    omega
theorem split_text {ds : List Deed} (hne : ds ≠ []) (h : ∀ d ∈ ds, d.ok 256) : Txt.split (rowText ds) "\n" = ds.map Deed.line := by
  unfold rowText
  rw [nl_str]
  refine split_join (by simpa using hne) fun p hp hc => ?_
  obtain ⟨d, hd, rfl⟩ := List.mem_map.mp hp
  have := line_mem d (h d hd) hc
  omega
/-- the expression that writes a row: in it the row's name r, the deed's a, the part's b -/
noncomputable def fParts (a b : Nat) : LE := fBM isS oJoin (fC (.str " ")) (fCons (fLc (iA (fVar a)) (gN b) fYes (fCB oStr (fCons (fVar b) fNil)) [b]) fNil)
noncomputable def fText (r a b : Nat) : LE := fBM isS oJoin (fC (.str "\n")) (fCons (fLc (iA (fVar r)) (gN a) fYes (fParts a b) [a]) fNil)
def strD : D → D
  | .int i => .str (tx i)
  | d => d
theorem oJoin_lst {a : Str} {ys : List Str} (h : (ys.map fun y => y.length).sum + ys.length * a.length ≤ 16777216) (st : Store) : oJoin (.str a) [.lst (ys.map D.str)] st = .ok (.str (Txt.join a ys)) st := by
  have e : rdOf (.lst (ys.map D.str)) st = some (ys.map D.str) := rfl
  unfold oJoin
  dsimp only
  rw [e]
  dsimp only
  rw [strsOf_map]
  exact if_pos h
theorem small_log {i : Int} (h0 : 0 ≤ i) (h1 : i < 1000000) : i.natAbs.log2 < 1920 := by
  have h2 : i.natAbs < 2 ^ 1920 := Nat.lt_of_lt_of_le (show i.natAbs < 1000000 by omega) (by decide +kernel)
  by_cases c : i.natAbs = 0
  · rw [c]
    decide
  · exact (Nat.log2_lt c).mpr h2
theorem parts_at {a b : Nat} {env : DEnv} {st : Store} (d : Deed) (hd : d.ok 256) (ha : env[a]? = some (some d.d)) (hb : b < env.length) : fParts a b env st = .ok (.str d.line) st := by
  have body : ∀ (e : DEnv) (x : D), e[b]? = some (some x) → (∃ s, x = .str s) ∨ (∃ i : Int, x = .int i ∧ 0 ≤ i ∧ i < 1000000) → fCB oStr (fCons (fVar b) fNil) e st = .ok (strD x) st := fun e x he hx => by
    rcases hx with ⟨s, rfl⟩ | ⟨i, rfl, h0, h1⟩
    · simp [he, strD]
    · simp [he, strD, oStr_int (small_log h0 h1)]
      rfl
  have items : ∀ xs : List D, (∀ x ∈ xs, (∃ s, x = .str s) ∨ (∃ i : Int, x = .int i ∧ 0 ≤ i ∧ i < 1000000)) → lcRun gT (gN b) fYes (fCB oStr (fCons (fVar b) fNil)) (wipeD env [b]) xs st = .ok (xs.map strD) st := fun xs hxs => by
    refine lcRun_map rfl strD fun x hx => ⟨_, rfl, rfl, body _ x ?_ (hxs x hx)⟩
    exact List.getElem?_set_self (by simp [wipeD]; exact hb)
  obtain ⟨xs, hx, hxs, hm⟩ : ∃ xs, d.d = .tup xs ∧ (∀ x ∈ xs, (∃ s, x = .str s) ∨ (∃ i : Int, x = .int i ∧ 0 ≤ i ∧ i < 1000000)) ∧ xs.map strD = d.parts.map D.str := by
    cases d with
    | put c w =>
      obtain ⟨⟨h1, h2⟩, h3, h4⟩ := hd
      refine ⟨_, rfl, fun x hx => ?_, by simp [Deed.parts, strD]⟩
      simp at hx
      rcases hx with rfl | rfl | rfl
      · exact .inl ⟨_, rfl⟩
      · exact .inr ⟨c, rfl, h1, by omega⟩
      · exact .inr ⟨w, rfl, h3, by omega⟩
    | flush c =>
      obtain ⟨h1, h2⟩ := hd
      refine ⟨_, rfl, fun x hx => ?_, by simp [Deed.parts, strD]⟩
      simp at hx
      rcases hx with rfl | rfl
      · exact .inl ⟨_, rfl⟩
      · exact .inr ⟨c, rfl, h1, by omega⟩
    | fence =>
      refine ⟨_, rfl, fun x hx => ?_, by simp [Deed.parts, strD]⟩
      simp at hx
      rw [hx]
      exact .inl ⟨_, rfl⟩
    | swear c w =>
      obtain ⟨⟨h1, h2⟩, h3, h4⟩ := hd
      refine ⟨_, rfl, fun x hx => ?_, by simp [Deed.parts, strD]⟩
      simp at hx
      rcases hx with rfl | rfl | rfl
      · exact .inl ⟨_, rfl⟩
      · exact .inr ⟨c, rfl, h1, by omega⟩
      · exact .inr ⟨w, rfl, h3, by omega⟩
  have hj : oJoin (.str " ") [.lst (d.parts.map D.str)] st = .ok (.str d.line) st := by
    refine oJoin_lst ?_ st
    have h2 := sum_le (f := fun p : Str => p.length) (m := 6) fun p hp => (parts_ok d hd p hp).2.2
    have h3 := parts_len d
    rw [sp_len]
    omega
  have hlc : kLc (gN b) fYes (fCB oStr (fCons (fVar b) fNil)) (wipeD env [b]) (xs, gT) st = .ok (.lst (d.parts.map D.str)) st := by
    refine kLc_of (ys := d.parts.map D.str) ?_ ?_
    · rw [← hm]
      exact items xs hxs
    · have := (parts_len d).2
      rw [List.length_map]
      show _ ≤ 16777216
      omega
  unfold fParts
  rw [fBM_eq, fC_eq, Res.bind_at, kBM1_str, fCons_eq, fLc_eq, iA_eq, fVar_eq, ha, atV_some, Res.bind_at, hx, kWk_tup, Res.bind_at, hlc, Res.bind_at, kCons1_eq, fNil_eq, Res.bind_at, kCons2_eq, Res.bind_at, hj]
theorem text_at {r a b : Nat} {env : DEnv} {st : Store} {ds : List Deed} (hd : ∀ d ∈ ds, d.ok 256) (hl : ds.length ≤ 1000) (hr : env[r]? = some (some (.lst (ds.map Deed.d)))) (ha : a < env.length) (hb : b < env.length) : fText r a b env st = .ok (.str (rowText ds)) st := by
  have items : lcRun gT (gN a) fYes (fParts a b) (wipeD env [a]) (ds.map Deed.d) st = .ok ((ds.map Deed.line).map D.str) st := by
    obtain ⟨l, s, h1, h2, h3⟩ := lcRun_inv (g := gT) (lg := gN a) (ft := fYes) (fe := fParts a b) (envw := wipeD env [a]) (items := ds.map Deed.d) D.str (fun i l s => s = st ∧ l = (ds.take i).map Deed.line) (fun _ _ _ _ => rfl)
      (fun i x l s hx ⟨hs, hl2⟩ => by
        subst hs
        rw [List.getElem?_map] at hx
        cases q : ds[i]? with
        | none => rw [q] at hx; cases hx
        | some d =>
          rw [q] at hx
          cases hx
          have hlt := (List.getElem?_eq_some_iff.mp q).1
          have ec : ds[i] = d := (List.getElem?_eq_some_iff.mp q).2
          have hw : (wipeD env [a]).length = env.length := by simp [wipeD]
          refine ⟨_, _, true, _, rfl, rfl, fun _ => ⟨d.line, s, parts_at d (hd d (List.mem_of_getElem? q)) (List.getElem?_set_self (by rw [hw]; exact ha)) (by rw [List.length_set, hw]; exact hb), rfl, ?_⟩, fun h => by cases h⟩
          rw [List.take_succ_eq_append_getElem hlt, List.map_append, hl2, ec]
          rfl) (st := st) ⟨rfl, rfl⟩
    rw [h1, h2, h3]
    simp
  have hj : oJoin (.str "\n") [.lst ((ds.map Deed.line).map D.str)] st = .ok (.str (rowText ds)) st := by
    refine oJoin_lst ?_ st
    have h2 := sum_le (f := fun p : Str => p.length) (m := 21) (l := ds.map Deed.line) fun p hp => by
      obtain ⟨d, hd', rfl⟩ := List.mem_map.mp hp
      exact line_len d (hd d hd')
    rw [List.length_map] at h2
    rw [nl_len, List.length_map]
    omega
  have hlc : kLc (gN a) fYes (fParts a b) (wipeD env [a]) (ds.map Deed.d, gT) st = .ok (.lst ((ds.map Deed.line).map D.str)) st := kLc_of items (by
    rw [List.length_map, List.length_map]
    show _ ≤ 16777216
    omega)
  unfold fText
  rw [fBM_eq, fC_eq, Res.bind_at, kBM1_str, fCons_eq, fLc_eq, iA_eq, fVar_eq, hr, atV_some, Res.bind_at, kWk_lst, Res.bind_at, hlc, Res.bind_at, kCons1_eq, fNil_eq, Res.bind_at, kCons2_eq, Res.bind_at, hj]
/-! ### k24: texts; a text is told otherwise -/
theorem strOk_app {a b : Str} (ha : PyData.strOk a = true) (hb : PyData.strOk b = true) : PyData.strOk (a ++ b) = true := strOk_of fun c hc => by
  rw [Str.cps_append, Array.toList_append] at hc
  rcases List.mem_append.mp hc with h | h
  · exact strOk_mem ha h
  · exact strOk_mem hb h
theorem len_app (a b : Str) : (a ++ b).length = a.length + b.length := by
  show (a ++ b).cps.size = a.cps.size + b.cps.size
  rw [Str.cps_append, Array.size_append]
theorem strOk_cut {z : Str} (h : PyData.strOk z = true) (lo hi : Option Int) : PyData.strOk (cutS z lo hi) = true := strOk_of fun _ hc => strOk_mem h (cutS_mem hc)
theorem mem_jn {c z : Nat} : ∀ {l : List (List Nat)} {p : List Nat}, p ∈ l → z ∈ p → z ∈ jn c l
  | [], p, h, _ => by cases h
  | [x], p, h, hz => by
    have e : p = x := by simpa using h
    rw [← e]
    exact hz
  | x :: y :: r, p, h, hz => by
    show z ∈ x ++ c :: jn c (y :: r)
    rcases List.mem_cons.mp h with h | h
    · rw [h] at hz
      exact List.mem_append_left _ hz
    · exact List.mem_append_right _ (List.mem_cons_of_mem _ (mem_jn h hz))
theorem join_jn (c : Nat) (ps : List Str) : (Txt.join ⟨#[c]⟩ ps).cps.toList = jn c (ps.map fun p => p.cps.toList) := by
  have h3 : Txt.join ⟨#[c]⟩ ps = Str.join ⟨#[c]⟩ ps := StrLaws.glued_eq_join _ _
  rw [h3, join_cps]
theorem strOk_split {x : Str} (h : PyData.strOk x = true) (c : Nat) : ∀ p ∈ Txt.split x ⟨#[c]⟩, PyData.strOk p = true := fun p hp => strOk_of fun z hz => by
  refine strOk_mem h (c := z) ?_
  rw [← (split_sp c x).2.2, join_jn]
  exact mem_jn (List.mem_map.mpr ⟨p, hp, rfl⟩) hz
theorem strOk_join {c : Nat} (hc : c < 1114112) {ps : List Str} (h : ∀ p ∈ ps, PyData.strOk p = true) : PyData.strOk (Txt.join ⟨#[c]⟩ ps) = true := strOk_of fun z hz => by
  rcases join_mem hz with h1 | ⟨p, hp, h1⟩
  · omega
  · exact strOk_mem (h p hp) h1
/-- how much texts weigh: a sign more each -/
def wt (ps : List Str) : Nat := (ps.map fun p => p.length + 1).sum
theorem wt_nil : wt [] = 0 := rfl
theorem wt_cons (p : Str) (ps : List Str) : wt (p :: ps) = p.length + 1 + wt ps := by simp [wt]
theorem wt_app (a b : List Str) : wt (a ++ b) = wt a + wt b := by simp [wt]
theorem wt_sum (ps : List Str) : (ps.map (·.length)).sum + ps.length * 1 = wt ps := by
  induction ps with
  | nil => rfl
  | cons p ps ih =>
    rw [wt_cons, ← ih, List.map_cons, List.sum_cons, List.length_cons]
    omega
theorem wt_split (ps : List Str) (k : Nat) : wt (ps.take k) + wt (ps.drop k) = wt ps := by
  rw [← wt_app, List.take_append_drop]
theorem wt_mem {p : Str} : ∀ {ps : List Str}, p ∈ ps → p.length + 1 ≤ wt ps
  | [], h => by cases h
  | q :: ps, h => by
    rw [wt_cons]
    rcases List.mem_cons.mp h with h | h
    · rw [h]
      omega
    · have := wt_mem h
      omega
theorem wt_len (ps : List Str) : ps.length ≤ wt ps := by
  have := wt_sum ps
  omega
theorem strlen (x : Str) : x.cps.toList.length = x.length := by
  rw [Array.length_toList]
  rfl
theorem jn_wt (c : Nat) : ∀ l : List (List Nat), l ≠ [] → (jn c l).length + 1 = (l.map fun p => p.length + 1).sum
  | [], h => absurd rfl h
  | [x], _ => by simp [jn]
  | x :: y :: r, _ => by
    have ih := jn_wt c (y :: r) (by simp)
    rw [List.map_cons, List.sum_cons, ← ih]
    show (x ++ c :: jn c (y :: r)).length + 1 = _
    rw [List.length_append, List.length_cons]
    omega
theorem join_wt {c : Nat} {ps : List Str} (h : ps ≠ []) : (Txt.join ⟨#[c]⟩ ps).length + 1 = wt ps := by
  have h1 := jn_wt c (ps.map fun p => p.cps.toList) (by simpa using h)
  rw [← join_jn, strlen, List.map_map] at h1
  rw [h1]
  unfold wt
  congr 1
theorem join_le {c : Nat} (ps : List Str) : (Txt.join ⟨#[c]⟩ ps).length ≤ wt ps := by
  by_cases h : ps = []
  · subst h
    have := join_len ⟨#[c]⟩ []
    exact Nat.le_trans this (by simp)
  · have := join_wt (c := c) h
    omega
theorem split_wt (c : Nat) (x : Str) : wt (Txt.split x ⟨#[c]⟩) = x.length + 1 := by
  obtain ⟨h1, _, h3⟩ := split_sp c x
  rw [← join_wt (c := c) h1, h3]
theorem one_len (c : Nat) : (⟨#[c]⟩ : Str).length = 1 := rfl
theorem oJoin_wt {c : Nat} {ps : List Str} (h : wt ps ≤ 16777216) (st : Store) : oJoin (.str ⟨#[c]⟩) [.lst (ps.map D.str)] st = .ok (.str (Txt.join ⟨#[c]⟩ ps)) st := oJoin_lst (by rw [one_len, wt_sum]; exact h) st
theorem atI_strs {l : List Str} {v : Int} (h0 : 0 ≤ v) (h1 : v < l.length) : ∃ s ∈ l, atI (l.map D.str) v = some (.str s) := by
  obtain ⟨n, rfl⟩ := Int.eq_ofNat_of_zero_le h0
  have hn : n < l.length := by omega
  refine ⟨l[n], List.getElem_mem _, ?_⟩
  rw [atI_nat (by rw [List.length_map]; exact hn), List.getElem?_map, List.getElem?_eq_getElem hn]
  rfl
theorem oAdd_strs {A B : List Str} (h : wt A + wt B ≤ 16777216) (st : Store) : oAdd (.lst (A.map D.str)) (.lst (B.map D.str)) st = .ok (.lst ((A ++ B).map D.str)) st := by
  rw [oAdd_lst, if_pos ?_, List.map_append]
  have h1 := wt_len A
  have h2 := wt_len B
  rw [List.length_map, List.length_map]
  show _ ≤ 16777216
  omega
abbrev okS (ps : List Str) : Prop := ∀ p ∈ ps, PyData.strOk p = true
theorem okS.app {a b : List Str} (ha : okS a) (hb : okS b) : okS (a ++ b) := fun p hp => by
  rcases List.mem_append.mp hp with h | h
  · exact ha p h
  · exact hb p h
theorem okS.take {a : List Str} (ha : okS a) (k : Nat) : okS (a.take k) := fun p hp => ha p (List.mem_of_mem_take hp)
theorem okS.drop {a : List Str} (ha : okS a) (k : Nat) : okS (a.drop k) := fun p hp => ha p (List.mem_of_mem_drop hp)
theorem okS.one {p : Str} (h : PyData.strOk p = true) : okS [p] := fun q hq => by
  rw [List.mem_singleton.mp hq]
  exact h
theorem oSplit_of {a b : Str} (h : (b.length == 0) = false ∧ a.length + 2 ≤ lim) (st : Store) : oSplit (.str a) [.str b] st = .ok (.lst ((Txt.split a b).map D.str)) st := if_pos h
theorem oLen_of {x : Str} (h : x.length ≤ lim) (st : Store) : oLen [.str x] st = .ok (.int x.length) st := if_pos h
def sgnsK : Str := (("0123456789 \n-+abcdefhlnprstuw" ++ ("!#$&'()*,./:;<=>?" ++ "@ABCXYZ[]_{|}~") : String) : Str)
theorem sgnsK_ok : PyData.strOk sgnsK = true := by decide +kernel
theorem sgnsK_len : sgnsK.length = 60 := by decide +kernel
def oddK : List Str := ["", "00", "01", "255", "256", "999999", "1000000", "-1", "+1", "1_0", "0", "fence", "put", "Put", "swear"]
theorem oddK_ok : ∀ s ∈ oddK, PyData.strOk s = true ∧ s.length ≤ 7 := by decide +kernel
theorem spoilt_spec {ns : List Int} {st : Store} {k : Nat} (S : Stt ns st k) {x : Str} (hx : PyData.strOk x = true) (hl : x.length ≤ 1000000) :
    ∃ y st', m_l_spoilt [.ref k, .str x] st = .ok (.str y) st' ∧ PyData.strOk y = true ∧ y.length ≤ 2 * x.length + 12 ∧ Stt ns st' k ∧ Keeps k st st' := by
  obtain ⟨way, s1, a1, w0, w1, S1, K1⟩ := drawn_spec S (many := 9) (by decide) (by decide)
  obtain ⟨at_, s2, a2, t0, t1, S2, K2⟩ := drawn_spec S1 (many := (x.length : Int) + 1) (by omega) (by omega)
  obtain ⟨b, s3, a3, b0, b1, S3, K3⟩ := drawn_spec S2 (many := 2) (by decide) (by decide)
  obtain ⟨m, hm, m0, m1⟩ : ∃ m : Int, atI [D.int 13, D.int 60] b = some (.int m) ∧ 0 < m ∧ m ≤ 60 := by
    rcases (show b = 0 ∨ b = 1 by omega) with rfl | rfl
    · exact ⟨13, by simp, by decide, by decide⟩
    · exact ⟨60, by simp, by decide, by decide⟩
  obtain ⟨g, s4, a4, g0, g1, S4, K4⟩ := drawn_spec S3 (many := m) m0 (by omega)
  have K := ((K1.trans K2).trans K3).trans K4
  obtain ⟨sc, hsc⟩ : ∃ sc, atI sgnsK.cps.toList g = some sc := by
    obtain ⟨n, rfl⟩ := Int.eq_ofNat_of_zero_le g0
    have hn : n < sgnsK.cps.toList.length := by
      rw [strlen, sgnsK_len]
      omega
    exact ⟨_, by rw [atI_nat hn, List.getElem?_eq_getElem hn]⟩
  have hix : ∀ s, oIx (.str sgnsK) (.int g) s = .ok (.str ⟨#[sc]⟩) s := fun s => oIx_str hsc (by rw [sgnsK_len]; decide) s
  have hscok : PyData.strOk ⟨#[sc]⟩ = true := strOk_of fun c hc => by
    have e : c = sc := by simpa using hc
    rw [e]
    have hmem : sc ∈ sgnsK.cps.toList := by
      obtain ⟨n, rfl⟩ := Int.eq_ofNat_of_zero_le g0
      have hn : n < sgnsK.cps.toList.length := by
        rw [strlen, sgnsK_len]
        omega
      rw [atI_nat hn] at hsc
      exact List.mem_of_getElem? hsc
    exact strOk_mem sgnsK_ok hmem
  have hlim : x.length ≤ lim := by show _ ≤ 16777216; omega
  have hslen : sgnsK.length ≤ lim := by rw [sgnsK_len]; decide
  have hslen2 : (sgnsK.length : Int) = 60 := by rw [sgnsK_len]; rfl
  have zl : ("" : Str).length = 0 := by decide +kernel
  have z0 : PyData.strOk ("" : Str) = true := by decide +kernel
  have cuts : ∀ (lo hi : Option Int) s, oSlT (.str x) lo hi s = .ok (.str (cutS x lo hi)) s := fun lo hi s => oSlT_str hlim lo hi s
  have cutl : ∀ lo hi, (cutS x lo hi).length ≤ x.length := fun lo hi => cutS_len x lo hi
  have cuto : ∀ lo hi, PyData.strOk (cutS x lo hi) = true := fun lo hi => strOk_cut hx lo hi
  have add : ∀ (a b : Str) s, a.length ≤ 4000000 → b.length ≤ 4000000 → oAdd (.str a) (.str b) s = .ok (.str (a ++ b)) s := fun a b s h1 h2 => by
    rw [oAdd_str, if_pos (show _ ≤ 16777216 by omega)]
  have hS : ("0123456789 \n-+abcdefhlnprstuw!#$&'()*,./:;<=>?@ABCXYZ[]_{|}~" : Str) = sgnsK := by decide +kernel
  have kl : ∀ (a b c d e f g h i j l m n o p : D) s, kLst [a, b, c, d, e, f, g, h, i, j, l, m, n, o, p] s = .ok (.lst [a, b, c, d, e, f, g, h, i, j, l, m, n, o, p]) s := fun _ _ _ _ _ _ _ _ _ _ _ _ _ _ _ s => kLst_of (by simp [lim]) s
  unfold m_l_spoilt
  rw [runB_eq]
  unfold b_l_spoilt
  by_cases hw3 : way < 3
  · have low : ∀ (u : Str) (d : Int), u.length ≤ 1 → PyData.strOk u = true → ∃ y y1 : Str, (∀ s, oAdd (.str (cutS x none (some at_))) (.str u) s = .ok (.str y1) s) ∧ (∀ s, oAdd (.str y1) (.str (cutS x (some d) none)) s = .ok (.str y) s) ∧ PyData.strOk y = true ∧ y.length ≤ 2 * x.length + 12 := fun u d hu hk => by
      have h1 := cutl none (some at_)
      have h2 := cutl (some d) none
      refine ⟨cutS x none (some at_) ++ u ++ cutS x (some d) none, cutS x none (some at_) ++ u, fun s => add _ _ _ (by omega) (by omega), fun s => add _ _ _ (by rw [len_app]; omega) (by omega), strOk_app (strOk_app (cuto _ _) hk) (cuto _ _), ?_⟩
      rw [len_app, len_app]
      omega
    rcases (show way = 0 ∨ way = 1 ∨ way = 2 by omega) with rfl | rfl | rfl
    · obtain ⟨y, y1, h0, h1, h2, h3⟩ := low ⟨#[sc]⟩ (at_ + 0) (Nat.le_refl _) hscok
      rw [Int.add_zero] at h1
      exact ⟨y, s4, by simp [-oAdd_str, -oLen_str, oLen_of hlim, oLen_of hslen, a1, a2, hS, hslen2, hm, a3, a4, hix, cuts, h0, h1], h2, h3, S4, K⟩
    · obtain ⟨y, y1, h0, h1, h2, h3⟩ := low "" (at_ + 1) (by rw [zl]; omega) z0
      exact ⟨y, s4, by simp [-oAdd_str, -oLen_str, oLen_of hlim, oLen_of hslen, a1, a2, hS, hslen2, hm, a3, a4, hix, cuts, h0, h1], h2, h3, S4, K⟩
    · obtain ⟨y, y1, h0, h1, h2, h3⟩ := low ⟨#[sc]⟩ (at_ + 1) (Nat.le_refl _) hscok
      exact ⟨y, s4, by simp [-oAdd_str, -oLen_str, oLen_of hlim, oLen_of hslen, a1, a2, hS, hslen2, hm, a3, a4, hix, cuts, h0, h1], h2, h3, S4, K⟩
  · have hsp : ∀ s, oSplit (.str x) [.str "\n"] s = .ok (.lst ((Txt.split x "\n").map D.str)) s := fun s => oSplit_of ⟨by decide +kernel, by show _ ≤ 16777216; omega⟩ s
    have hR1 : Txt.split x "\n" ≠ [] := by rw [nl_str]; exact (split_sp 10 x).1
    have hR2 : wt (Txt.split x "\n") = x.length + 1 := by rw [nl_str]; exact split_wt 10 x
    have hR3 : okS (Txt.split x "\n") := by rw [nl_str]; exact strOk_split hx 10
    have joinR : ∀ (ps : List Str) s, wt ps ≤ 16777216 → oJoin (.str "\n") [.lst (ps.map D.str)] s = .ok (.str (Txt.join "\n" ps)) s := fun ps s h => by rw [nl_str]; exact oJoin_wt h s
    have joinL : ∀ ps : List Str, (Txt.join "\n" ps).length ≤ wt ps := fun ps => by rw [nl_str]; exact join_le ps
    have joinO : ∀ ps : List Str, okS ps → PyData.strOk (Txt.join "\n" ps) = true := fun ps h => by rw [nl_str]; exact strOk_join (by decide) h
    generalize Txt.split x "\n" = R at hsp hR1 hR2 hR3
    have hRl := wt_len R
    have hRp : 0 < R.length := List.length_pos_iff.mpr hR1
    obtain ⟨L, hL⟩ : ∃ L, L = R.map D.str := ⟨_, rfl⟩
    have hLl : L.length = R.length := by rw [hL, List.length_map]
    rw [← hL] at hsp
    obtain ⟨kk, s5, a5, k0, k1, S5, K5⟩ := drawn_spec S4 (many := (L.length : Int)) (by omega) (by omega)
    obtain ⟨n, rfl⟩ := Int.eq_ofNat_of_zero_le k0
    have hn : n < R.length := by omega
    have KK := K.trans K5
    obtain ⟨A1, hA1⟩ : ∃ A : List D, A = (R.take n).map D.str := ⟨_, rfl⟩
    obtain ⟨A2, hA2⟩ : ∃ A : List D, A = (R.drop (n + 1)).map D.str := ⟨_, rfl⟩
    obtain ⟨A3, hA3⟩ : ∃ A : List D, A = (R.take (n + 1)).map D.str := ⟨_, rfl⟩
    obtain ⟨A4, hA4⟩ : ∃ A : List D, A = (R.drop n).map D.str := ⟨_, rfl⟩
    have e1 : ((n : Int) + 1) = ((n + 1 : Nat) : Int) := rfl
    have c1 : cutD L none (some (n : Int)) = A1 := by rw [hL, cutD_to, hA1, List.map_take]
    have c2 : cutD L (some ((n : Int) + 1)) none = A2 := by rw [hL, e1, cutD_from, hA2, List.map_drop]
    have c3 : cutD L none (some ((n : Int) + 1)) = A3 := by rw [hL, e1, cutD_to, hA3, List.map_take]
    have c4 : cutD L (some (n : Int)) none = A4 := by rw [hL, cutD_from, hA4, List.map_drop]
    have w1' := wt_split R n
    have w2' := wt_split R (n + 1)
    by_cases hw6 : way < 6
    · have adds : ∀ (P Q : List Str) s, wt P ≤ x.length + 1 → wt Q ≤ x.length + 1 → oAdd (.lst (P.map D.str)) (.lst (Q.map D.str)) s = .ok (.lst ((P ++ Q).map D.str)) s := fun P Q s h1 h2 => oAdd_strs (by omega) s
      obtain ⟨B1, hB1⟩ : ∃ B : List D, B = (R.take n ++ R.drop (n + 1)).map D.str := ⟨_, rfl⟩
      obtain ⟨B2, hB2⟩ : ∃ B : List D, B = (R.take (n + 1) ++ R.drop n).map D.str := ⟨_, rfl⟩
      obtain ⟨B3, hB3⟩ : ∃ B : List D, B = (R.drop n ++ R.take n).map D.str := ⟨_, rfl⟩
      have d1 : ∀ s, oAdd (.lst A1) (.lst A2) s = .ok (.lst B1) s := fun s => by rw [hA1, hA2, hB1]; exact adds _ _ s (by omega) (by omega)
      have d2 : ∀ s, oAdd (.lst A3) (.lst A4) s = .ok (.lst B2) s := fun s => by rw [hA3, hA4, hB2]; exact adds _ _ s (by omega) (by omega)
      have d3 : ∀ s, oAdd (.lst A4) (.lst A1) s = .ok (.lst B3) s := fun s => by rw [hA4, hA1, hB3]; exact adds _ _ s (by omega) (by omega)
      have j1 : ∀ s, oJoin (.str "\n") [.lst B1] s = .ok (.str (Txt.join "\n" (R.take n ++ R.drop (n + 1)))) s := fun s => by rw [hB1]; exact joinR _ s (by rw [wt_app]; omega)
      have j2 : ∀ s, oJoin (.str "\n") [.lst B2] s = .ok (.str (Txt.join "\n" (R.take (n + 1) ++ R.drop n))) s := fun s => by rw [hB2]; exact joinR _ s (by rw [wt_app]; omega)
      have j3 : ∀ s, oJoin (.str "\n") [.lst B3] s = .ok (.str (Txt.join "\n" (R.drop n ++ R.take n))) s := fun s => by rw [hB3]; exact joinR _ s (by rw [wt_app]; omega)
      rcases (show way = 3 ∨ way = 4 ∨ way = 5 by omega) with rfl | rfl | rfl
      · exact ⟨_, s5, by simp [-oAdd_str, -oLen_str, -oAdd_lst, oLen_of hlim, oLen_of hslen, a1, a2, hS, hslen2, hm, a3, a4, hix, hsp, a5, c1, c2, c3, c4, d1, d2, d3, j1]; rfl, joinO _ ((hR3.take _).app (hR3.drop _)), by have := joinL (R.take n ++ R.drop (n + 1)); rw [wt_app] at this; omega, S5, KK⟩
      · exact ⟨_, s5, by simp [-oAdd_str, -oLen_str, -oAdd_lst, oLen_of hlim, oLen_of hslen, a1, a2, hS, hslen2, hm, a3, a4, hix, hsp, a5, c1, c2, c3, c4, d1, d2, d3, j2]; rfl, joinO _ ((hR3.take _).app (hR3.drop _)), by have := joinL (R.take (n + 1) ++ R.drop n); rw [wt_app] at this; omega, S5, KK⟩
      · exact ⟨_, s5, by simp [-oAdd_str, -oLen_str, -oAdd_lst, oLen_of hlim, oLen_of hslen, a1, a2, hS, hslen2, hm, a3, a4, hix, hsp, a5, c1, c2, c3, c4, d1, d2, d3, j3]; rfl, joinO _ ((hR3.drop _).app (hR3.take _)), by have := joinL (R.drop n ++ R.take n); rw [wt_app] at this; omega, S5, KK⟩
    · have hr := List.getElem_mem hn
      obtain ⟨r, hrd⟩ : ∃ r, r = R[n] := ⟨_, rfl⟩
      rw [← hrd] at hr
      have hrw := wt_mem hr
      have hro := hR3 r hr
      have hLn : atI L (n : Int) = some (.str r) := by
        rw [atI_nat (by omega), hL, List.getElem?_map, List.getElem?_eq_getElem hn, ← hrd]
        rfl
      have hsw : ∀ s, oSplit (.str r) [.str " "] s = .ok (.lst ((Txt.split r " ").map D.str)) s := fun s => oSplit_of ⟨by decide +kernel, by show _ ≤ 16777216; omega⟩ s
      have hW1 : Txt.split r " " ≠ [] := by rw [sp_str]; exact (split_sp 32 r).1
      have hW2 : wt (Txt.split r " ") = r.length + 1 := by rw [sp_str]; exact split_wt 32 r
      have hW3 : okS (Txt.split r " ") := by rw [sp_str]; exact strOk_split hro 32
      have joinW : ∀ (ps : List Str) s, wt ps ≤ 16777216 → oJoin (.str " ") [.lst (ps.map D.str)] s = .ok (.str (Txt.join " " ps)) s := fun ps s h => by rw [sp_str]; exact oJoin_wt h s
      have joinWL : ∀ ps : List Str, (Txt.join " " ps).length ≤ wt ps := fun ps => by rw [sp_str]; exact join_le ps
      have joinWO : ∀ ps : List Str, okS ps → PyData.strOk (Txt.join " " ps) = true := fun ps h => by rw [sp_str]; exact strOk_join (by decide) h
      generalize Txt.split r " " = W at hsw hW1 hW2 hW3
      have hWl := wt_len W
      have hWp : 0 < W.length := List.length_pos_iff.mpr hW1
      obtain ⟨V, hV⟩ : ∃ V, V = W.map D.str := ⟨_, rfl⟩
      have hVl : V.length = W.length := by rw [hV, List.length_map]
      rw [← hV] at hsw
      obtain ⟨jj, s6, a6, j0, j1, S6, K6⟩ := drawn_spec S5 (many := (V.length : Int)) (by omega) (by omega)
      obtain ⟨j, rfl⟩ := Int.eq_ofNat_of_zero_le j0
      have hj : j < W.length := by omega
      obtain ⟨o, s7, a7, o0, o1, S7, K7⟩ := drawn_spec S6 (many := 15) (by decide) (by decide)
      have K3' := (KK.trans K6).trans K7
      obtain ⟨od, hod, hoa⟩ := atI_strs (l := oddK) (v := o) o0 (by show o < 15; omega)
      have hodk := oddK_ok od hod
      have hoa' : atI [D.str "", .str "00", .str "01", .str "255", .str "256", .str "999999", .str "1000000", .str "-1", .str "+1", .str "1_0", .str "0", .str "fence", .str "put", .str "Put", .str "swear"] o = some (.str od) := hoa
      have hwj := List.getElem_mem hj
      obtain ⟨w, hwd⟩ : ∃ w, w = W[j] := ⟨_, rfl⟩
      rw [← hwd] at hwj
      have hww := wt_mem hwj
      have hVj : atI V (j : Int) = some (.str w) := by
        rw [atI_nat (by omega), hV, List.getElem?_map, List.getElem?_eq_getElem hj, ← hwd]
        rfl
      have mul2 : ∀ s, oMulL (.lst [.str w]) (.int 2) s = .ok (.lst [.str w, .str w]) s := fun s => oMulL_of (show -(2 ^ 63) ≤ (2 : Int) ∧ (2 : Int) < 2 ^ 63 ∧ 1 * 2 ≤ 16777216 by decide) s
      have f1 : ((j : Int) + 1) = ((j + 1 : Nat) : Int) := rfl
      obtain ⟨V1, hV1⟩ : ∃ A : List D, A = (W.take j).map D.str := ⟨_, rfl⟩
      obtain ⟨V2, hV2⟩ : ∃ A : List D, A = (W.drop (j + 1)).map D.str := ⟨_, rfl⟩
      have v1 : cutD V none (some (j : Int)) = V1 := by rw [hV, cutD_to, hV1, List.map_take]
      have v2 : cutD V (some ((j : Int) + 1)) none = V2 := by rw [hV, f1, cutD_from, hV2, List.map_drop]
      have u1 := wt_split W j
      have u2 := wt_split W (j + 1)
      -- with any words there
      have mid : ∀ (xs : List Str), wt xs ≤ w.length + 1 + x.length + 9 → okS xs → ∃ (y : Str) (P Q U Z : List D) (z : Str), (∀ s, oAdd (.lst V1) (.lst (xs.map D.str)) s = .ok (.lst P) s) ∧ (∀ s, oAdd (.lst P) (.lst V2) s = .ok (.lst Q) s) ∧ (∀ s, oJoin (.str " ") [.lst Q] s = .ok (.str z) s) ∧ (∀ s, oAdd (.lst A1) (.lst [.str z]) s = .ok (.lst U) s) ∧ (∀ s, oAdd (.lst U) (.lst A2) s = .ok (.lst Z) s) ∧ (∀ s, oJoin (.str "\n") [.lst Z] s = .ok (.str y) s) ∧ PyData.strOk y = true ∧ y.length ≤ 2 * x.length + 12 := fun xs hx1 hx2 => by
        have q1 : wt (W.take j ++ xs ++ W.drop (j + 1)) ≤ r.length + 1 + x.length + 9 := by
          rw [wt_app, wt_app]
          have u3 : wt (W.take j) + (w.length + 1) + wt (W.drop (j + 1)) = wt W := by
            have : wt (W.drop j) = w.length + 1 + wt (W.drop (j + 1)) := by rw [List.drop_eq_getElem_cons hj, wt_cons, hwd]
            omega
          omega
        have q2 := joinWL (W.take j ++ xs ++ W.drop (j + 1))
        have q3 : wt (R.take n ++ [Txt.join " " (W.take j ++ xs ++ W.drop (j + 1))] ++ R.drop (n + 1)) ≤ 2 * x.length + 12 := by
          rw [wt_app, wt_app, wt_cons, wt_nil]
          have u3 : wt (R.take n) + (r.length + 1) + wt (R.drop (n + 1)) = wt R := by
            have : wt (R.drop n) = r.length + 1 + wt (R.drop (n + 1)) := by rw [List.drop_eq_getElem_cons hn, wt_cons, hrd]
            omega
          omega
        refine ⟨Txt.join "\n" (R.take n ++ [Txt.join " " (W.take j ++ xs ++ W.drop (j + 1))] ++ R.drop (n + 1)), (W.take j ++ xs).map D.str, (W.take j ++ xs ++ W.drop (j + 1)).map D.str, (R.take n ++ [Txt.join " " (W.take j ++ xs ++ W.drop (j + 1))]).map D.str, (R.take n ++ [Txt.join " " (W.take j ++ xs ++ W.drop (j + 1))] ++ R.drop (n + 1)).map D.str, Txt.join " " (W.take j ++ xs ++ W.drop (j + 1)), fun s => ?_, fun s => ?_, fun s => joinW _ s (by omega), fun s => ?_, fun s => ?_, fun s => joinR _ s (by omega), joinO _ ?_, ?_⟩
        · rw [hV1]
          exact oAdd_strs (by rw [wt_app, wt_app] at q1; omega) s
        · rw [hV2]
          exact oAdd_strs (by rw [wt_app] at q1; omega) s
        · rw [hA1]
          exact oAdd_strs (B := [_]) (by rw [wt_app, wt_app] at q3; omega) s
        · rw [hA2]
          exact oAdd_strs (by rw [wt_app] at q3; omega) s
        · exact ((hR3.take _).app (okS.one (joinWO _ (((hW3.take _).app hx2).app (hW3.drop _))))).app (hR3.drop _)
        · have := joinL (R.take n ++ [Txt.join " " (W.take j ++ xs ++ W.drop (j + 1))] ++ R.drop (n + 1))
          omega
      rcases (show way = 6 ∨ way = 7 ∨ way = 8 by omega) with rfl | rfl | rfl
      · obtain ⟨y, P, Q, U, Z, z, m1, m2, m3, m4, m5, m6, m7, m8⟩ := mid [] (by rw [wt_nil]; omega) (fun p hp => by cases hp)
        have n1 : ∀ s, oAdd (.lst V1) (.lst []) s = .ok (.lst P) s := m1
        exact ⟨y, s7, by simp [-oAdd_str, -oLen_str, -oAdd_lst, oLen_of hlim, oLen_of hslen, a1, a2, hS, hslen2, hm, a3, a4, hix, hsp, a5, c1, c2, hLn, hsw, a6, hVj, kl, a7, hoa', mul2, v1, v2, n1, m2, m3, m4, m5, m6], m7, m8, S7, K3'⟩
      · obtain ⟨y, P, Q, U, Z, z, m1, m2, m3, m4, m5, m6, m7, m8⟩ := mid [w, w] (by rw [wt_cons, wt_cons, wt_nil]; omega) ((okS.one (hW3 w hwj)).app (okS.one (hW3 w hwj)))
        have n1 : ∀ s, oAdd (.lst V1) (.lst [.str w, .str w]) s = .ok (.lst P) s := m1
        exact ⟨y, s7, by simp [-oAdd_str, -oLen_str, -oAdd_lst, oLen_of hlim, oLen_of hslen, a1, a2, hS, hslen2, hm, a3, a4, hix, hsp, a5, c1, c2, hLn, hsw, a6, hVj, kl, a7, hoa', mul2, v1, v2, n1, m2, m3, m4, m5, m6], m7, m8, S7, K3'⟩
      · obtain ⟨y, P, Q, U, Z, z, m1, m2, m3, m4, m5, m6, m7, m8⟩ := mid [od] (by rw [wt_cons, wt_nil]; omega) (okS.one hodk.1)
        have n1 : ∀ s, oAdd (.lst V1) (.lst [.str od]) s = .ok (.lst P) s := m1
        exact ⟨y, s7, by simp [-oAdd_str, -oLen_str, -oAdd_lst, oLen_of hlim, oLen_of hslen, a1, a2, hS, hslen2, hm, a3, a4, hix, hsp, a5, c1, c2, hLn, hsw, a6, hVj, kl, a7, hoa', mul2, v1, v2, n1, m2, m3, m4, m5, m6], m7, m8, S7, K3'⟩
/-! ### k24: what a text writes -/
theorem forRun_exE {g : Store → Bool} {lg : LG} {body : LS} {items : List D} (P : Nat → DEnv → Store → Prop) (R : Exn → Store → Prop) (hg : ∀ i e s, P i e s → g s = true)
    (step : ∀ i d e s, items[i]? = some d → P i e s → ∃ e1 s1, lg d e s = .nx e1 s1 ∧ ((∃ e2 s2, body e1 s1 = .nx e2 s2 ∧ P (i + 1) e2 s2) ∨ ∃ x e2 s2, body e1 s1 = .ex x e2 s2 ∧ R x s2)) {env : DEnv} {st : Store} (h0 : P 0 env st) :
    (∃ e s, forRun g lg body items env st = .nx e s ∧ P items.length e s) ∨ ∃ x e s, forRun g lg body items env st = .ex x e s ∧ R x s := by
  have key : ∀ (ds : List D) (i : Nat) (e : DEnv) (s : Store), items.drop i = ds → i ≤ items.length → P i e s → (∃ e' s', forRun g lg body ds e s = .nx e' s' ∧ P items.length e' s') ∨ ∃ x e' s', forRun g lg body ds e s = .ex x e' s' ∧ R x s' := fun ds => by
    induction ds with
    | nil =>
      intro i e s hd hl hp
      have hi : i = items.length := by
        have := congrArg List.length hd
        simp at this
        omega
      subst hi
      exact .inl ⟨e, s, forRun_nil (hg _ e s hp), hp⟩
    | cons d ds ih =>
      intro i e s hd hl hp
      have hlt : i < items.length := by
        have := congrArg List.length hd
        simp at this
        omega
      have e1 : items[i]? = some d := by
        have : (items.drop i)[0]? = some d := by rw [hd]; rfl
        simpa using this
      obtain ⟨ea, sa, h1, h2⟩ := step i d e s e1 hp
      rcases h2 with ⟨eb, sb, h2, h3⟩ | ⟨x, eb, sb, h2, h3⟩
      · rw [forRun_cons (hg i e s hp) h1 (.inl h2)]
        refine ih (i + 1) eb sb ?_ hlt h3
        have : (items.drop i).drop 1 = ds := by rw [hd]; rfl
        rw [← this, List.drop_drop]
      · exact .inr ⟨x, eb, sb, forRun_ex (hg i e s hp) h1 h2, h3⟩
  exact key items 0 env st (by simp) (Nat.zero_le _) h0
theorem oIn_signN (c : Nat) (b : Str) (st : Store) : oIn true (.str ⟨#[c]⟩) (.str b) st = .ok (.bl (!decide (c ∈ b.cps.toList))) st := by
  rw [oIn_str, if_pos rfl, StrLaws.found_one]
theorem oNe_nil {xs : List D} (h1 : rdyDs xs = true) (h2 : depDs xs ≤ 63) (st : Store) : oNe (.lst xs) (.lst []) st = .ok (.bl (!xs.isEmpty)) st := by
  rw [oNe_rdy (by simpa [rdyD] using h1) (by simp [rdyD, rdyDs]) (by simp [depD]; omega) (by simp [depD, depDs])]
  cases xs <;> simp [eqD, eqDs]
theorem lc_figsN (s : Str) (env : DEnv) (st : Store) (hl : env.length = 2) : lcRun gT (gN 1) T_l_number_0 (fVar 1) env (s.cps.toList.map fun c => D.str ⟨#[c]⟩) st = .ok ((s.cps.toList.filter fun c => !digB c).map fun c => D.str ⟨#[c]⟩) st := by
  have key := lcRun_pure (g := gT) (lg := gN 1) (ft := T_l_number_0) (fe := fVar 1) (envw := env) (st := st) rfl (items := s.cps.toList.map fun c => D.str ⟨#[c]⟩)
    (fun d => match d with | .str z => !digB (z.cps.toList.headD 0) | _ => false) id fun d hd => by
    obtain ⟨c, hc, rfl⟩ := List.mem_map.mp hd
    have e1 : (env.set 1 (some (.str ⟨#[c]⟩)))[1]? = some (some (.str ⟨#[c]⟩)) := List.getElem?_set_self (by omega)
    refine ⟨_, rfl, ?_, fun _ => ?_⟩
    · unfold T_l_number_0
      rw [fTest_eq, fOp_eq, fVar_eq, e1, atV_some, Res.bind_at, kOp1_eq, fC_eq, Res.bind_at, oIn_signN, figs]
      rfl
    · rw [fVar_eq, e1]
      rfl
  rw [key, List.map_id, List.filter_map]
  rfl
theorem number2_spec (s : Str) (hs : PyData.strOk s = true) (hl : s.length ≤ lim) (st : Store) : m_l_number [.str s] st = .ok (.int (numOf s)) st := by
  have hsz := strlen s
  obtain ⟨L, hL⟩ : ∃ L, L = (s.cps.toList.filter fun c => !digB c).map fun c => D.str ⟨#[c]⟩ := ⟨_, rfl⟩
  have hcomp : fLc (iA (fVar 0)) (gN 1) T_l_number_0 (fVar 1) [1] [some (.str s), none] st = .ok (.lst L) st := by
    rw [fLc_eq, iA_eq, fVar_eq]
    show ((kWk (.str s) st).bind _) = _
    rw [kWk_str, Res.bind_at, hL]
    exact kLc_of (lc_figsN s _ st rfl) (by rw [List.length_map]; exact Nat.le_trans (List.length_filter_le _ _) (by rw [hsz]; exact hl))
  have hne : oNe (.lst L) (.lst []) st = .ok (.bl (!s.cps.toList.all digB)) st := by
    rw [oNe_nil (rdyDs_all.mpr fun x hx => ?_) (depDs_le.mpr fun x hx => ?_)]
    · congr 2
      rw [hL]
      cases q : s.cps.toList.all digB with
      | true =>
        have : (s.cps.toList.filter fun c => !digB c) = [] := by
          rw [List.filter_eq_nil_iff]
          intro c hc
          rw [List.all_eq_true.mp q c hc]
          decide
        rw [this]
        rfl
      | false =>
        obtain ⟨c, hc, h⟩ := List.all_eq_false.mp q
        have : (s.cps.toList.filter fun c => !digB c) ≠ [] := fun z => by
          have := List.filter_eq_nil_iff.mp z c hc
          simp at this
          exact h this
        cases r : (s.cps.toList.filter fun c => !digB c) with
        | nil => exact absurd r this
        | cons _ _ => rfl
    · rw [hL] at hx
      obtain ⟨c, hc, rfl⟩ := List.mem_map.mp hx
      simp only [rdyD]
      refine strOk_of fun z hz => ?_
      have e : z = c := by simpa using hz
      rw [e]
      exact strOk_mem hs (List.mem_filter.mp hc).1
    · rw [hL] at hx
      obtain ⟨c, hc, rfl⟩ := List.mem_map.mp hx
      simp [depD]
  have z0 : PyData.strOk "0" = true := by decide +kernel
  have h48 : ("0" : Str).cps.toList = [48] := by decide +kernel
  unfold m_l_number
  rw [runB_eq]
  unfold b_l_number
  by_cases c1 : (1 : Int) ≤ s.length ∧ (s.length : Int) ≤ 6
  · have c1' : 1 ≤ s.length ∧ s.length ≤ 6 := by omega
    by_cases c2 : s.cps.toList.all digB = true
    · have hne' : s.cps.toList ≠ [] := fun z => by
        have := congrArg List.length z
        rw [hsz] at this
        have h0 : s.length = 0 := this
        omega
      have hd : NumText.AllDigits s.cps.toList := fun c hc => by
        have := List.all_eq_true.mp c2 c hc
        exact of_decide_eq_true this
      have hi : PySem.intText? s = some ((NumText.digitsVal s.cps.toList : Nat) : Int) := PySem.intText_digits hd hne' (by omega)
      obtain ⟨c0, cr, hcs⟩ : ∃ c0 cr, s.cps.toList = c0 :: cr := by
        cases q : s.cps.toList with
        | nil => exact absurd q hne'
        | cons a l => exact ⟨a, l, rfl⟩
      have hx : oIx (.str s) (.int 0) st = .ok (.str ⟨#[c0]⟩) st := oIx_str (by rw [hcs]; simp) hl st
      have hc0 : 48 ≤ c0 ∧ c0 ≤ 57 := hd c0 (by rw [hcs]; exact List.mem_cons_self)
      have sc : PyData.strOk ⟨#[c0]⟩ = true := strOk_of fun c hc => by
        have : c = c0 := by simpa using hc
        omega
      have int_s : oInt [.str s] st = .ok (.int ((NumText.digitsVal s.cps.toList : Nat) : Int)) st := oInt_str hi (by omega) st
      have b1 : (s == ("0" : Str)) = decide (s.cps.toList = [48]) := by
        by_cases q : s.cps.toList = [48]
        · rw [decide_eq_true q, show s = "0" from cps_inj (q.trans h48.symm)]
          exact beq_self_eq_true _
        · rw [decide_eq_false q]
          exact beq_false_of_ne fun z => q (by rw [z]; exact h48)
      have b2 : ((⟨#[c0]⟩ : Str) == ("0" : Str)) = decide (c0 = 48) := by
        by_cases q : c0 = 48
        · subst q
          decide +kernel
        · rw [decide_eq_false q]
          refine beq_false_of_ne fun z => q ?_
          have := congrArg (fun y : Str => y.cps.toList) z
          rw [h48] at this
          simpa using this
      by_cases c4 : c0 = 48
      · have b2' : ((⟨#[c0]⟩ : Str) == ("0" : Str)) = true := by rw [b2]; exact decide_eq_true c4
        by_cases c3 : s.cps.toList = [48]
        · have b1' : (s == ("0" : Str)) = true := by rw [b1]; exact decide_eq_true c3
          simp [-fLc_eq, hl, c1.1, c1.2, hcomp, hne, c2, hx, oEq_str sc z0, b2', oNe_str hs z0, b1', int_s]
          unfold numOf
          rw [if_pos ⟨c1', c2, .inl c3⟩]
        · have b1' : (s == ("0" : Str)) = false := by rw [b1]; exact decide_eq_false c3
          simp [-fLc_eq, hl, c1.1, c1.2, hcomp, hne, c2, hx, oEq_str sc z0, b2', oNe_str hs z0, b1', int_s]
          unfold numOf
          rw [if_neg (by rintro ⟨_, _, h | h⟩; exact c3 h; exact h (by rw [hcs, c4]; rfl))]
      · have b2' : ((⟨#[c0]⟩ : Str) == ("0" : Str)) = false := by rw [b2]; exact decide_eq_false c4
        simp [-fLc_eq, hl, c1.1, c1.2, hcomp, hne, c2, hx, oEq_str sc z0, b2', int_s]
        unfold numOf
        rw [if_pos ⟨c1', c2, .inr (by rw [hcs]; simp [c4])⟩]
    · have c2' : s.cps.toList.all digB = false := by simpa using c2
      simp [-fLc_eq, hl, c1.1, c1.2, hcomp, hne, c2']
      unfold numOf
      rw [if_neg (by rintro ⟨_, h, _⟩; exact c2 h)]
  · have e : numOf s = -1 := by
      unfold numOf
      rw [if_neg (by rintro ⟨h, _⟩; exact c1 ⟨by omega, by omega⟩)]
    rw [e]
    by_cases c3 : (1 : Int) ≤ s.length
    · have c4 : ¬ (s.length : Int) ≤ 6 := fun h => c1 ⟨c3, h⟩
      simp [hl, c3, c4]
    · simp [hl, c3]
theorem val_lt : ∀ (cs : List Nat) (a : Nat), (∀ c ∈ cs, c ≤ 57) → cs.foldl (fun acc c => acc * 10 + (c - 48)) a < (a + 1) * 10 ^ cs.length
  | [], a, _ => by simp
  | c :: cs, a, h => by
    have h1 := h c List.mem_cons_self
    have ih := val_lt cs (a * 10 + (c - 48)) fun x hx => h x (List.mem_cons_of_mem _ hx)
    rw [List.foldl_cons]
    refine Nat.lt_of_lt_of_le ih ?_
    rw [List.length_cons, Nat.pow_succ, Nat.mul_comm (10 ^ cs.length) 10, ← Nat.mul_assoc]
    exact Nat.mul_le_mul_right _ (by omega)
theorem numOf_range (s : Str) : numOf s = -1 ∨ 0 ≤ numOf s ∧ numOf s ≤ 999999 := by
  unfold numOf
  by_cases c : (1 ≤ s.length ∧ s.length ≤ 6) ∧ s.cps.toList.all digB = true ∧ (s.cps.toList = [48] ∨ s.cps.toList.head? ≠ some 48)
  · rw [if_pos c]
    refine .inr ⟨by omega, ?_⟩
    have h1 := val_lt s.cps.toList 0 fun d hd => by
      have h : (48 ≤ d ∧ d ≤ 57) := of_decide_eq_true (List.all_eq_true.mp c.2.1 d hd)
      omega
    rw [strlen] at h1
    have h2 : 10 ^ s.length ≤ 10 ^ 6 := Nat.pow_le_pow_right (by decide) c.1.2
    have h3 : NumText.digitsVal s.cps.toList < (0 + 1) * 10 ^ s.length := h1
    omega
  · rw [if_neg c]
    exact .inl rfl
def szOf (w : Str) : Int := (List.lookup w [(("put" : Str), (3 : Int)), ("flush", 2), ("fence", 1), ("swear", 3)]).getD 0
def goodN : List Int → Bool
  | [] => true
  | c :: r => decide (0 ≤ c ∧ c ≤ 255) && (match r with
    | [] => true
    | v :: _ => decide (0 ≤ v ∧ v ≤ 999999))
def goodW : List Str → Bool
  | [] => false
  | w :: r => decide (szOf w = (r.length : Int) + 1) && goodN (r.map numOf)
def deedW : List Str → D
  | [] => .non
  | w :: r => .tup (.str w :: (r.map numOf).map D.int)
theorem szOf_le (w : Str) : szOf w ≤ 3 := by
  have h3 : (((some 3 : Option Int)).getD 0) ≤ 3 := by decide
  have h2 : (((some 2 : Option Int)).getD 0) ≤ 3 := by decide
  have h1 : (((some 1 : Option Int)).getD 0) ≤ 3 := by decide
  have h0 : (((none : Option Int)).getD 0) ≤ 3 := by decide
  unfold szOf
  rw [List.lookup_cons]
  cases w == ("put" : Str) with
  | true => exact h3
  | false =>
    dsimp only
    rw [List.lookup_cons]
    cases w == ("flush" : Str) with
    | true => exact h2
    | false =>
      dsimp only
      rw [List.lookup_cons]
      cases w == ("fence" : Str) with
      | true => exact h1
      | false =>
        dsimp only
        rw [List.lookup_cons]
        cases w == ("swear" : Str) with
        | true => exact h3
        | false => exact h0
theorem deedw_spec (w : Str) (hw : PyData.strOk w = true) (ns : List Int) (hl : ns.length < 16300) (st : Store) : m_is_deed [.tup (.str w :: ns.map D.int), .int 256] st = .ok (.bl (decide (szOf w = (ns.length : Int) + 1) && goodN ns)) st := by
  have hr : rdyDs (D.str w :: ns.map D.int) = true := rdyDs_all.mpr fun x hx => by
    rcases List.mem_cons.mp hx with rfl | hx
    · simpa [rdyD] using hw
    · obtain ⟨i, _, rfl⟩ := List.mem_map.mp hx
      rfl
  have hd : depDs (D.str w :: ns.map D.int) ≤ 63 := depDs_le.mpr fun x hx => by
    rcases List.mem_cons.mp hx with rfl | hx
    · simp [depD]
    · obtain ⟨i, _, rfl⟩ := List.mem_map.mp hx
      simp [depD]
  have he : oEq (.tup (.str w :: ns.map D.int)) (.tup []) st = .ok (.bl false) st := oEq_nilT hr hd st
  have hr2 : rdyDs (ns.map D.int) = true := rdyDs_all.mpr fun x hx => by
    obtain ⟨i, _, rfl⟩ := List.mem_map.mp hx
    rfl
  have hd2 : depDs (ns.map D.int) ≤ 63 := depDs_le.mpr fun x hx => by
    obtain ⟨i, _, rfl⟩ := List.mem_map.mp hx
    simp [depD]
  have he2 : oEq (.lst (ns.map D.int)) (.lst []) st = .ok (.bl (ns.map D.int).isEmpty) st := oEq_nil hr2 hd2 st
  have hg : ((List.lookup w [(("put" : Str), (3 : Int)), ("flush", 2), ("fence", 1), ("swear", 3)]).getD 0) = szOf w := rfl
  have hst : ∀ e, stK (gN 2) (gN 3) e st (some (.str w :: ns.map D.int)) = .nx ((e.set 2 (some (.str w))).set 3 (some (.lst (ns.map D.int)))) st := fun e => stK_names (by rw [List.length_map]; omega)
  unfold m_is_deed
  rw [runB_eq]
  unfold b_is_deed
  by_cases c : szOf w = (ns.length : Int) + 1
  · have hle := szOf_le w
    rcases ns with _ | ⟨a, _ | ⟨b, _ | ⟨d, r⟩⟩⟩
    · have c' : szOf w = 1 := by simpa using c
      simp at he he2 hst
      simp [he, he2, hg, c', hst, goodN]
    · have c' : szOf w = 2 := by simpa using c
      simp at he he2 hst
      by_cases ca : 0 ≤ a <;> by_cases cb : a ≤ 255 <;> simp [he, he2, hg, c', hst, goodN, num_int, ca, cb]
    · have c' : szOf w = 3 := by simpa using c
      simp at he he2 hst
      by_cases ca : 0 ≤ a <;> by_cases cb : a ≤ 255 <;> simp [he, he2, hg, c', hst, goodN, num_int, worth_int, ca, cb]
    · simp at c
      omega
  · rw [decide_eq_false c, Bool.false_and]
    simp [he, hg, hst, c]
/-! ### k24: a row is read, is due -/
abbrev lnW (l : Str) : List Str := Txt.split l " "
theorem lnW_spec {l : Str} (h : PyData.strOk l = true) (hl : l.length ≤ 1000000) : ∃ w ws, lnW l = w :: ws ∧ PyData.strOk w = true ∧ okS ws ∧ wt (w :: ws) = l.length + 1 ∧ (∀ st, oSplit (.str l) [.str " "] st = .ok (.lst (.str w :: ws.map D.str)) st) := by
  have h1 : lnW l ≠ [] := by unfold lnW; rw [sp_str]; exact (split_sp 32 l).1
  have h2 : wt (lnW l) = l.length + 1 := by unfold lnW; rw [sp_str]; exact split_wt 32 l
  have h3 : okS (lnW l) := by unfold lnW; rw [sp_str]; exact strOk_split h 32
  have h4 : ∀ st, oSplit (.str l) [.str " "] st = .ok (.lst ((lnW l).map D.str)) st := fun st => oSplit_of ⟨by decide +kernel, by show _ ≤ 16777216; omega⟩ st
  cases q : lnW l with
  | nil => exact absurd q h1
  | cons w ws =>
    rw [q] at h2 h3 h4
    exact ⟨w, ws, rfl, h3 w List.mem_cons_self, fun p hp => h3 p (List.mem_cons_of_mem _ hp), h2, h4⟩
theorem lc_numsF {f : FM} (hf : ∀ (x : Str) s, PyData.strOk x = true → x.length ≤ lim → f [.str x] s = .ok (.int (numOf x)) s) {ws : List Str} (hw : okS ws) (hl : wt ws ≤ 16777216) (env : DEnv) (st : Store) (hle : 7 < env.length) :
    lcRun gT (gN 7) fYes (fCall 1 f (fCons (fVar 7) fNil)) (wipeD env [7]) (ws.map D.str) st = .ok ((ws.map numOf).map D.int) st := by
  have := lcRun_map (g := gT) (lg := gN 7) (ft := fYes) (fe := fCall 1 f (fCons (fVar 7) fNil)) (envw := wipeD env [7]) (st := st) rfl (items := ws.map D.str) (fun d => match d with | .str x => .int (numOf x) | d => d) fun d hd => by
    obtain ⟨x, hx, rfl⟩ := List.mem_map.mp hd
    have e7 : ((wipeD env [7]).set 7 (some (.str x)))[7]? = some (some (.str x)) := List.getElem?_set_self (by simp [wipeD]; exact hle)
    refine ⟨_, rfl, rfl, ?_⟩
    rw [fCall_eq, fCons_eq, fVar_eq, e7, atV_some, Res.bind_at, kCons1_eq, fNil_eq, Res.bind_at, kCons2_eq, Res.bind_at, kCall_1]
    have := wt_mem hx
    exact hf x st (hw x hx) (by show _ ≤ 16777216; omega)
  rw [this, List.map_map, List.map_map]
  rfl
theorem read_turn {st : Store} {f i : Nat} {l : Str} {xs : List D} (a0 o4 o5 o6 o7 : Option D) (h : PyData.strOk l = true) (hl : l.length ≤ 16000) (hs : st[f]? = some (.lst xs)) (hx : xs.length < lim) :
    ((i = 300 ∨ goodW (lnW l) = false) ∧ ∃ e', L_read_1 [a0, some (.ref f), some (.int (i : Int)), some (.str l), o4, o5, o6, o7] st = .ex ⟨"BadText", some ("row", (i : Int))⟩ e' st) ∨
    ((i ≠ 300 ∧ goodW (lnW l) = true) ∧ ∃ p4 p5 p6, L_read_1 [a0, some (.ref f), some (.int (i : Int)), some (.str l), o4, o5, o6, o7] st = .nx [a0, some (.ref f), some (.int (i : Int)), some (.str l), p4, p5, p6, o7] (st.set f (.lst (xs ++ [deedW (lnW l)])))) := by
  obtain ⟨w, ws, e, h1, h2, h3, h4⟩ := lnW_spec h (by omega)
  rw [wt_cons] at h3
  have hwl := wt_len ws
  rw [e]
  obtain ⟨V, hV⟩ : ∃ V, V = ws.map D.str := ⟨_, rfl⟩
  have hVl : V.length = ws.length := by rw [hV, List.length_map]
  obtain ⟨N, hN⟩ : ∃ N, N = ws.map numOf := ⟨_, rfl⟩
  have hNl : N.length = ws.length := by rw [hN, List.length_map]
  have hst : ∀ e, stK (gN 4) (gN 5) e st (some (.str w :: V)) = .nx ((e.set 4 (some (.str w))).set 5 (some (.lst V))) st := fun e => stK_names (by omega)
  have hcomp : ∀ env : DEnv, env[5]? = some (some (.lst V)) → 7 < env.length → fLc (iA (fVar 5)) (gN 7) (fYes) E_read_0 [7] env st = .ok (.lst (N.map D.int)) st := fun env h5 h7 => by
    rw [fLc_eq, iA_eq, fVar_eq, h5, atV_some, Res.bind_at, kWk_lst, Res.bind_at]
    refine kLc_of ?_ (by rw [List.length_map, hNl]; show _ ≤ 16777216; omega)
    rw [hV, hN]
    exact lc_numsF (fun x s h1 h2 => number_spec x h1 h2 s) h2 (by omega) env st h7
  obtain ⟨M, hM⟩ : ∃ M, M = N.map D.int := ⟨_, rfl⟩
  rw [← hM] at hcomp
  have hMl : M.length = ws.length := by rw [hM, List.length_map, hNl]
  have hadd : oAdd (.lst [.str w]) (.lst M) st = .ok (.lst (.str w :: M)) st := by
    rw [oAdd_lst, if_pos (by show 1 + M.length ≤ 16777216; omega)]
    rfl
  have hdeed : m_is_deed [.tup (.str w :: M), .int 256] st = .ok (.bl (goodW (w :: ws))) st := by
    rw [hM, deedw_spec w h1 N (by omega), hNl, hN]
    rfl
  have hdw : deedW (w :: ws) = .tup (.str w :: M) := by rw [hM, hN]; rfl
  have happ : oApp (.ref f) [.tup (.str w :: M)] st = .ok .non (st.set f (.lst (xs ++ [.tup (.str w :: M)]))) := oApp_ref hs hx _
  have hbm := kBM1_ref hs oApp
  rw [hdw]
  unfold L_read_1
  by_cases c : i = 300
  · refine .inl ⟨.inl c, [a0, some (.ref f), some (.int (i : Int)), some (.str l), some (.str w), some (.lst V), some (.tup (.str w :: M)), o7], ?_⟩
    have c' : ((i : Nat) : Int) = 300 := by omega
    simp [-fLc_eq, h4, ← hV, hst, hcomp, hadd, c']
  · have c' : ¬ ((i : Nat) : Int) = 300 := by omega
    cases g : goodW (w :: ws) with
    | false =>
      rw [g] at hdeed
      refine .inl ⟨.inr rfl, [a0, some (.ref f), some (.int (i : Int)), some (.str l), some (.str w), some (.lst V), some (.tup (.str w :: M)), o7], ?_⟩
      simp [-fLc_eq, h4, ← hV, hst, hcomp, hadd, c', hdeed]
    | true =>
      rw [g] at hdeed
      refine .inr ⟨⟨c, rfl⟩, some (.str w), some (.lst V), some (.tup (.str w :: M)), ?_⟩
      simp [-fLc_eq, h4, ← hV, hst, hcomp, hadd, c', hdeed, hbm, happ]
def kvSz : List (Key × D) := [(Sum.inr "put", .int 3), (Sum.inr "flush", .int 2), (Sum.inr "fence", .int 1), (Sum.inr "swear", .int 3)]
theorem valD_sz (w : Str) : (valD kvSz (Sum.inr w)).getD (.int 0) = .int (szOf w) := by
  unfold valD kvSz szOf
  have b1 : ∀ a : Str, decide ((Sum.inr a : Key) = Sum.inr w) = (w == a) := fun a => by
    by_cases h : a = w
    · subst h
      simp
    · rw [decide_eq_false (fun z => h (Sum.inr.inj z))]
      exact (beq_false_of_ne fun z => h z.symm).symm
  rw [List.lookup_cons]
  simp only [List.find?_cons, b1]
  cases w == ("put" : Str) with
  | true => rfl
  | false =>
    dsimp only
    rw [List.lookup_cons]
    cases w == ("flush" : Str) with
    | true => rfl
    | false =>
      dsimp only
      rw [List.lookup_cons]
      cases w == ("fence" : Str) with
      | true => rfl
      | false =>
        dsimp only
        rw [List.lookup_cons]
        cases w == ("swear" : Str) with
        | true => rfl
        | false => rfl
theorem disp_sz (s : Store) (env : DEnv) : fDisp (fPc (fC (.str "put")) (fC (.int 3)) (fPc (fC (.str "flush")) (fC (.int 2)) (fPc (fC (.str "fence")) (fC (.int 1)) (fPc (fC (.str "swear")) (fC (.int 3)) fPn)))) env s = .ok (.ref s.length) (s ++ [.dic kvSz]) := by
  have h0 : (s ++ [Cell.dic []])[s.length]? = some (.dic []) := by simp
  have hm : mergeD [] kvSz = kvSz := by
    have n1 : ¬ (("put" : Str) = "flush") := by decide +kernel
    have n2 : ¬ (("put" : Str) = "fence") := by decide +kernel
    have n3 : ¬ (("put" : Str) = "swear") := by decide +kernel
    have n4 : ¬ (("flush" : Str) = "fence") := by decide +kernel
    have n5 : ¬ (("flush" : Str) = "swear") := by decide +kernel
    have n6 : ¬ (("fence" : Str) = "swear") := by decide +kernel
    unfold kvSz mergeD
    simp [setD, n1, n2, n3, n4, n5, n6]
  have := kDisp_of (ps := [(D.str "put", D.int 3), (D.str "flush", .int 2), (.str "fence", .int 1), (.str "swear", .int 3)]) h0 (kvs := kvSz) rfl (by decide)
  simp [this, hm]
theorem due_turn {st : Store} {f i : Nat} {l : Str} {xs : List D} {rows : List D} (a0 o4 o5 o6 o7 : Option D) (h : PyData.strOk l = true) (hl : l.length ≤ 16000) (hr : atI rows (i : Int) = some (.str l)) (hs : st[f]? = some (.lst xs)) (hx : xs.length < lim) :
    ∃ st', Keeps f st st' ∧ (((300 ≤ i ∨ goodW (lnW l) = false) ∧ L_l_due_1 [a0, some (.ref f), some (.lst rows), some (.int (i : Int)), o4, o5, o6, o7] st = .rt (.tup [.str "BadText", .int (i : Int)]) st') ∨
    ((i < 300 ∧ goodW (lnW l) = true) ∧ st'[f]? = some (.lst (xs ++ [deedW (lnW l)])) ∧ ∃ p4 p5 p6, L_l_due_1 [a0, some (.ref f), some (.lst rows), some (.int (i : Int)), o4, o5, o6, o7] st = .nx [a0, some (.ref f), some (.lst rows), some (.int (i : Int)), p4, p5, p6, o7] st')) := by
  obtain ⟨w, ws, e, h1, h2, h3, h4⟩ := lnW_spec h (by omega)
  rw [wt_cons] at h3
  have hwl := wt_len ws
  rw [e]
  have hf := (List.getElem?_eq_some_iff.mp hs).1
  have hs' : (st ++ [Cell.dic kvSz])[f]? = some (.lst xs) := by rw [List.getElem?_append_left hf, hs]
  obtain ⟨V, hV⟩ : ∃ V, V = ws.map D.str := ⟨_, rfl⟩
  have hVl : V.length = ws.length := by rw [hV, List.length_map]
  obtain ⟨N, hN⟩ : ∃ N, N = ws.map numOf := ⟨_, rfl⟩
  have hNl : N.length = ws.length := by rw [hN, List.length_map]
  have hNr : ∀ n ∈ N, n = -1 ∨ 0 ≤ n ∧ n ≤ 999999 := fun n hn => by
    rw [hN] at hn
    obtain ⟨x, _, rfl⟩ := List.mem_map.mp hn
    exact numOf_range x
  have hcut1 : ∀ a (l : List D), cutD (a :: l) (some 1) none = l := fun a l => cutD_from (a :: l) 1
  have hcut2 : ∀ (a : D) l, cutD (a :: l) none (some 1) = [a] := fun a l => by
    rw [show (1 : Int) = ((1 : Nat) : Int) from rfl, cutD_to]
    rfl
  have hcut0 : cutD [] none (some 1) = [] := by
    rw [show (1 : Int) = ((1 : Nat) : Int) from rfl, cutD_to]
    rfl
  obtain ⟨M, hM⟩ : ∃ M, M = N.map D.int := ⟨_, rfl⟩
  have hMl : M.length = ws.length := by rw [hM, List.length_map, hNl]
  have hcomp : ∀ env : DEnv, env[4]? = some (some (.lst (.str w :: V))) → 7 < env.length → fLc (iA (fSl (fVar 4) (some (fC (.int 1))) none)) (gN 7) (fYes) E_l_due_0 [7] env st = .ok (.lst M) st := fun env h5 h7 => by
    rw [fLc_eq, iA_eq, fSl_eq, fVar_eq, h5, atV_some, Res.bind_at, kSl1_eq, fPart_some, fC_eq, Res.bind_at, kPart_int, Res.bind_at, kSl2_eq, fPart_none, Res.bind_at, kSl3_eq, oSl_lst, hcut1, Res.bind_at, kWk_lst, Res.bind_at]
    refine kLc_of ?_ (by rw [hMl]; show _ ≤ 16777216; omega)
    rw [hV, hM, hN]
    exact lc_numsF (fun x s h1 h2 => number2_spec x h1 h2 s) h2 (by omega) env st h7
  have hdw : deedW (w :: ws) = .tup (.str w :: M) := by rw [hM, hN]; rfl
  have happ : oApp (.ref f) [.tup (.str w :: M)] (st ++ [Cell.dic kvSz]) = .ok .non ((st ++ [Cell.dic kvSz]).set f (.lst (xs ++ [.tup (.str w :: M)]))) := oApp_ref hs' hx _
  have hbm := kBM1_ref hs' oApp
  have hgt : (st ++ [Cell.dic kvSz])[st.length]? = some (.dic kvSz) := by simp
  have hg1 := kDget1_ref hgt
  have hg2 := kDget3_ref hgt (show keyD (.str w) = some (Sum.inr w) from rfl) (.int 0)
  rw [valD_sz] at hg2
  have hgw : goodW (w :: ws) = (decide (szOf w = (ws.length : Int) + 1) && goodN N) := by rw [hN]; rfl
  have hlen : (((D.str w :: V).length : Nat) : Int) = (ws.length : Int) + 1 := by rw [List.length_cons, hVl]; rfl
  have kf : Keeps f st (st ++ [.dic kvSz]) := Keeps.app _
  rw [hdw]
  unfold L_l_due_1
  by_cases c : i < 300
  · have c' : ((i : Nat) : Int) < 300 := by omega
    by_cases cs : szOf w = (ws.length : Int) + 1
    · have hsz := szOf_le w
      rw [hgw, decide_eq_true cs, Bool.true_and]
      have hap2 : ∀ z : D, oApp (.ref f) [z] (st ++ [Cell.dic kvSz]) = .ok .non ((st ++ [Cell.dic kvSz]).set f (.lst (xs ++ [z]))) := fun z => oApp_ref hs' hx _
      have kset : ∀ z : D, Keeps f st ((st ++ [Cell.dic kvSz]).set f (.lst (xs ++ [z]))) := fun z => kf.trans (Keeps.set _)
      have sset : ∀ z : D, ((st ++ [Cell.dic kvSz]).set f (.lst (xs ++ [z])))[f]? = some (.lst (xs ++ [z])) := fun z => set_at hs'
      have hin : ∀ ns : List Int, oIn false (.int (-1)) (.lst (ns.map D.int)) (st ++ [Cell.dic kvSz]) = .ok (.bl (ns.any fun z => z == -1)) (st ++ [Cell.dic kvSz]) := fun ns => by
        rw [oIn_any (.inl rfl) rfl (rdyDs_all.mpr fun x hx => by obtain ⟨y, _, rfl⟩ := List.mem_map.mp hx; rfl) (by simp [depD]) (depDs_le.mpr fun x hx => by obtain ⟨y, _, rfl⟩ := List.mem_map.mp hx; simp [depD]), if_neg Bool.false_ne_true, List.any_map]
        rfl
      have hnn : ∀ a : Int, oNe (.lst [.int a]) (.lst []) (st ++ [Cell.dic kvSz]) = .ok (.bl true) (st ++ [Cell.dic kvSz]) := fun a => oNe_nil (by simp [rdyDs, rdyD]) (by simp [depDs, depD]) _
      have hn0 : oNe (.lst []) (.lst []) (st ++ [Cell.dic kvSz]) = .ok (.bl false) (st ++ [Cell.dic kvSz]) := oNe_nil (by simp [rdyDs]) (by simp [depDs]) _
      have hi0 := hin []
      have hi1 := fun a => hin [a]
      have hi2 := fun a b => hin [a, b]
      simp only [List.map_cons, List.map_nil] at hi0 hi1 hi2
      have hVM : V.length = N.length := by omega
      rcases N with _ | ⟨a, _ | ⟨b, _ | ⟨d, r⟩⟩⟩
      · have hws : ws.length = 0 := by simpa using hNl.symm
        subst hM
        refine ⟨_, kset _, .inr ⟨⟨c, rfl⟩, sset _, some (.lst (.str w :: V)), some (.lst []), some (.bl true), ?_⟩⟩
        simp [-fLc_eq, -fDisp_eq, hr, h4, ← hV, hcomp, disp_sz, hg1, hg2, c', cs, hVl, hws, hi0, hn0, hcut0, hcut1, hcut2, hbm, hap2, lim]
      · have hws : ws.length = 1 := by simpa using hNl.symm
        subst hM
        simp only [List.map_cons, List.map_nil] at hcomp ⊢
        rcases hNr a List.mem_cons_self with rfl | ⟨r0, r1⟩
        · refine ⟨_, kf, .inl ⟨.inr (by simp [goodN]), ?_⟩⟩
          simp [-fLc_eq, -fDisp_eq, hr, h4, ← hV, hcomp, disp_sz, hg1, hg2, c', cs, hVl, hws, hi1, hcut0, hcut1, hcut2, hbm, hap2, lim]
        · have na : (a == -1) = false := beq_false_of_ne (by omega)
          by_cases r2 : a ≤ 255
          · have r3 : ¬ 255 < a := by omega
            refine ⟨_, kset _, .inr ⟨⟨c, by simp [goodN, r0, r2]⟩, sset _, some (.lst (.str w :: V)), some (.lst [.int a]), some (.bl true), ?_⟩⟩
            simp [-fLc_eq, -fDisp_eq, hr, h4, ← hV, hcomp, disp_sz, hg1, hg2, c', cs, hVl, hws, hi1, hnn, na, r3, hcut0, hcut1, hcut2, hbm, hap2, lim]
          · have r3 : 255 < a := by omega
            refine ⟨_, kf, .inl ⟨.inr (by simp [goodN, r0, r2]), ?_⟩⟩
            simp [-fLc_eq, -fDisp_eq, hr, h4, ← hV, hcomp, disp_sz, hg1, hg2, c', cs, hVl, hws, hi1, hnn, na, r3, hcut0, hcut1, hcut2, hbm, hap2, lim]
      · have hws : ws.length = 2 := by simpa using hNl.symm
        subst hM
        simp only [List.map_cons, List.map_nil] at hcomp ⊢
        rcases hNr a List.mem_cons_self with rfl | ⟨r0, r1⟩
        · refine ⟨_, kf, .inl ⟨.inr (by simp [goodN]), ?_⟩⟩
          simp [-fLc_eq, -fDisp_eq, hr, h4, ← hV, hcomp, disp_sz, hg1, hg2, c', cs, hVl, hws, hi2, hcut0, hcut1, hcut2, hbm, hap2, lim]
        · have na : (a == -1) = false := beq_false_of_ne (by omega)
          rcases hNr b (List.mem_cons_of_mem _ List.mem_cons_self) with rfl | ⟨q0, q1⟩
          · refine ⟨_, kf, .inl ⟨.inr (by simp [goodN]), ?_⟩⟩
            simp [-fLc_eq, -fDisp_eq, hr, h4, ← hV, hcomp, disp_sz, hg1, hg2, c', cs, hVl, hws, hi2, na, hcut0, hcut1, hcut2, hbm, hap2, lim]
          · have nb : (b == -1) = false := beq_false_of_ne (by omega)
            by_cases r2 : a ≤ 255
            · have r3 : ¬ 255 < a := by omega
              refine ⟨_, kset _, .inr ⟨⟨c, by simp [goodN, r0, r2, q0, q1]⟩, sset _, some (.lst (.str w :: V)), some (.lst [.int a, .int b]), some (.bl true), ?_⟩⟩
              simp [-fLc_eq, -fDisp_eq, hr, h4, ← hV, hcomp, disp_sz, hg1, hg2, c', cs, hVl, hws, hi2, hnn, na, nb, r3, hcut0, hcut1, hcut2, hbm, hap2, lim]
            · have r3 : 255 < a := by omega
              refine ⟨_, kf, .inl ⟨.inr (by simp [goodN, r0, r2]), ?_⟩⟩
              simp [-fLc_eq, -fDisp_eq, hr, h4, ← hV, hcomp, disp_sz, hg1, hg2, c', cs, hVl, hws, hi2, hnn, na, nb, r3, hcut0, hcut1, hcut2, hbm, hap2, lim]
      · exfalso
        simp at hNl
        omega
    · refine ⟨st ++ [.dic kvSz], kf, .inl ⟨.inr (by rw [hgw, decide_eq_false cs, Bool.false_and]), ?_⟩⟩
      simp [-fLc_eq, -fDisp_eq, hr, h4, ← hV, hcomp, disp_sz, hg1, hg2, c', cs, hVl]
  · have c' : ¬ ((i : Nat) : Int) < 300 := by omega
    refine ⟨st, Keeps.refl _ _, .inl ⟨.inl (by omega), ?_⟩⟩
    simp [-fLc_eq, -fDisp_eq, hr, h4, ← hV, hcomp, c']
/-! ### k24: the law -/
theorem seq_nx24 {f g : LS} {env e2 : DEnv} {st s2 : Store} (h : f env st = .nx e2 s2) : fSeq f g env st = g e2 s2 := by
  rw [fSeq_eq, h, seqK_nx]
def TK (n : Nat) (x : Str) : Prop := PyData.strOk x = true ∧ x.length ≤ n
theorem cat_of {n m : Nat} {a b : Str} (ha : TK n a) (hb : TK m b) (h : n + m ≤ 16777216) : ∃ z : Str, (∀ s, oAdd (.str a) (.str b) s = .ok (.str z) s) ∧ TK (n + m) z := by
  have h1 := ha.2
  have h2 := hb.2
  refine ⟨a ++ b, fun s => ?_, strOk_app ha.1 hb.1, ?_⟩
  · rw [oAdd_str, if_pos (by show _ ≤ 16777216; omega)]
  · rw [len_app]
    omega
theorem tx_tk {n : Int} (h0 : 0 ≤ n) (h1 : n < 1000000) : TK 6 (tx n) := ⟨strOk_of fun c hc => by have := tx_digits h0 c hc; omega, (tx_len h0 h1).2⟩
theorem row24_spec {ns : List Int} {st : Store} {k : Nat} (S : Stt ns st k) : ∃ x st', m_l_row [.ref k, .int 9] st = .ok (.str x) st' ∧ TK 1000 x ∧ Stt ns st' k ∧ Keeps k st st' := by
  have hk := S.lt
  obtain ⟨n, s1, e1, hn0, hn1, S1, K1⟩ := drawn_spec (S.app (.lst [])) (many := 9) (by decide) (by decide)
  have hf1 : s1[st.length]? = some (.lst []) := K1.at_ (by rw [List.getElem?_append_right (Nat.le_refl _)]; simp) (by omega)
  have hr : kR1 [.int n] s1 = .ok (rgD 0 1 n.toNat, gT) s1 := kR1_of (by omega) s1
  obtain ⟨e2, s2, h2, o3, o4, o5, o6, ds, he2, hs2, hl2, hd2, S2, K2⟩ := forRun_inv (g := gT) (lg := gN 3) (items := rgD 0 1 n.toNat) (body := L_l_row_0)
    (fun i e s => ∃ o3 o4 o5 o6, ∃ ds : List Str, e = [some (.ref k), some (.int 9), some (.ref st.length), o3, o4, o5, o6] ∧ s[st.length]? = some (.lst (ds.map D.str)) ∧ ds.length = i ∧ (∀ d ∈ ds, TK 20 d) ∧ Stt ns s k ∧ Keeps k st s)
    (fun _ _ _ _ => rfl)
    (fun i d e s hd ⟨o3, o4, o5, o6, ds, he, hs, hl, hds, Ss, Ks⟩ => by
      have hi : i < n.toNat := by
        have := (List.getElem?_eq_some_iff.mp hd).1
        simpa [rgD] using this
      subst he
      obtain ⟨c, t1, a1, hc0, hc1, T1, L1⟩ := drawn_spec Ss (many := 256) (by decide) (by decide)
      obtain ⟨b, t2, a2, hb0, hb1, T2, L2⟩ := drawn_spec T1 (many := 2) (by decide) (by decide)
      obtain ⟨m, hm, hm0, hm1⟩ : ∃ m : Int, atI [D.int 10, D.int 1000000] b = some (.int m) ∧ 0 < m ∧ m ≤ 1000000 := by
        rcases (show b = 0 ∨ b = 1 by omega) with rfl | rfl
        · exact ⟨10, by simp, by decide, by decide⟩
        · exact ⟨1000000, by simp, by decide, by decide⟩
      obtain ⟨v, t3, a3, hv0, hv1, T3, L3⟩ := drawn_spec T2 (many := m) hm0 (by omega)
      obtain ⟨q, t4, a4, hq0, hq1, T4, L4⟩ := drawn_spec T3 (many := 4) (by decide) (by decide)
      have hf4 : t4[st.length]? = some (.lst (ds.map D.str)) := (((L1.trans L2).trans L3).trans L4).at_ hs (by omega)
      have hf3 : t3[st.length]? = some (.lst (ds.map D.str)) := ((L1.trans L2).trans L3).at_ hs (by omega)
      have xc : ∀ s, oStr [.int c] s = .ok (.str (tx c)) s := fun s => oStr_int (small_log hc0 (by omega)) s
      have xv : ∀ s, oStr [.int v] s = .ok (.str (tx v)) s := fun s => oStr_int (small_log hv0 (by omega)) s
      have kc := tx_tk hc0 (show c < 1000000 by omega)
      have kv := tx_tk hv0 (show v < 1000000 by omega)
      have kp : TK 4 "put " := ⟨by decide +kernel, by decide +kernel⟩
      have kf : TK 6 "flush " := ⟨by decide +kernel, by decide +kernel⟩
      have ke : TK 5 "fence" := ⟨by decide +kernel, by decide +kernel⟩
      have kw : TK 6 "swear " := ⟨by decide +kernel, by decide +kernel⟩
      have kb : TK 1 " " := ⟨by decide +kernel, by decide +kernel⟩
      obtain ⟨p1, f1, g1⟩ := cat_of kp kc (by decide)
      obtain ⟨p2, f2, g2⟩ := cat_of g1 kb (by decide)
      obtain ⟨p3, f3, g3⟩ := cat_of g2 kv (by decide)
      obtain ⟨p4, f4, g4⟩ := cat_of kf kc (by decide)
      obtain ⟨q1, f5, g5⟩ := cat_of kw kc (by decide)
      obtain ⟨q2, f6, g6⟩ := cat_of g5 kb (by decide)
      obtain ⟨q3, f7, g7⟩ := cat_of g6 kv (by decide)
      obtain ⟨dd, hdd, hok⟩ : ∃ dd : Str, atI [D.str p3, D.str p4, D.str "fence", D.str q3] q = some (.str dd) ∧ TK 20 dd := by
        rcases (show q = 0 ∨ q = 1 ∨ q = 2 ∨ q = 3 by omega) with rfl | rfl | rfl | rfl
        · exact ⟨p3, by simp, g3.1, Nat.le_trans g3.2 (by decide)⟩
        · exact ⟨p4, by simp, g4.1, Nat.le_trans g4.2 (by decide)⟩
        · exact ⟨_, by simp, ke.1, Nat.le_trans ke.2 (by decide)⟩
        · exact ⟨q3, by simp, g7.1, Nat.le_trans g7.2 (by decide)⟩
      have happ : oApp (.ref st.length) [.str dd] t4 = .ok .non (t4.set st.length (.lst (ds.map D.str ++ [.str dd]))) := oApp_ref hf4 (by rw [List.length_map, hl]; show i < 16777216; omega) _
      refine ⟨[some (.ref k), some (.int 9), some (.ref st.length), some d, o4, o5, o6], s, [some (.ref k), some (.int 9), some (.ref st.length), some d, some (.int c), some (.int v), some (.lst [.str p3, .str p4, .str "fence"])], t4.set st.length (.lst (ds.map D.str ++ [.str dd])), rfl, .inl ?_, _, _, _, _, ds ++ [dd], rfl, ?_, by simp [hl], ?_, T4.set (by omega) _, ?_⟩
      · unfold L_l_row_0
        simp [-oAdd_str, a1, a2, hm, a3, xc, xv, f1, f2, f3, f4, f5, f6, f7, a4, hdd, kBM1_ref hf3, happ, lim]
      · rw [List.map_append]
        exact set_at hf4
      · intro x hx
        rcases List.mem_append.mp hx with hx | hx
        · exact hds x hx
        · rw [List.mem_singleton.mp hx]
          exact hok
      · exact (Ks.trans (((L1.trans L2).trans L3).trans L4)).setNew (Nat.le_refl _) _) (env := [some (.ref k), some (.int 9), some (.ref st.length), none, none, none, none]) (st := s1)
    ⟨none, none, none, none, [], rfl, hf1, rfl, (fun d h => by cases h), S1, (Keeps.app _).trans K1⟩
  subst he2
  have hl9 : ds.length ≤ 8 := by
    rw [hl2]
    simp [rgD]
    omega
  have hw : wt ds ≤ ds.length * 21 := by
    unfold wt
    exact sum_le fun d hd => by
      have := (hd2 d hd).2
      omega
  have hj : oJoin (.str "\n") [.ref st.length] s2 = .ok (.str (Txt.join "\n" ds)) s2 := by
    have h := oJoin_wt (c := 10) (ps := ds) (by omega) s2
    rw [← nl_str] at h
    have e : rdOf (.ref st.length) s2 = some (ds.map D.str) := rdOf_ref hs2
    have e' : rdOf (.lst (ds.map D.str)) s2 = some (ds.map D.str) := rfl
    unfold oJoin at h ⊢
    dsimp only at h ⊢
    rw [e]
    rw [e'] at h
    exact h
  refine ⟨Txt.join "\n" ds, s2, ?_, ⟨?_, ?_⟩, S2, K2⟩
  · unfold m_l_row
    rw [runB_eq]
    unfold b_l_row
    simp [e1, hr, h2, hj]
  · rw [nl_str]
    exact strOk_join (by decide) fun d hd => (hd2 d hd).1
  · rw [nl_str]
    have := join_le (c := 10) ds
    omega
def linesOf (x : Str) : List Str := if x = "" then [] else Txt.split x "\n"
def AG (ls : List Str) (n : Nat) : Prop := ∀ j l, j < n → ls[j]? = some l → j < 300 ∧ goodW (lnW l) = true
/-- the first row that can't be -/
def FB (ls : List Str) (i : Nat) : Prop := AG ls i ∧ ∃ l, ls[i]? = some l ∧ (300 ≤ i ∨ goodW (lnW l) = false)
theorem FB_le {ls : List Str} {i j : Nat} (a : FB ls i) (b : AG ls j) : j ≤ i := by
  refine Nat.le_of_not_lt fun h => ?_
  obtain ⟨l, h1, h2⟩ := a.2
  obtain ⟨h3, h4⟩ := b i l h h1
  rcases h2 with h2 | h2
  · omega
  · rw [h4] at h2
    cases h2
theorem FB_eq {ls : List Str} {i j : Nat} (a : FB ls i) (b : FB ls j) : i = j := Nat.le_antisymm (FB_le b a.1) (FB_le a b.1)
theorem FB_AG {ls : List Str} {i : Nat} (a : FB ls i) (b : AG ls ls.length) : False := by
  have h := FB_le a b
  obtain ⟨l, h1, _⟩ := a.2
  have := (List.getElem?_eq_some_iff.mp h1).1
  omega
theorem AG_le {ls : List Str} {i : Nat} (a : AG ls i) (h : i ≤ ls.length) : i ≤ 300 := by
  refine Nat.le_of_not_lt fun h2 => ?_
  have := a 300 _ h2 (List.getElem?_eq_getElem (by omega))
  omega
theorem AG_succ {ls : List Str} {i : Nat} {l : Str} (a : AG ls i) (hl : ls[i]? = some l) (h : i < 300) (g : goodW (lnW l) = true) : AG ls (i + 1) := fun j m hj hm => by
  by_cases e : j = i
  · subst e
    rw [hl] at hm
    cases hm
    exact ⟨h, g⟩
  · exact a j m (by omega) hm
theorem linesOf_spec {x : Str} (h : PyData.strOk x = true) : okS (linesOf x) ∧ wt (linesOf x) ≤ x.length + 1 := by
  unfold linesOf
  by_cases c : x = ""
  · rw [if_pos c]
    exact ⟨(fun p hp => by cases hp), Nat.zero_le _⟩
  · rw [if_neg c, nl_str]
    exact ⟨strOk_split h 10, Nat.le_of_eq (split_wt 10 x)⟩
theorem lines_at {x : Str} (h : PyData.strOk x = true) (hl : x.length ≤ 1000000) (i : Nat) (env : DEnv) (st : Store) (hi : env[i]? = some (some (.str x))) : fIf (fTest (fOp oNe (fVar i) (fC (.str "")))) (fBM isS oSplit (fVar i) (fCons (fC (.str "\n")) fNil)) (fLst fNil) env st = .ok (.lst ((linesOf x).map D.str)) st := by
  have z0 : PyData.strOk "" = true := by decide +kernel
  have hsp : oSplit (.str x) [.str "\n"] st = .ok (.lst ((Txt.split x "\n").map D.str)) st := oSplit_of ⟨by decide +kernel, by show _ ≤ 16777216; omega⟩ st
  unfold linesOf
  by_cases c : x = ""
  · have b : (x == ("" : Str)) = true := by rw [c]; exact beq_self_eq_true _
    rw [if_pos c]
    simp [hi, oNe_str h z0, b]
  · have b : (x == ("" : Str)) = false := beq_false_of_ne c
    rw [if_neg c]
    simp [hi, oNe_str h z0, b, hsp]
theorem read24 {x : Str} (h : PyData.strOk x = true) (hl : x.length ≤ 15000) (st : Store) : ∃ st', (∀ k, Keeps k st st') ∧ ((AG (linesOf x) (linesOf x).length ∧ m_read [.str x] st = .ok (.lst ((linesOf x).map fun l => deedW (lnW l))) st') ∨ ∃ i : Nat, FB (linesOf x) i ∧ m_read [.str x] st = .ex ⟨"BadText", some ("row", (i : Int))⟩ st') := by
  obtain ⟨hok, hw⟩ := linesOf_spec h
  have hat := fun e s h5 => lines_at h (show x.length ≤ 1000000 by omega) 0 e s h5
  generalize linesOf x = ls at hok hw hat
  have hll := wt_len ls
  have h0 : (st ++ [Cell.lst []])[st.length]? = some (.lst []) := by simp
  have kp : ∀ (s : Store), (∀ j, j < st.length → s[j]? = st[j]?) → st.length ≤ s.length → ∀ k, Keeps k st s := fun s h1 h2 k => ⟨h2, fun j hj _ => h1 j hj⟩
  rcases forRun_exE (g := gT) (lg := gTu [gN 2, gN 3]) (body := L_read_1) (items := numD 0 (ls.map D.str))
    (fun i e s => AG ls i ∧ (∃ o2 o3 o4 o5 o6 o7, e = [some (.str x), some (.ref st.length), o2, o3, o4, o5, o6, o7]) ∧ s = st ++ [Cell.lst ((ls.take i).map fun l => deedW (lnW l))])
    (fun z s => ∃ i : Nat, FB ls i ∧ z = ⟨"BadText", some ("row", (i : Int))⟩ ∧ ∃ c, s = st ++ [c]) (fun _ _ _ _ => rfl)
    (fun i d e s hd ⟨ha, ⟨o2, o3, o4, o5, o6, o7, he⟩, hs⟩ => by
      obtain ⟨y, hy, hdy⟩ := numD_get hd
      rw [List.getElem?_map] at hy
      cases q : ls[i]? with
      | none => rw [q] at hy; cases hy
      | some l =>
        rw [q] at hy
        cases hy
        subst hdy he
        have hlt := (List.getElem?_eq_some_iff.mp q).1
        have ec : ls[i] = l := (List.getElem?_eq_some_iff.mp q).2
        have hm := List.mem_of_getElem? q
        have hlw := wt_mem hm
        have hi3 := AG_le ha (Nat.le_of_lt hlt)
        have hz : 0 + i = i := Nat.zero_add i
        have hat2 : s[st.length]? = some (.lst ((ls.take i).map fun l => deedW (lnW l))) := by rw [hs]; simp
        refine ⟨[some (.str x), some (.ref st.length), some (.int (i : Int)), some (.str l), o4, o5, o6, o7], s, by rw [hz]; simp, ?_⟩
        rcases read_turn (i := i) (l := l) (some (.str x)) o4 o5 o6 o7 (hok l hm) (by omega) hat2 (by rw [List.length_map, List.length_take]; show _ < 16777216; omega) with ⟨h1, e', h2⟩ | ⟨h1, p4, p5, p6, h2⟩
        · refine .inr ⟨_, _, _, h2, i, ⟨ha, l, q, ?_⟩, rfl, _, hs⟩
          rcases h1 with h1 | h1
          · exact .inl (by omega)
          · exact .inr h1
        · refine .inl ⟨_, _, h2, AG_succ ha q (by omega) h1.2, ⟨_, _, _, _, _, _, rfl⟩, ?_⟩
          rw [hs, List.set_append_right _ _ (Nat.le_refl _)]
          simp only [Nat.sub_self, List.set_cons_zero]
          rw [List.take_succ_eq_append_getElem hlt, List.map_append, ec]
          rfl) (env := [some (.str x), some (.ref st.length), none, none, none, none, none, none]) (st := st ++ [.lst []])
    ⟨(fun j l hj _ => absurd hj (Nat.not_lt_zero _)), ⟨_, _, _, _, _, _, rfl⟩, rfl⟩ with ⟨e, s, h1, ha, ⟨o2, o3, o4, o5, o6, o7, he⟩, hs⟩ | ⟨z, e, s, h1, i, hf, hz, c, hs⟩
  · have hn : (numD 0 (ls.map D.str)).length = ls.length := by rw [numD_length, List.length_map]
    rw [hn, List.take_length] at hs
    rw [hn] at ha
    subst he
    have hs2 : s[st.length]? = some (.lst (ls.map fun l => deedW (lnW l))) := by rw [hs]; simp
    refine ⟨s.set st.length .dead, kp _ (fun j hj => ?_) (by rw [hs]; simp), .inl ⟨ha, ?_⟩⟩
    · rw [List.getElem?_set_ne (by omega), hs, List.getElem?_append_left hj]
    · unfold m_read
      rw [runB_eq]
      unfold b_read
      simp [-fIf_eq, hat, h1, oFz_ref hs2]
  · refine ⟨s, kp _ (fun j hj => ?_) (by rw [hs]; simp), .inr ⟨i, hf, ?_⟩⟩
    · rw [hs, List.getElem?_append_left hj]
    · subst hz
      unfold m_read
      rw [runB_eq]
      unfold b_read
      simp [-fIf_eq, hat, h1]
theorem due24 {x : Str} (h : PyData.strOk x = true) (hl : x.length ≤ 15000) (st : Store) : ∃ st', (∀ k, Keeps k st st') ∧ ((AG (linesOf x) (linesOf x).length ∧ m_l_due [.str x] st = .ok (.lst ((linesOf x).map fun l => deedW (lnW l))) st') ∨ ∃ i : Nat, FB (linesOf x) i ∧ m_l_due [.str x] st = .ok (.tup [.str "BadText", .int (i : Int)]) st') := by
  obtain ⟨hok, hw⟩ := linesOf_spec h
  have hat := fun e s h5 => lines_at h (show x.length ≤ 1000000 by omega) 0 e s h5
  generalize linesOf x = ls at hok hw hat
  have hll := wt_len ls
  obtain ⟨L, hL⟩ : ∃ L, L = ls.map D.str := ⟨_, rfl⟩
  have hLl : L.length = ls.length := by rw [hL, List.length_map]
  rw [← hL] at hat
  have h0 : (st ++ [Cell.lst []])[st.length]? = some (.lst []) := by simp
  have hr : kR1 [.int (L.length : Int)] (st ++ [.lst []]) = .ok (rgD 0 1 L.length, gT) (st ++ [.lst []]) := kR1_of (by omega) _
  rcases forRun_or (g := gT) (lg := gN 3) (body := L_l_due_1) (items := rgD 0 1 L.length)
    (fun i e s => AG ls i ∧ (∃ o3 o4 o5 o6 o7, e = [some (.str x), some (.ref st.length), some (.lst L), o3, o4, o5, o6, o7]) ∧ s[st.length]? = some (.lst ((ls.take i).map fun l => deedW (lnW l))) ∧ ∀ k, Keeps k st s)
    (fun z s => ∃ i : Nat, FB ls i ∧ z = .tup [.str "BadText", .int (i : Int)] ∧ ∀ k, Keeps k st s) (fun _ _ _ _ => rfl)
    (fun i d e s hd ⟨ha, ⟨o3, o4, o5, o6, o7, he⟩, hs, hk⟩ => by
      obtain ⟨hlt, hdy⟩ := rgD_get hd
      rw [hLl] at hlt
      subst hdy he
      obtain ⟨l, q⟩ : ∃ l, ls[i]? = some l := ⟨ls[i], List.getElem?_eq_getElem hlt⟩
      have ec : ls[i] = l := (List.getElem?_eq_some_iff.mp q).2
      have hm := List.mem_of_getElem? q
      have hlw := wt_mem hm
      have hz : (0 : Int) + (i : Nat) * 1 = (i : Int) := by omega
      have hri : atI L (i : Int) = some (.str l) := by
        rw [atI_nat (by omega), hL, List.getElem?_map, q]
        rfl
      refine ⟨[some (.str x), some (.ref st.length), some (.lst L), some (.int (i : Int)), o4, o5, o6, o7], s, by rw [hz]; simp, ?_⟩
      obtain ⟨s', ks, hc⟩ := due_turn (i := i) (l := l) (rows := L) (some (.str x)) o4 o5 o6 o7 (hok l hm) (by omega) hri hs (by rw [List.length_map, List.length_take]; show _ < 16777216; omega)
      have hk' : ∀ k, Keeps k st s' := fun k => ⟨Nat.le_trans (hk k).1 ks.1, fun j hj hn => by
        rw [ks.2 j (Nat.lt_of_lt_of_le hj (hk k).1) (by omega), (hk k).2 j hj hn]⟩
      rcases hc with ⟨h1, h2⟩ | ⟨h1, h3, p4, p5, p6, h2⟩
      · exact .inr ⟨_, _, h2, i, ⟨ha, l, q, h1⟩, rfl, hk'⟩
      · refine .inl ⟨_, _, h2, AG_succ ha q h1.1 h1.2, ⟨_, _, _, _, _, rfl⟩, ?_, hk'⟩
        rw [h3, List.take_succ_eq_append_getElem hlt, List.map_append, ec]
        rfl) (env := [some (.str x), some (.ref st.length), some (.lst L), none, none, none, none, none]) (st := st ++ [.lst []])
    ⟨(fun j l hj _ => absurd hj (Nat.not_lt_zero _)), ⟨_, _, _, _, _, rfl⟩, by simp, fun k => Keeps.app _⟩ with ⟨e, s, h1, ha, ⟨o3, o4, o5, o6, o7, he⟩, hs, hk⟩ | ⟨z, s, h1, i, hf, hz, hk⟩
  · have hn : (rgD 0 1 L.length).length = ls.length := by simp [rgD, hLl]
    rw [hn, List.take_length] at hs
    rw [hn] at ha
    subst he
    refine ⟨s.set st.length .dead, fun k => (hk k).setNew (Nat.le_refl _) _, .inl ⟨ha, ?_⟩⟩
    unfold m_l_due
    rw [runB_eq]
    unfold b_l_due
    simp [-fIf_eq, hat, hr, h1, oFz_ref hs]
  · refine ⟨s, hk, .inr ⟨i, hf, ?_⟩⟩
    subst hz
    unfold m_l_due
    rw [runB_eq]
    unfold b_l_due
    simp [-fIf_eq, hat, hr, h1]
theorem deedW_rdy {l : Str} (h : PyData.strOk l = true) (hl : l.length ≤ 15000) : rdyD (deedW (lnW l)) = true ∧ depD (deedW (lnW l)) ≤ 1 ∧ clrD (deedW (lnW l)) = true ∧ lenD (deedW (lnW l)) := by
  obtain ⟨w, ws, e, h1, h2, h3, h4⟩ := lnW_spec h (by omega)
  rw [e]
  rw [wt_cons] at h3
  have hwl := wt_len ws
  have hm : ∀ x ∈ (D.str w :: (ws.map numOf).map D.int), x = .str w ∨ ∃ i, x = .int i := fun x hx => by
    rcases List.mem_cons.mp hx with h | h
    · exact .inl h
    · obtain ⟨i, _, rfl⟩ := List.mem_map.mp h
      exact .inr ⟨i, rfl⟩
  have a1 : rdyDs (D.str w :: (ws.map numOf).map D.int) = true := rdyDs_all.mpr fun x hx => by
    rcases hm x hx with rfl | ⟨i, rfl⟩
    · simpa [rdyD] using h1
    · rfl
  have a2 : depDs (D.str w :: (ws.map numOf).map D.int) ≤ 0 := depDs_le.mpr fun x hx => by
    rcases hm x hx with rfl | ⟨i, rfl⟩ <;> simp [depD]
  have a3 : clrDs (D.str w :: (ws.map numOf).map D.int) = true := clrDs_all.mpr fun x hx => by
    rcases hm x hx with rfl | ⟨i, rfl⟩ <;> simp [clrD]
  have a4 : lenDs (D.str w :: (ws.map numOf).map D.int) := lenDs_all.mpr fun x hx => by
    rcases hm x hx with rfl | ⟨i, rfl⟩ <;> simp [lenD]
  refine ⟨by simpa [rdyD, deedW] using a1, ?_, by simpa [clrD, deedW] using a3, ?_⟩
  · show depD (.tup _) ≤ 1
    simp only [depD]
    omega
  · show lenD (.tup _)
    simp only [lenD]
    refine ⟨?_, a4⟩
    rw [List.length_cons, List.length_map, List.length_map]
    omega
theorem same24 {x : Str} (h : PyData.strOk x = true) (hl : x.length ≤ 15000) (st : Store) : m_l_same 6 [.lst ((linesOf x).map fun l => deedW (lnW l)), .lst ((linesOf x).map fun l => deedW (lnW l))] st = .ok (.bl true) st := by
  obtain ⟨hok, hw⟩ := linesOf_spec h
  have hll := wt_len (linesOf x)
  have hh : ∀ y ∈ ((linesOf x).map fun l => deedW (lnW l)), rdyD y = true ∧ depD y ≤ 1 ∧ clrD y = true ∧ lenD y := fun y hy => by
    obtain ⟨l, hm, rfl⟩ := List.mem_map.mp hy
    have := wt_mem hm
    exact deedW_rdy (hok l hm) (by omega)
  have hn : ((linesOf x).map fun l => deedW (lnW l)).length ≤ 1000000 := by rw [List.length_map]; omega
  generalize ((linesOf x).map fun l => deedW (lnW l)) = ys at hh hn
  have c : clrD (.lst ys) = true := by simp only [clrD]; exact clrDs_all.mpr fun y hy => (hh y hy).2.2.1
  refine same_sees 6 (sees_self _ c) (sees_self _ c) ?_ ?_ ?_
  · simp only [rdyD]
    exact rdyDs_all.mpr fun y hy => (hh y hy).1
  · simp only [lenD]
    exact ⟨hn, lenDs_all.mpr fun y hy => (hh y hy).2.2.2⟩
  · have : depDs ys ≤ 1 := depDs_le.mpr fun y hy => (hh y hy).2.1
    simp only [depD]
    omega
theorem same24b (i : Int) (st : Store) : m_l_same 6 [.tup [.str "BadText", .int i], .tup [.str "BadText", .int i]] st = .ok (.bl true) st := by
  have c : clrD (.tup [.str "BadText", .int i]) = true := by simp [clrD, clrDs]
  have s1 : PyData.strOk "BadText" = true := by decide +kernel
  exact same_sees 6 (sees_self _ c) (sees_self _ c) (by simp [rdyD, rdyDs, s1]) (by simp [lenD, lenDs]) (by simp [depD, depDs])
def odd24 : List Str := ["", " ", "\n", "fence\n", "fence\n\nfence", "fence ", " fence", "put 256 0", "put 255 999999", "put 0 1000000", "flush", "flush 1 2", "fence 1", "put 1", "swear 1", "put 00 1", "put 1 -1"]
theorem odd24_ok : ∀ s ∈ odd24, PyData.strOk s = true ∧ s.length ≤ 20 := by decide +kernel
/-- one change more -/
theorem change24 {ns : List Int} {s : Store} {k : Nat} (S : Stt ns s k) {x : Str} (h : TK 1815 x) (a0 a2 a3 a5 : Option D) : ∃ (n : Int) (y : Str) (o5 : Option D) (s1 s' : Store), m_l_drawn [.ref k, .int 4] s = .ok (.int n) s1 ∧ kR1 [.int n] s1 = .ok (rgD 0 1 n.toNat, gT) s1 ∧
    forRun gT (gN 5) L_law_0 (rgD 0 1 n.toNat) [a0, some (.ref k), a2, a3, some (.str x), a5] s1 = .nx [a0, some (.ref k), a2, a3, some (.str y), o5] s' ∧ TK 15000 y ∧ Stt ns s' k := by
  obtain ⟨n, s1, e1, hn0, hn1, S1, K1⟩ := drawn_spec S (many := 4) (by decide) (by decide)
  obtain ⟨e2, s2, h2, y, o5, he, hy, hyl, S2⟩ := forRun_inv (g := gT) (lg := gN 5) (items := rgD 0 1 n.toNat) (body := L_law_0)
    (fun i e s => ∃ (y : Str) (o5 : Option D), e = [a0, some (.ref k), a2, a3, some (.str y), o5] ∧ PyData.strOk y = true ∧ y.length + 12 ≤ 1827 * 2 ^ i ∧ Stt ns s k) (fun _ _ _ _ => rfl)
    (fun i d e s hd ⟨y, o5, he, hy, hyl, Ss⟩ => by
      have hi : i < n.toNat := by
        have := (List.getElem?_eq_some_iff.mp hd).1
        simpa [rgD] using this
      have hp : 2 ^ i ≤ 2 ^ 3 := Nat.pow_le_pow_right (by decide) (by omega)
      subst he
      obtain ⟨z, s', e3, hz, hzl, S3, K3⟩ := spoilt_spec Ss hy (by omega)
      refine ⟨[a0, some (.ref k), a2, a3, some (.str y), some d], s, [a0, some (.ref k), a2, a3, some (.str z), some d], s', rfl, .inl ?_, z, some d, rfl, hz, ?_, S3⟩
      · unfold L_law_0
        simp [e3]
      · rw [Nat.pow_succ]
        omega) (env := [a0, some (.ref k), a2, a3, some (.str x), a5]) (st := s1) ⟨x, a5, rfl, h.1, by have := h.2; omega, S1⟩
  subst he
  have hn : (rgD 0 1 n.toNat).length ≤ 3 := by
    simp [rgD]
    omega
  have hp : 2 ^ (rgD 0 1 n.toNat).length ≤ 2 ^ 3 := Nat.pow_le_pow_right (by decide) hn
  exact ⟨n, y, o5, s1, s2, e1, kR1_of (by omega) _, h2, ⟨hy, by omega⟩, S2⟩
theorem turn24 {ns : List Int} {s : Store} {k : Nat} (S : Stt ns s k) (a0 a3 a4 a5 : Option D) : ∃ p4 p5 s', L_law_1 [a0, some (.ref k), some (.lst (odd24.map D.str)), a3, a4, a5] s = .nx [a0, some (.ref k), some (.lst (odd24.map D.str)), a3, p4, p5] s' ∧ Stt ns s' k := by
  obtain ⟨x0, s1, e1, k1, S1, K1⟩ := row24_spec S
  obtain ⟨n2, s2, e2, n20, n21, S2, K2⟩ := drawn_spec S1 (many := 5) (by decide) (by decide)
  -- a text of the odd ones
  obtain ⟨x1, s3, f1, k3, S3⟩ : ∃ (x1 : Str) (s3 : Store), (fIfS (fTest (fOp oEq (fCall 2 m_l_drawn (fCons (fVar 1) (fCons (fC (.int 5)) fNil))) (fC (.int 0)))) (fAsg (fOp oIx (fVar 2) (fCall 2 m_l_drawn (fCons (fVar 1) (fCons (fC (.int 17)) fNil)))) (gN 4)) (fNext)) [a0, some (.ref k), some (.lst (odd24.map D.str)), a3, some (.str x0), a5] s1 = .nx [a0, some (.ref k), some (.lst (odd24.map D.str)), a3, some (.str x1), a5] s3 ∧ TK 1815 x1 ∧ Stt ns s3 k := by
    by_cases c : n2 = 0
    · obtain ⟨n3, s3, e3, n30, n31, S3, K3⟩ := drawn_spec S2 (many := 17) (by decide) (by decide)
      obtain ⟨y, hy, ha⟩ := atI_strs (l := odd24) (v := n3) n30 (by show n3 < 17; omega)
      have hk := odd24_ok y hy
      refine ⟨y, s3, ?_, ⟨hk.1, Nat.le_trans hk.2 (by decide)⟩, S3⟩
      generalize odd24.map D.str = O at ha ⊢
      simp [e2, c, e3, ha]
    · refine ⟨x0, s2, ?_, ⟨k1.1, Nat.le_trans k1.2 (by decide)⟩, S2⟩
      generalize odd24.map D.str = O
      simp [e2, c]
  -- a great many fences
  obtain ⟨n4, s4, e4, n40, n41, S4, K4⟩ := drawn_spec S3 (many := 9) (by decide) (by decide)
  obtain ⟨x2, s5, f2, k5, S5⟩ : ∃ (x2 : Str) (s5 : Store), (fIfS (fTest (fOp oEq (fCall 2 m_l_drawn (fCons (fVar 1) (fCons (fC (.int 9)) fNil))) (fC (.int 0)))) (fAsg (fBM isS oJoin (fC (.str "\n")) (fCons (fOp oMulL (fLst (fCons (fC (.str "fence")) fNil)) (fOp oAdd (fC (.int 299)) (fCall 2 m_l_drawn (fCons (fVar 1) (fCons (fC (.int 4)) fNil))))) fNil)) (gN 4)) (fNext)) [a0, some (.ref k), some (.lst (odd24.map D.str)), a3, some (.str x1), a5] s3 = .nx [a0, some (.ref k), some (.lst (odd24.map D.str)), a3, some (.str x2), a5] s5 ∧ TK 1815 x2 ∧ Stt ns s5 k := by
    by_cases c : n4 = 0
    · obtain ⟨n5, s5, e5, n50, n51, S5, K5⟩ := drawn_spec S4 (many := 4) (by decide) (by decide)
      have ke : TK 5 "fence" := ⟨by decide +kernel, by decide +kernel⟩
      have hN : (299 + n5).toNat ≤ 302 := by omega
      have hfl : ∀ m : Nat, (List.replicate m [D.str "fence"]).flatten = (List.replicate m ("fence" : Str)).map D.str := fun m => by
        induction m with
        | zero => rfl
        | succ m ih => rw [List.replicate_succ, List.flatten_cons, ih]; rfl
      have hw : wt (List.replicate (299 + n5).toNat ("fence" : Str)) ≤ 1812 := by
        have := sum_le (f := fun p : Str => p.length + 1) (m := 6) (l := List.replicate (299 + n5).toNat ("fence" : Str)) fun p hp => by
          rw [(List.mem_replicate.mp hp).2]
          have := ke.2
          omega
        rw [List.length_replicate] at this
        unfold wt
        omega
      have hmul : oMulL (.lst [.str "fence"]) (.int (299 + n5)) s5 = .ok (.lst ((List.replicate (299 + n5).toNat ("fence" : Str)).map D.str)) s5 := by
        rw [oMulL_of ⟨by omega, by omega, by show 1 * _ ≤ 16777216; omega⟩, hfl]
      have hj := oJoin_wt (c := 10) (ps := List.replicate (299 + n5).toNat ("fence" : Str)) (by omega) s5
      have hj2 := join_le (c := 10) (List.replicate (299 + n5).toNat ("fence" : Str))
      have hj3 := strOk_join (c := 10) (by decide) (ps := List.replicate (299 + n5).toNat ("fence" : Str)) fun p hp => by rw [(List.mem_replicate.mp hp).2]; exact ke.1
      rw [← nl_str] at hj hj2 hj3
      refine ⟨_, s5, ?_, ⟨hj3, by omega⟩, S5⟩
      generalize odd24.map D.str = O
      generalize (List.replicate (299 + n5).toNat ("fence" : Str)).map D.str = F at hmul hj
      simp [e4, c, e5, hmul, hj]
    · refine ⟨x1, s4, ?_, k3, S4⟩
      generalize odd24.map D.str = O
      simp [e4, c]
  obtain ⟨n6, x3, o5, s6, s7, e6, r6, f3, k7, S7⟩ := change24 S5 k5 a0 (some (.lst (odd24.map D.str))) a3 a5
  obtain ⟨s8, K8, h8⟩ := read24 k7.1 k7.2 s7
  obtain ⟨s9, K9, h9⟩ := due24 k7.1 k7.2 s8
  have S9 : Stt ns s9 k := (S7.keep ((K8 (k + 1)).2 k S7.lt (by omega))).keep ((K9 (k + 1)).2 k (Nat.lt_of_lt_of_le S7.lt (K8 (k + 1)).1) (by omega))
  refine ⟨some (.str x3), o5, s9, ?_, S9⟩
  have hsame : ∃ t u : D, kKindN ["BadText"] (m_read [.str x3] s7) = .ok t s8 ∧ m_l_due [.str x3] s8 = .ok u s9 ∧ m_l_same 6 [t, u] s9 = .ok (.bl true) s9 := by
    rcases h8 with ⟨g1, h8⟩ | ⟨i, g1, h8⟩
    · rcases h9 with ⟨g2, h9⟩ | ⟨j, g2, h9⟩
      · exact ⟨_, _, by rw [h8]; rfl, h9, same24 k7.1 k7.2 s9⟩
      · exact (FB_AG g2 g1).elim
    · rcases h9 with ⟨g2, h9⟩ | ⟨j, g2, h9⟩
      · exact (FB_AG g1 g2).elim
      · have e := FB_eq g1 g2
        subst e
        exact ⟨_, _, by rw [h8, kKindN_num, if_pos (by decide +kernel)], h9, same24b _ s9⟩
  obtain ⟨t, u, q1, q2, q3⟩ := hsame
  generalize odd24.map D.str = O at f1 f2 f3 ⊢
  unfold L_law_1
  rw [seq_nx24 (e2 := [a0, some (.ref k), some (.lst O), a3, some (.str x0), a5]) (s2 := s1) (by simp [e1])]
  rw [seq_nx24 f1, seq_nx24 f2]
  rw [seq_nx24 (e2 := [a0, some (.ref k), some (.lst O), a3, some (.str x3), o5]) (s2 := s7) (by simp [e6, r6, f3])]
  simp [q1, q2, q3]
theorem law_k24 (ns : List Int) (hn : ns.length ≤ 63) : ∃ st, m_law [.lck (ns.map D.int)] [] = .ok (.bl true) st := by
  obtain ⟨mixed, e0⟩ := start_spec ns []
  have S0 : Stt ns ([] ++ [.lst [.lck (ns.map D.int), .int (0 : Nat), .int mixed, .int 0]]) 0 := ⟨0, mixed, 0, rfl⟩
  simp only [List.nil_append, List.length_nil] at e0 S0
  generalize [Cell.lst [.lck (ns.map D.int), .int (0 : Nat), .int mixed, .int 0]] = s0 at e0 S0
  have hr : ∀ s, kR1 [.int 6] s = .ok (rgD 0 1 6, gT) s := fun s => kR1_of (by decide) s
  obtain ⟨e2, s2, h2, o3, o4, o5, he, S2⟩ := forRun_inv (g := gT) (lg := gN 3) (items := rgD 0 1 6) (body := L_law_1)
    (fun i e s => ∃ o3 o4 o5, e = [some (.lck (ns.map D.int)), some (.ref 0), some (.lst (odd24.map D.str)), o3, o4, o5] ∧ Stt ns s 0) (fun _ _ _ _ => rfl)
    (fun i d e s hd ⟨o3, o4, o5, he, Ss⟩ => by
      subst he
      obtain ⟨p4, p5, s', h1, S1⟩ := turn24 Ss (some (.lck (ns.map D.int))) (some d) o4 o5
      exact ⟨[some (.lck (ns.map D.int)), some (.ref 0), some (.lst (odd24.map D.str)), some d, o4, o5], s, _, s', rfl, .inl h1, _, _, _, rfl, S1⟩) (env := [some (.lck (ns.map D.int)), some (.ref 0), some (.lst (odd24.map D.str)), none, none, none]) (st := s0)
    ⟨none, none, none, rfl, S0⟩
  subst he
  refine ⟨s2, ?_⟩
  have l1 : ∀ (a b c d e f g h i : D) s, kLst [a, b, c, d, e, f, g, h, i] s = .ok (.lst [a, b, c, d, e, f, g, h, i]) s := fun _ _ _ _ _ _ _ _ _ s => kLst_of (by simp [lim]) s
  have l2 : ∀ (a b c d e f g h : D) s, kLst [a, b, c, d, e, f, g, h] s = .ok (.lst [a, b, c, d, e, f, g, h]) s := fun _ _ _ _ _ _ _ _ s => kLst_of (by simp [lim]) s
  have ho : [D.str "", .str " ", .str "\n", .str "fence\n", .str "fence\n\nfence", .str "fence ", .str " fence", .str "put 256 0", .str "put 255 999999", .str "put 0 1000000", .str "flush", .str "flush 1 2", .str "fence 1", .str "put 1", .str "swear 1", .str "put 00 1", .str "put 1 -1"] = odd24.map D.str := rfl
  unfold m_law
  rw [runB_eq]
  unfold b_law
  simp [e0, l1, l2, lim, ho, hr, h2]
end Fk
namespace Fq
open PySem PySem.Spec PyProof.Rows L2 Fk
section
variable {P : Program} {w : World} {K : PySem.W.Frag} {mg : Str → Option Value} {base : Heap} {T : List (Addr × Str)}
theorem ok_l_start (z : Fx fa fn tb w K mg) : FoP P w K mg base (T) 1 ("_law_start", none) 1 m_l_start := by
  obtain ⟨fd, F⟩ := z.def_ 0 (d := d_l_start)
  exact fo_def F sc_l_start (fun _ _ _ _ _ _ us hl => match us, hl with | [_], _ => rfl) fun cdv A outer s H E hr => (s_seq (s_set sc_l_start.nd (x_int)) (s_seq (s_for po_of rfl (i_any (x_var 0)) (g_name sc_l_start.nd) (s_one (s_set sc_l_start.nd (x_mod (x_add (x_add (x_mul (x_var 1) (x_int)) (x_var 2)) (x_int)) (x_int))))) (s_one (s_ret (x_lstC (x_cons (x_var 0) (x_cons (x_int) (x_cons (x_var 1) (x_cons (x_int) x_nil)))))))))
theorem ok_l_drawn (z : Fx fa fn tb w K mg) : FoP P w K mg base (T) 1 ("_law_drawn", none) 2 m_l_drawn := by
  obtain ⟨fd, F⟩ := z.def_ 1 (d := d_l_drawn)
  exact fo_def F sc_l_drawn (fun _ _ _ _ _ _ us hl => match us, hl with | [_, _], _ => rfl) fun cdv A outer s H E hr => (s_seq (s_if (x_tgt (x_ix (x_var 0) (x_int)) (x_int)) (s_seq (s_set sc_l_drawn.nd (x_mod (x_ix (x_var 0) (x_int)) (x_var 1))) (s_seq (s_asg (x_div (x_ix (x_var 0) (x_int)) (x_var 1)) (g_sub (x_var 0) (x_int)) gok_sub) (s_one (s_ret (x_var 2))))) (s_nil)) (s_seq (s_asg (x_add (x_ix (x_var 0) (x_int)) (x_int)) (g_sub (x_var 0) (x_int)) gok_sub) (s_seq (s_if (x_tle (x_ix (x_var 0) (x_int)) (x_callB call_len sim_len (z.free 2) (x_cons (x_ix (x_var 0) (x_int)) x_nil))) (s_seq (s_set sc_l_drawn.nd (x_ix (x_ix (x_var 0) (x_int)) (x_sub (x_ix (x_var 0) (x_int)) (x_int)))) (s_seq (s_asg (x_if (x_tge (x_var 3) (x_pow (x_int) (x_int))) (x_div (x_var 3) (x_var 1)) (x_int)) (g_sub (x_var 0) (x_int)) gok_sub) (s_one (s_ret (x_mod (x_var 3) (x_var 1)))))) (s_nil)) (s_seq (s_asg (x_mod (x_add (x_mul (x_ix (x_var 0) (x_int)) (x_int)) (x_int)) (x_int)) (g_sub (x_var 0) (x_int)) gok_sub) (s_one (s_ret (x_mod (x_div (x_ix (x_var 0) (x_int)) (x_int)) (x_var 1))))))))
theorem ok_l_row (z : Fx fa fn tb w K mg) : FoP P w K mg base (T) 2 ("_law_row", none) 2 m_l_row := by
  obtain ⟨fd, F⟩ := z.def_ 2 (d := d_l_row)
  exact fo_def F sc_l_row (fun _ _ _ _ _ _ us hl => match us, hl with | [_, _], _ => rfl) fun cdv A outer s H E hr => (s_seq (s_set sc_l_row.nd (x_lstC x_nil)) (s_seq (s_for po_of rfl (i_range1 (z.free 1) (x_cons (x_call (ok_l_drawn z) hr px_of (z.glo 3) (x_cons (x_var 0) (x_cons (x_var 1) x_nil))) x_nil)) (g_name sc_l_row.nd) (s_seq (s_par rfl sc_l_row.nd (x_cons (x_call (ok_l_drawn z) hr px_of (z.glo 3) (x_cons (x_var 0) (x_cons (x_int) x_nil))) (x_cons (x_call (ok_l_drawn z) hr px_of (z.glo 3) (x_cons (x_var 0) (x_cons (x_ix (x_lst (x_cons (x_int) (x_cons (x_int) x_nil))) (x_call (ok_l_drawn z) hr px_of (z.glo 3) (x_cons (x_var 0) (x_cons (x_int) x_nil)))) x_nil))) x_nil))) (s_seq (s_set sc_l_row.nd (x_lst (x_cons (x_add (x_add (x_add (x_str) (x_callTy (L2.CallR.or call_str_int SkE.call_str_str) sim_str (z.free 4) (x_cons (x_var 4) x_nil))) (x_str)) (x_callTy (L2.CallR.or call_str_int SkE.call_str_str) sim_str (z.free 4) (x_cons (x_var 5) x_nil))) (x_cons (x_add (x_str) (x_callTy (L2.CallR.or call_str_int SkE.call_str_str) sim_str (z.free 4) (x_cons (x_var 4) x_nil))) (x_cons (x_str) x_nil))))) (s_one (s_drop (x_append (x_var 2) (x_ix (x_add (x_var 6) (x_lst (x_cons (x_add (x_add (x_add (x_str) (x_callTy (L2.CallR.or call_str_int SkE.call_str_str) sim_str (z.free 4) (x_cons (x_var 4) x_nil))) (x_str)) (x_callTy (L2.CallR.or call_str_int SkE.call_str_str) sim_str (z.free 4) (x_cons (x_var 5) x_nil))) x_nil))) (x_call (ok_l_drawn z) hr px_of (z.glo 3) (x_cons (x_var 0) (x_cons (x_int) x_nil)))))))))) (s_one (s_ret (x_bm PySem.F.plainAttrs_str PySem.F.slot_str_join PySem.F.type_str_join mt_join sim_join ty_str (x_str) (x_cons (x_var 2) x_nil))))))
theorem ok_l_spoilt (z : Fx fa fn tb w K mg) : FoP P w K mg base (T) 2 ("_law_spoilt", none) 2 m_l_spoilt := by
  obtain ⟨fd, F⟩ := z.def_ 3 (d := d_l_spoilt)
  exact fo_def F sc_l_spoilt (fun _ _ _ _ _ _ us hl => match us, hl with | [_, _], _ => rfl) fun cdv A outer s H E hr => (s_seq (s_par rfl sc_l_spoilt.nd (x_cons (x_call (ok_l_drawn z) hr px_of (z.glo 3) (x_cons (x_var 0) (x_cons (x_int) x_nil))) (x_cons (x_call (ok_l_drawn z) hr px_of (z.glo 3) (x_cons (x_var 0) (x_cons (x_add (x_callB call_len sim_len (z.free 2) (x_cons (x_var 1) x_nil)) (x_int)) x_nil))) x_nil))) (s_seq (s_set sc_l_spoilt.nd (x_str)) (s_seq (s_set sc_l_spoilt.nd (x_ix (x_var 4) (x_call (ok_l_drawn z) hr px_of (z.glo 3) (x_cons (x_var 0) (x_cons (x_ix (x_lst (x_cons (x_int) (x_cons (x_callB call_len sim_len (z.free 2) (x_cons (x_var 4) x_nil)) x_nil))) (x_call (ok_l_drawn z) hr px_of (z.glo 3) (x_cons (x_var 0) (x_cons (x_int) x_nil)))) x_nil))))) (s_seq (s_if (x_tlt (x_var 2) (x_int)) (s_one (s_ret (x_add (x_add (x_slT (x_var 1) x_pnone (x_psome (x_var 3))) (x_ix (x_lst (x_cons (x_var 5) (x_cons (x_str) (x_cons (x_var 5) x_nil)))) (x_var 2))) (x_slT (x_var 1) (x_psome (x_add (x_var 3) (x_callTy (L2.CallR.or call_int1 call_int_str) sim_int (z.free 6) (x_cons (x_gt (x_var 2) (x_int)) x_nil)))) x_pnone)))) (s_nil)) (s_seq (s_set sc_l_spoilt.nd (x_bm PySem.F.plainAttrs_str PySem.F.slot_str_split PySem.F.type_str_split mt_split sim_split ty_str (x_var 1) (x_cons (x_str) x_nil))) (s_seq (s_set sc_l_spoilt.nd (x_call (ok_l_drawn z) hr px_of (z.glo 3) (x_cons (x_var 0) (x_cons (x_callB call_len sim_len (z.free 2) (x_cons (x_var 6) x_nil)) x_nil)))) (s_seq (s_if (x_tlt (x_var 2) (x_int)) (s_one (s_ret (x_bm PySem.F.plainAttrs_str PySem.F.slot_str_join PySem.F.type_str_join mt_join sim_join ty_str (x_str) (x_cons (x_ix (x_lst (x_cons (x_add (x_sl (x_var 6) x_pnone (x_psome (x_var 7))) (x_sl (x_var 6) (x_psome (x_add (x_var 7) (x_int))) x_pnone)) (x_cons (x_add (x_sl (x_var 6) x_pnone (x_psome (x_add (x_var 7) (x_int)))) (x_sl (x_var 6) (x_psome (x_var 7)) x_pnone)) (x_cons (x_add (x_sl (x_var 6) (x_psome (x_var 7)) x_pnone) (x_sl (x_var 6) x_pnone (x_psome (x_var 7)))) x_nil)))) (x_sub (x_var 2) (x_int))) x_nil)))) (s_nil)) (s_seq (s_set sc_l_spoilt.nd (x_bm PySem.F.plainAttrs_str PySem.F.slot_str_split PySem.F.type_str_split mt_split sim_split ty_str (x_ix (x_var 6) (x_var 7)) (x_cons (x_str) x_nil))) (s_seq (s_set sc_l_spoilt.nd (x_call (ok_l_drawn z) hr px_of (z.glo 3) (x_cons (x_var 0) (x_cons (x_callB call_len sim_len (z.free 2) (x_cons (x_var 8) x_nil)) x_nil)))) (s_seq (s_set sc_l_spoilt.nd (x_lst (x_cons (x_str) (x_cons (x_str) (x_cons (x_str) (x_cons (x_str) (x_cons (x_str) (x_cons (x_str) (x_cons (x_str) (x_cons (x_str) (x_cons (x_str) (x_cons (x_str) (x_cons (x_str) (x_cons (x_str) (x_cons (x_str) (x_cons (x_str) (x_cons (x_str) x_nil))))))))))))))))) (s_seq (s_set sc_l_spoilt.nd (x_add (x_add (x_sl (x_var 8) x_pnone (x_psome (x_var 9))) (x_ix (x_lst (x_cons (x_lst x_nil) (x_cons (x_mulL (x_lst (x_cons (x_ix (x_var 8) (x_var 9)) x_nil)) (x_int)) (x_cons (x_lst (x_cons (x_ix (x_var 10) (x_call (ok_l_drawn z) hr px_of (z.glo 3) (x_cons (x_var 0) (x_cons (x_int) x_nil)))) x_nil)) x_nil)))) (x_sub (x_var 2) (x_int)))) (x_sl (x_var 8) (x_psome (x_add (x_var 9) (x_int))) x_pnone))) (s_one (s_ret (x_bm PySem.F.plainAttrs_str PySem.F.slot_str_join PySem.F.type_str_join mt_join sim_join ty_str (x_str) (x_cons (x_add (x_add (x_sl (x_var 6) x_pnone (x_psome (x_var 7))) (x_lst (x_cons (x_bm PySem.F.plainAttrs_str PySem.F.slot_str_join PySem.F.type_str_join mt_join sim_join ty_str (x_str) (x_cons (x_var 8) x_nil)) x_nil))) (x_sl (x_var 6) (x_psome (x_add (x_var 7) (x_int))) x_pnone)) x_nil)))))))))))))))
theorem ok_l_same : ∀ n : Nat, Fx fa fn tb w K mg → FoP P w K mg base T (n + 1) ("_law_same", none) 2 (m_l_same n)
  | 0, z => by
    obtain ⟨fd, F⟩ := z.def_ 4 (d := d_l_same)
    exact FoP.imp (fo_def (k := 0 + 0) F sc_l_same (fun _ _ _ _ _ _ us hl => match us, hl with | [_, _], _ => rfl) (fb := fStuck) fun cdv A outer s H E hr => ss_never) (fun _ _ _ _ _ _ _ _ _ p => p)
  | n + 1, z => by
    obtain ⟨fd, F⟩ := z.def_ 4 (d := d_l_same)
    have ih := fun z => ok_l_same n z
    have e : n + 1 + 1 = (n + 1) + 1 := by omega
    rw [e]
    exact fo_def F sc_l_same (fun _ _ _ _ _ _ us hl => match us, hl with | [_, _], _ => rfl) fun cdv A outer s H E hr => (s_seq (s_if (x_test (x_isiT (z.free 10) (.cons (z.free 9) (.cons (z.free 8) .nil)) (x_var 1))) (s_seq (s_if (x_tw (x_wor (x_tnot (x_test (x_isiT (z.free 10) (.cons (z.free 9) (.cons (z.free 8) .nil)) (x_var 0)))) (x_wor1 (x_tne hr (x_isi .lst (z.free 10) (z.free 8) (x_var 0)) (x_isi .lst (z.free 10) (z.free 8) (x_var 1)))))) (s_one (s_ret (x_bl))) (s_nil)) (s_seq (s_if (x_tne hr (x_callB call_len sim_len (z.free 2) (x_cons (x_var 0) x_nil)) (x_callB call_len sim_len (z.free 2) (x_cons (x_var 1) x_nil))) (s_one (s_ret (x_bl))) (s_nil)) (s_one (s_ret (x_eq hr (x_lc rfl sc_l_same.nd (i_range1 (z.free 1) (x_cons (x_callB call_len sim_len (z.free 2) (x_cons (x_var 1) x_nil)) x_nil)) (blkOk_by (own := [("_law_k", 3)]) (by kernel_rfl)) (fun _ _ _ _ _ => g_name sc_l_same.nd) (fun _ _ _ _ _ => x_ts1 (x_tnot (x_test (x_call (ih z) hr passL (z.glo 11) (x_cons (x_ix (x_var 0) (x_var 3)) (x_cons (x_ix (x_var 1) (x_var 3)) x_nil)) (hjk := Nat.le_refl _))))) (fun _ _ _ _ _ => (x_var 3))) (x_lst x_nil)))))) (s_nil)) (s_seq (s_set sc_l_same.nd ((x_and (x_eq hr (x_isi .bl (z.free 10) (z.free 12) (x_var 0)) (x_isi .bl (z.free 10) (z.free 12) (x_var 1))) (x_one (x_eq hr (x_isi .int (z.free 10) (z.free 6) (x_var 0)) (x_isi .int (z.free 10) (z.free 6) (x_var 1))))))) (s_one (s_ret ((x_and (x_var 2) (x_one (x_eq hr (x_var 0) (x_var 1)))))))))
theorem ok_l_number (z : Fx fa fn tb w K mg) : FoP P w K mg base (T) 1 ("_law_number", none) 1 m_l_number := by
  obtain ⟨fd, F⟩ := z.def_ 5 (d := d_l_number)
  exact fo_def F sc_l_number (fun _ _ _ _ _ _ us hl => match us, hl with | [_], _ => rfl) fun cdv A outer s H E hr => (s_seq (s_if (x_tw (x_wor (x_tnot (x_tchain op_le op_le sim_le sim_le (x_int) (x_callB call_len sim_len (z.free 2) (x_cons (x_var 0) x_nil)) (x_int))) (x_wor1 (x_tne hr (x_lc rfl sc_l_number.nd (i_any (x_var 0)) (blkOk_by (own := [("_law_sign", 1)]) (by kernel_rfl)) (fun _ _ _ _ _ => g_name sc_l_number.nd) (fun _ _ _ _ _ => x_ts1 (x_tnotIn hr (x_var 1) (x_str))) (fun _ _ _ _ _ => (x_var 1))) (x_lst x_nil))))) (s_one (s_ret (x_sub (x_int) (x_int)))) (s_nil)) (s_one (s_ret (x_if (x_tw (x_wand (x_teq hr (x_ix (x_var 0) (x_int)) (x_str)) (x_wand1 (x_tne hr (x_var 0) (x_str))))) (x_sub (x_int) (x_int)) (x_callTy (L2.CallR.or call_int1 call_int_str) sim_int (z.free 6) (x_cons (x_var 0) x_nil))))))
theorem ok_l_due (z : Fx fa fn tb w K mg) : FoP P w K mg base (T) 2 ("_law_due", none) 1 m_l_due := by
  obtain ⟨fd, F⟩ := z.def_ 6 (d := d_l_due)
  exact fo_def F sc_l_due (fun _ _ _ _ _ _ us hl => match us, hl with | [_], _ => rfl) fun cdv A outer s H E hr => (s_seq (s_set sc_l_due.nd (x_lstC x_nil)) (s_seq (s_set sc_l_due.nd (x_if (x_tne hr (x_var 0) (x_str)) (x_bm PySem.F.plainAttrs_str PySem.F.slot_str_split PySem.F.type_str_split mt_split sim_split ty_str (x_var 0) (x_cons (x_str) x_nil)) (x_lst x_nil))) (s_seq (s_for po_of rfl (i_range1 (z.free 1) (x_cons (x_callB call_len sim_len (z.free 2) (x_cons (x_var 2) x_nil)) x_nil)) (g_name sc_l_due.nd) (s_seq (s_set sc_l_due.nd (x_bm PySem.F.plainAttrs_str PySem.F.slot_str_split PySem.F.type_str_split mt_split sim_split ty_str (x_ix (x_var 2) (x_var 3)) (x_cons (x_str) x_nil))) (s_seq (s_setLc rfl sc_l_due.nd (i_any (x_sl (x_var 4) (x_psome (x_int)) x_pnone)) (blkOk_by (own := [("_law_word", 7)]) (by kernel_rfl)) (fun _ _ _ _ _ => g_name sc_l_due.nd) (fun _ _ _ _ _ => x_ts0) (fun _ _ _ _ _ => (x_call (ok_l_number z) hr passL (z.glo 13) (x_cons (x_var 7) x_nil)))) (s_seq (s_set sc_l_due.nd ((x_and (x_lt (x_var 3) (x_int)) (x_one (x_eq hr (x_dget2 hr (x_disp (x_pc (x_str) (x_int) (x_pc (x_str) (x_int) (x_pc (x_str) (x_int) (x_pc (x_str) (x_int) x_pn))))) (x_ix (x_var 4) (x_int)) (x_int)) (x_callB call_len sim_len (z.free 2) (x_cons (x_var 4) x_nil))))))) (s_seq (s_if (x_tw (x_wor (x_tnot (x_test (x_var 6))) (x_wor (x_tin hr (x_sub (x_int) (x_int)) (x_var 5)) (x_wor1 (x_tw (x_wand (x_tne hr (x_sl (x_var 5) x_pnone (x_psome (x_int))) (x_lst x_nil)) (x_wand1 (x_tgt (x_ix (x_var 5) (x_int)) (x_int))))))))) (s_one (s_ret (x_tup (x_cons (x_str) (x_cons (x_var 3) x_nil))))) (s_nil)) (s_one (s_drop (x_append (x_var 1) (x_callTy call_tuple_of sim_tupOf (z.free 9) (x_cons (x_add (x_sl (x_var 4) x_pnone (x_psome (x_int))) (x_var 5)) x_nil)))))))))) (s_one (s_ret (x_fz (x_var 1)))))))
theorem ok_number_of (z : Fx fa fn tb w K mg) : FoP P w K mg base (T) 1 ("number_of", none) 1 m_number_of := by
  obtain ⟨fd, F⟩ := z.def_ 7 (d := d_number_of)
  exact fo_def F sc_number_of (fun _ _ _ _ _ _ us hl => match us, hl with | [_], _ => rfl) fun cdv A outer s H E hr => (s_seq (s_if (x_tw (x_wor (x_tnot (x_tchain op_le op_le sim_le sim_le (x_int) (x_callB call_len sim_len (z.free 2) (x_cons (x_var 0) x_nil)) (x_gint (z.int 18)))) (x_wor1 (x_tnot (x_test (x_callB (cr_all rfl) sim_all (z.free 17) (x_cons (x_lc rfl sc_number_of.nd (i_any (x_var 0)) (blkOk_by (own := [("sign", 1)]) (by kernel_rfl)) (fun _ _ _ _ _ => g_name sc_number_of.nd) (fun _ _ _ _ _ => x_ts0) (fun _ _ _ _ _ => (x_in hr (x_var 1) (x_gstr (z.str 16))))) x_nil))))))) (s_one (s_ret (x_neg (x_int)))) (s_nil)) (s_one (s_ret (x_if (x_tw (x_wor (x_teq hr (x_var 0) (x_str)) (x_wor1 (x_tne hr (x_ix (x_var 0) (x_int)) (x_str))))) (x_callTy (L2.CallR.or call_int1 call_int_str) sim_int (z.free 6) (x_cons (x_var 0) x_nil)) (x_neg (x_int))))))
theorem ok_is_number (z : Fx fa fn tb w K mg) : FoP P w K mg base (T) 1 ("is_number", none) 3 m_is_number := by
  obtain ⟨fd, F⟩ := z.def_ 8 (d := d_is_number)
  exact fo_def F sc_is_number (fun _ _ _ _ _ _ us hl => match us, hl with | [_, _, _], _ => rfl) fun cdv A outer s H E hr => (s_one (s_ret ((x_and (x_isi .int (z.free 10) (z.free 6) (x_var 0)) (x_and (x_not (x_isi .bl (z.free 10) (z.free 12) (x_var 0))) (x_one (x_chain op_le op_le sim_le sim_le (x_var 1) (x_var 0) (x_var 2))))))))
theorem ok_is_worth (z : Fx fa fn tb w K mg) : FoP P w K mg base (T) 2 ("is_worth", none) 1 m_is_worth := by
  obtain ⟨fd, F⟩ := z.def_ 9 (d := d_is_worth)
  exact fo_def F sc_is_worth (fun _ _ _ _ _ _ us hl => match us, hl with | [_], _ => rfl) fun cdv A outer s H E hr => (s_one (s_ret (x_call (ok_is_number z) hr px_of (z.glo 22) (x_cons (x_var 0) (x_cons (x_int) (x_cons (x_gint (z.int 21)) x_nil))))))
theorem ok_is_deed (z : Fx fa fn tb w K mg) : FoP P w K mg base (T) 3 ("is_deed", none) 2 m_is_deed := by
  obtain ⟨fd, F⟩ := z.def_ 10 (d := d_is_deed)
  exact fo_def F sc_is_deed (fun _ _ _ _ _ _ us hl => match us, hl with | [_, _], _ => rfl) fun cdv A outer s H E hr => (s_seq (s_if (x_tw (x_wor (x_tnot (x_test (x_isi .tup (z.free 10) (z.free 9) (x_var 0)))) (x_wor (x_teq hr (x_var 0) (x_tup x_nil)) (x_wor1 (x_tnot (x_test (x_isi .str (z.free 10) (z.free 4) (x_ix (x_var 0) (x_int))))))))) (s_one (s_ret (x_bl))) (s_nil)) (s_seq (s_asg (x_var 0) (g_star rfl (g_name sc_is_deed.nd) (g_name sc_is_deed.nd)) (GPure.ok (gp_star (gp_name _) (gp_name _)))) (s_seq (s_if (x_tne hr (x_getI (z.tab 0 (t := ("SIZES", [("put", 3), ("flush", 2), ("fence", 1), ("swear", 3)]))) (z.glo 20) (x_var 2)) (x_callB call_len sim_len (z.free 2) (x_cons (x_var 0) x_nil))) (s_one (s_ret (x_bl))) (s_nil)) (s_one (s_ret ((x_or (x_eq hr (x_var 3) (x_lst x_nil)) (x_one ((x_and (x_call (ok_is_number z) hr px_of (z.glo 22) (x_cons (x_ix (x_var 3) (x_int)) (x_cons (x_int) (x_cons (x_sub (x_var 1) (x_int)) x_nil)))) (x_one ((x_or (x_eq hr (x_callB call_len sim_len (z.free 2) (x_cons (x_var 3) x_nil)) (x_int)) (x_one (x_call (ok_is_worth z) hr px_of (z.glo 23) (x_cons (x_ix (x_var 3) (x_int)) x_nil))))))))))))))))
theorem numc_BadText {K : PySem.W.Frag} (hk : kindNB ["BadText"] K = true) : NumC K "BadText" "row" := by
  have h := (kindNB_ok hk (C := "BadText") (by decide)).2 (by decide)
  rw [show kFl "BadText" = "row" from by decide +kernel] at h
  exact h
theorem num_BadText (z : Fx fa fn tb w K mg) (hk : kindNB ["BadText"] K = true) : NumI P w K mg base 1 "BadText" "row" := by
  obtain ⟨fd, F⟩ := z.def_ 11 (d := d_BadText_num)
  exact num_init (m := "refused") (numc_BadText hk) F sc_BadText_num (F.bindsN (fun _ _ _ _ _ _ us hl => match us, hl with | [_, _], _ => rfl)) fun cdv A outer s H E hr => pss_cons (ps_expr (pe_keinit (numc_BadText hk) rfl (z.glo 27) (pa_cons (pe_var (i := 0) rfl (.inl rfl)) (pa_cons pe_str pa_nil)))) (pss_one (ps_ost (pe_var (i := 0) rfl (.inl rfl)) (pe_var (i := 1) rfl (.inl rfl))))
theorem ok_read (z : Fx fa fn tb w K mg) (hk : kindNB ["BadText"] K = true) (ap : apartB tfq K = true) (TBs : ∀ p ∈ tfq, LamX.TabB base mg (He.cT K p.1).1 (He.cT K p.1).2) : FoP P w K mg base (tabsT K tfq) 4 ("read", none) 1 m_read := by
  obtain ⟨fd, F⟩ := z.def_ 12 (d := d_read)
  exact fo_def F sc_read (fun _ _ _ _ _ _ us hl => match us, hl with | [_], _ => rfl) fun cdv A outer s H E hr => (s_seq (s_set sc_read.nd (x_lstC x_nil)) (s_seq (s_for po_of rfl (i_en (z.free 15) (x_cons (x_if (x_tne hr (x_var 0) (x_str)) (x_bm PySem.F.plainAttrs_str PySem.F.slot_str_split PySem.F.type_str_split mt_split sim_split ty_str (x_var 0) (x_cons (x_str) x_nil)) (x_lst x_nil)) x_nil)) (g_tup rfl (g_cons (g_name sc_read.nd) (g_cons (g_name sc_read.nd) g_nil))) (s_seq (s_asg (x_bm PySem.F.plainAttrs_str PySem.F.slot_str_split PySem.F.type_str_split mt_split sim_split ty_str (x_var 3) (x_cons (x_str) x_nil)) (g_star rfl (g_name sc_read.nd) (g_name sc_read.nd)) (GPure.ok (gp_star (gp_name _) (gp_name _)))) (s_seq (s_set sc_read.nd (x_callTy call_tuple_of sim_tupOf (z.free 9) (x_cons (x_add (x_lst (x_cons (x_var 4) x_nil)) (x_lc rfl sc_read.nd (i_any (x_var 5)) (blkOk_by (own := [("one", 7)]) (by kernel_rfl)) (fun _ _ _ _ _ => g_name sc_read.nd) (fun _ _ _ _ _ => x_ts0) (fun _ _ _ _ _ => (x_call (ok_number_of z) hr passL (z.glo 19) (x_cons (x_var 7) x_nil))))) x_nil))) (s_seq (s_if (x_tw (x_wor (x_teq hr (x_var 2) (x_gint (z.int 26))) (x_wor1 (x_tnot (x_test (x_call (ok_is_deed z) hr px_of (z.glo 25) (x_cons (x_var 6) (x_cons (x_gint (z.int 24)) x_nil)))))))) (s_one (s_raiseN (numc_BadText hk) (num_BadText z hk) hr rfl tk_of (z.glo 28) (x_cons (x_var 2) x_nil))) (s_nil)) (s_one (s_drop (x_append (x_var 1) (x_var 6)))))))) (s_one (s_ret (x_fz (x_var 1))))))
theorem knd_l_kind {X : Cx} {T : List (Addr × Str)} {w : World} (z : Fx fa fn tb w X.K X.mg) (hk : kindNB ["BadText"] X.K = true) (hr : Room 2 X.A) (ht : ∃ c P, LamX.TabB X.base X.mg c P ∧ X.env.code = .ref c ∧ (P, X.env.qual ++ "<lambda>") ∈ T ∧ ∀ p ∈ T, p.1 = P → p.2 = X.env.qual ++ "<lambda>") : KndG X T (TTn X.K T ["BadText"]) := by
  obtain ⟨fd, F⟩ := z.def_ 14 (d := d_l_kind)
  refine ⟨⟨_, _, _, fd, _, F, sc_l_kind, F.bindsN (fun _ _ _ _ _ _ us hl => match us, hl with | [_], _ => rfl), rfl, .inl rfl, fun cdg q f c' s H Q tl act hc h => ?_⟩, (z.glo 47), ht⟩
  refine ⟨_, pss_one (ps_try_as (X := (cxOf C8.CX0 X.prog X.w X.K X.mg X.base ["_law_work", "e", "_law_kinds", "_law_words", "_law_word"] "_law_kind" (defScope s_l_kind) (He.fAd X.K ("_law_kind", none)) cdg X.A X.stack s H C8.E0).nox) (i := 1) (c := .ref (He.ga X.K "KeepError"))
    (tb := fun W D σ H => ∃ Ech : XK, (∀ cls d σ' H', Ech cls d H' → W cls d σ' H') ∧ σ[0]? = some (some (.ref f)) ∧ H c' = some (LamX.CodeO c' q) ∧ tl Ech H D.rt) (ts := tKindN X.K T EN ["BadText"])
    rfl rfl sc_l_kind.nd rfl rfl ⟨rfl, by decide, .inl (z.glo 27)⟩ LamX.takes0 (fun W pn xe tk _ => ?_) (fun a oe cls d pn hz hf => ?_)), ?_⟩
  · refine ⟨fun pins s' σ H' D I h' => ?_⟩
    obtain ⟨Ech, hW, h1, h2, h3⟩ := h'
    exact (pss_one (ps_ret (act W pn xe Ech _ _ tk hW))).run pins s' σ H' D I ⟨h1, h2, h3⟩
  · refine pss_len (pss_or (psx fun C hC => ?_) (psx fun q hC => ?_))
    · obtain ⟨hC, hn, rfl, rfl⟩ := hC
      have kc := (kindNB_ok hk hC).1.plain hn
      have hu2 : X.A.units + 3 + 64 < cLine := by have := hr.un; omega
      have hu : X.A.units + 3 + 65 < cLine := by have := hr.un; omega
      have hu1 : X.A.units + 3 + 64 < cLine := hu2
      show PSs _ _ (tSuite X.K T EN a C)
      unfold tSuite
      exact (pss_cons (ps_set sc_l_kind.nd rfl (.inl rfl) (pe_lst (pa_cons (pe_isE hz hf kc (by decide) (z.free 10) (z.glo 33)) (pa_cons (pe_isE hz hf kc (by decide) (z.free 10) (z.glo 32)) (pa_cons (pe_isE hz hf kc (by decide) (z.free 10) (z.glo 31)) (pa_cons (pe_isE hz hf kc (by decide) (z.free 10) (z.glo 30)) pa_nil))))))
      (pss_cons (ps_set sc_l_kind.nd rfl (.inl rfl) (pe_op op_cat (pe_var (i := 2) rfl (.inl rfl)) (pe_lst (pa_cons (pe_isE hz hf kc (by decide) (z.free 10) (z.glo 36)) (pa_cons (pe_isE hz hf kc (by decide) (z.free 10) (z.glo 35)) (pa_cons (pe_isE hz hf kc (by decide) (z.free 10) (z.glo 34)) pa_nil))))))
      (pss_cons (ps_set sc_l_kind.nd rfl (.inl rfl) (pe_op op_cat (pe_var (i := 2) rfl (.inl rfl)) (pe_lst (pa_cons (pe_isE hz hf kc (by decide) (z.free 10) (z.glo 40)) (pa_cons (pe_isE hz hf kc (by decide) (z.free 10) (z.glo 39)) (pa_cons (pe_isE hz hf kc (by decide) (z.free 10) (z.glo 38)) (pa_cons (pe_isE hz hf kc (by decide) (z.free 10) (z.glo 37)) pa_nil)))))))
      (pss_cons (ps_set sc_l_kind.nd rfl (.inl rfl) (pe_op op_cat (pe_var (i := 2) rfl (.inl rfl)) (pe_lst (pa_cons (pe_isE hz hf kc (by decide) (z.free 10) (z.glo 44)) (pa_cons (pe_isE hz hf kc (by decide) (z.free 10) (z.glo 43)) (pa_cons (pe_isE hz hf kc (by decide) (z.free 10) (z.glo 42)) (pa_cons (pe_isE hz hf kc (by decide) (z.free 10) (z.glo 41)) pa_nil)))))))
      (pss_cons (ps_set sc_l_kind.nd rfl (.inl rfl) (pe_op op_cat (pe_var (i := 2) rfl (.inl rfl)) (pe_lst (pa_cons (pe_isE hz hf kc (by decide) (z.free 10) (z.glo 45)) (pa_cons (pe_isE hz hf kc (by decide) (z.free 10) (z.glo 28)) pa_nil)))))
      (pss_cons (ps_set sc_l_kind.nd rfl (.inl rfl) (pe_lst (pa_cons pe_str (pa_cons pe_str (pa_cons pe_str (pa_cons pe_str (pa_cons pe_str (pa_cons pe_str (pa_cons pe_str (pa_cons pe_str (pa_cons pe_str pa_nil)))))))))))
      (pss_cons (ps_set sc_l_kind.nd rfl (.inl rfl) (pe_op op_cat (pe_var (i := 3) rfl (.inl rfl)) (pe_lst (pa_cons pe_str (pa_cons pe_str (pa_cons pe_str (pa_cons pe_str (pa_cons pe_str (pa_cons pe_str (pa_cons pe_str (pa_cons pe_str pa_nil)))))))))))
      (pss_cons (ps_if (PW.pt (pw_or (x_tneU (T := T) (E := EN) hu1 (x_cnt (x_var 2) x_bl) x_int) (pw_or1 (pt_not (pt_val (pe_isV hz hf kc (z.free 10) (z.free 46))))))) (pss_one (ps_ret pe_str)) pss_nil)
      (s_seq (s_set sc_l_kind.nd (x_ix (x_var 3) (x_idx (x_var 2) x_bl))) (s_seq (s_if (x_tinU hu (x_var 4) (x_tup (x_cons x_str (x_cons x_str (x_cons x_str x_nil))))) ss_never s_nil) (s_one (s_ret (x_if (x_teqU hu2 (x_var 4) x_str) x_neverE (x_var 4))))))))))))))
    · obtain ⟨C, dd⟩ := q
      obtain ⟨hC, hn, rfl, rfl⟩ := hC
      have kc := (kindNB_ok hk hC).1
      have nc := (kindNB_ok hk hC).2 (kNm_num C hn)
      have hu2 : X.A.units + 3 + 64 < cLine := by have := hr.un; omega
      have hu : X.A.units + 3 + 65 < cLine := by have := hr.un; omega
      have hu1 : X.A.units + 3 + 64 < cLine := hu2
      show PSs _ _ (if C = "BadText" then tSuiteT X.K T EN a dd else tSuiteN X.K T EN a dd C)
      by_cases e : C = "BadText"
      · subst e
        rw [if_pos rfl]
        rw [show kFl "BadText" = "row" from by decide +kernel] at nc
        unfold tSuiteT
        exact (pss_cons (ps_set sc_l_kind.nd rfl (.inl rfl) (pe_lst (pa_cons (pe_isN hz hf kc (by decide) (z.free 10) (z.glo 33)) (pa_cons (pe_isN hz hf kc (by decide) (z.free 10) (z.glo 32)) (pa_cons (pe_isN hz hf kc (by decide) (z.free 10) (z.glo 31)) (pa_cons (pe_isN hz hf kc (by decide) (z.free 10) (z.glo 30)) pa_nil))))))
      (pss_cons (ps_set sc_l_kind.nd rfl (.inl rfl) (pe_op op_cat (pe_var (i := 2) rfl (.inl rfl)) (pe_lst (pa_cons (pe_isN hz hf kc (by decide) (z.free 10) (z.glo 36)) (pa_cons (pe_isN hz hf kc (by decide) (z.free 10) (z.glo 35)) (pa_cons (pe_isN hz hf kc (by decide) (z.free 10) (z.glo 34)) pa_nil))))))
      (pss_cons (ps_set sc_l_kind.nd rfl (.inl rfl) (pe_op op_cat (pe_var (i := 2) rfl (.inl rfl)) (pe_lst (pa_cons (pe_isN hz hf kc (by decide) (z.free 10) (z.glo 40)) (pa_cons (pe_isN hz hf kc (by decide) (z.free 10) (z.glo 39)) (pa_cons (pe_isN hz hf kc (by decide) (z.free 10) (z.glo 38)) (pa_cons (pe_isN hz hf kc (by decide) (z.free 10) (z.glo 37)) pa_nil)))))))
      (pss_cons (ps_set sc_l_kind.nd rfl (.inl rfl) (pe_op op_cat (pe_var (i := 2) rfl (.inl rfl)) (pe_lst (pa_cons (pe_isN hz hf kc (by decide) (z.free 10) (z.glo 44)) (pa_cons (pe_isN hz hf kc (by decide) (z.free 10) (z.glo 43)) (pa_cons (pe_isN hz hf kc (by decide) (z.free 10) (z.glo 42)) (pa_cons (pe_isN hz hf kc (by decide) (z.free 10) (z.glo 41)) pa_nil)))))))
      (pss_cons (ps_set sc_l_kind.nd rfl (.inl rfl) (pe_op op_cat (pe_var (i := 2) rfl (.inl rfl)) (pe_lst (pa_cons (pe_isN hz hf kc (by decide) (z.free 10) (z.glo 45)) (pa_cons (pe_isN hz hf kc (by decide) (z.free 10) (z.glo 28)) pa_nil)))))
      (pss_cons (ps_set sc_l_kind.nd rfl (.inl rfl) (pe_lst (pa_cons pe_str (pa_cons pe_str (pa_cons pe_str (pa_cons pe_str (pa_cons pe_str (pa_cons pe_str (pa_cons pe_str (pa_cons pe_str (pa_cons pe_str pa_nil)))))))))))
      (pss_cons (ps_set sc_l_kind.nd rfl (.inl rfl) (pe_op op_cat (pe_var (i := 3) rfl (.inl rfl)) (pe_lst (pa_cons pe_str (pa_cons pe_str (pa_cons pe_str (pa_cons pe_str (pa_cons pe_str (pa_cons pe_str (pa_cons pe_str (pa_cons pe_str pa_nil)))))))))))
      (pss_cons (ps_if (PW.pt (pw_or (x_tneU (T := T) (E := EN) hu1 (x_cnt (x_var 2) x_bl) x_int) (pw_or1 (pt_not (pt_val (pe_isNV hz hf kc (z.free 10) (z.free 46))))))) (pss_one (ps_ret pe_str)) pss_nil)
      (pss_cons (ps_set sc_l_kind.nd rfl (.inl rfl) (x_ix (T := T) (E := EN) (x_var 3) (x_idx (x_var 2) x_bl)))
      (pss_cons (ps_if (x_tinU (T := T) (E := EN) hu (x_var 4) (x_tup (x_cons x_str (x_cons x_str (x_cons x_str x_nil))))) pss_none9 pss_nil)
      (pss_one (ps_ret (pe_ifExp (x_teqU (T := T) (E := EN) hu2 (x_var 4) x_str) (pe_tup (pa_cons (pe_var (i := 4) rfl (.inl rfl)) (pa_cons (pe_xf kc.xf nc.nof hz hf (pe_var (i := 1) rfl (.inl rfl))) pa_nil))) (pe_var (i := 4) rfl (.inl rfl)))))))))))))))
      · rw [if_neg e]
        rw [(kNf_nm hn e).2] at nc
        unfold tSuiteN
        exact (pss_cons (ps_set sc_l_kind.nd rfl (.inl rfl) (pe_lst (pa_cons (pe_isN hz hf kc (by decide) (z.free 10) (z.glo 33)) (pa_cons (pe_isN hz hf kc (by decide) (z.free 10) (z.glo 32)) (pa_cons (pe_isN hz hf kc (by decide) (z.free 10) (z.glo 31)) (pa_cons (pe_isN hz hf kc (by decide) (z.free 10) (z.glo 30)) pa_nil))))))
      (pss_cons (ps_set sc_l_kind.nd rfl (.inl rfl) (pe_op op_cat (pe_var (i := 2) rfl (.inl rfl)) (pe_lst (pa_cons (pe_isN hz hf kc (by decide) (z.free 10) (z.glo 36)) (pa_cons (pe_isN hz hf kc (by decide) (z.free 10) (z.glo 35)) (pa_cons (pe_isN hz hf kc (by decide) (z.free 10) (z.glo 34)) pa_nil))))))
      (pss_cons (ps_set sc_l_kind.nd rfl (.inl rfl) (pe_op op_cat (pe_var (i := 2) rfl (.inl rfl)) (pe_lst (pa_cons (pe_isN hz hf kc (by decide) (z.free 10) (z.glo 40)) (pa_cons (pe_isN hz hf kc (by decide) (z.free 10) (z.glo 39)) (pa_cons (pe_isN hz hf kc (by decide) (z.free 10) (z.glo 38)) (pa_cons (pe_isN hz hf kc (by decide) (z.free 10) (z.glo 37)) pa_nil)))))))
      (pss_cons (ps_set sc_l_kind.nd rfl (.inl rfl) (pe_op op_cat (pe_var (i := 2) rfl (.inl rfl)) (pe_lst (pa_cons (pe_isN hz hf kc (by decide) (z.free 10) (z.glo 44)) (pa_cons (pe_isN hz hf kc (by decide) (z.free 10) (z.glo 43)) (pa_cons (pe_isN hz hf kc (by decide) (z.free 10) (z.glo 42)) (pa_cons (pe_isN hz hf kc (by decide) (z.free 10) (z.glo 41)) pa_nil)))))))
      (pss_cons (ps_set sc_l_kind.nd rfl (.inl rfl) (pe_op op_cat (pe_var (i := 2) rfl (.inl rfl)) (pe_lst (pa_cons (pe_isN hz hf kc (by decide) (z.free 10) (z.glo 45)) (pa_cons (pe_isN hz hf kc (by decide) (z.free 10) (z.glo 28)) pa_nil)))))
      (pss_cons (ps_set sc_l_kind.nd rfl (.inl rfl) (pe_lst (pa_cons pe_str (pa_cons pe_str (pa_cons pe_str (pa_cons pe_str (pa_cons pe_str (pa_cons pe_str (pa_cons pe_str (pa_cons pe_str (pa_cons pe_str pa_nil)))))))))))
      (pss_cons (ps_set sc_l_kind.nd rfl (.inl rfl) (pe_op op_cat (pe_var (i := 3) rfl (.inl rfl)) (pe_lst (pa_cons pe_str (pa_cons pe_str (pa_cons pe_str (pa_cons pe_str (pa_cons pe_str (pa_cons pe_str (pa_cons pe_str (pa_cons pe_str pa_nil)))))))))))
      (pss_cons (ps_if (PW.pt (pw_or (x_tneU (T := T) (E := EN) hu1 (x_cnt (x_var 2) x_bl) x_int) (pw_or1 (pt_not (pt_val (pe_isNV hz hf kc (z.free 10) (z.free 46))))))) (pss_one (ps_ret pe_str)) pss_nil)
      (pss_cons (ps_set sc_l_kind.nd rfl (.inl rfl) (x_ix (T := T) (E := EN) (x_var 3) (x_idx (x_var 2) x_bl)))
      (pss_cons (ps_if (x_tinU (T := T) (E := EN) hu (x_var 4) (x_tup (x_cons x_str (x_cons x_str (x_cons x_str x_nil))))) (pss_one (ps_ret (pe_tup (pa_cons (pe_var (i := 4) rfl (.inl rfl)) (pa_cons (pe_xf kc.xf nc.nof hz hf (pe_var (i := 1) rfl (.inl rfl))) pa_nil))))) pss_nil)
      pss_none9))))))))))
  · exact ⟨_, fun cls d σ' H' w => kind_wishN (fun C hC => (kindNB_ok hk hC).1) cls d σ' H' w, rfl, hc, h⟩
theorem ok_law (z : Fx fa fn tb w K mg) (hk : kindNB ["BadText"] K = true) (ap : apartB tfq K = true) (TBs : ∀ p ∈ tfq, LamX.TabB base mg (He.cT K p.1).1 (He.cT K p.1).2) {fd : FuncData} (F : FunD K "law" "law" (defArgs s_law) (defBody s_law) (defScope s_law) [] [] (He.fAd K ("law", none)) fd) : FnOk P w K mg base (L2.CX P w) 8 (He.fAd K ("law", none)) fd ["_law_script"] (spOf K (tabsT K tfq) 1 m_law) :=
  fn_defC F sc_law fun cdv A outer s H E hc hr => by
    have mm : ((("law", none), "law") : TabQ) ∈ tfq := List.Mem.head _
    have kk := knd_l_kind (X := cxOf (L2.CX P w) P w K mg base ["_law_script", "_law_state", "_law_odd", "_law_turn", "_law_text", "_law_change"] "law" (defScope s_law) (He.fAd K ("law", none)) cdv A outer s H E) (T := tabsT K tfq) (w := w) z hk (hr.mono (by decide)) ⟨_, _, TBs _ mm, hc, tabsT_mem mm, fun p hp e => tabsT_one ap mm p hp e⟩
    exact (s_seq (s_set sc_law.nd (x_call (ok_l_start z) hr px_of (z.glo 0) (x_cons (x_var 0) x_nil))) (s_seq (s_set sc_law.nd (x_lst (x_cons (x_str) (x_cons (x_str) (x_cons (x_str) (x_cons (x_str) (x_cons (x_str) (x_cons (x_str) (x_cons (x_str) (x_cons (x_str) (x_cons (x_str) x_nil))))))))))) (s_seq (s_set sc_law.nd (x_add (x_var 2) (x_lst (x_cons (x_str) (x_cons (x_str) (x_cons (x_str) (x_cons (x_str) (x_cons (x_str) (x_cons (x_str) (x_cons (x_str) (x_cons (x_str) x_nil))))))))))) (s_seq (s_for po_of rfl (i_range1 (z.free 1) (x_cons (x_int) x_nil)) (g_name sc_law.nd) (s_seq (s_set sc_law.nd (x_call (ok_l_row z) hr px_of (z.glo 5) (x_cons (x_var 1) (x_cons (x_int) x_nil)))) (s_seq (s_if (x_teq hr (x_call (ok_l_drawn z) hr px_of (z.glo 3) (x_cons (x_var 1) (x_cons (x_int) x_nil))) (x_int)) (s_one (s_set sc_law.nd (x_ix (x_var 2) (x_call (ok_l_drawn z) hr px_of (z.glo 3) (x_cons (x_var 1) (x_cons (x_int) x_nil)))))) (s_nil)) (s_seq (s_if (x_teq hr (x_call (ok_l_drawn z) hr px_of (z.glo 3) (x_cons (x_var 1) (x_cons (x_int) x_nil))) (x_int)) (s_one (s_set sc_law.nd (x_bm PySem.F.plainAttrs_str PySem.F.slot_str_join PySem.F.type_str_join mt_join sim_join ty_str (x_str) (x_cons (x_mulL (x_lst (x_cons (x_str) x_nil)) (x_add (x_int) (x_call (ok_l_drawn z) hr px_of (z.glo 3) (x_cons (x_var 1) (x_cons (x_int) x_nil))))) x_nil)))) (s_nil)) (s_seq (s_for po_of rfl (i_range1 (z.free 1) (x_cons (x_call (ok_l_drawn z) hr px_of (z.glo 3) (x_cons (x_var 1) (x_cons (x_int) x_nil))) x_nil)) (g_name sc_law.nd) (s_one (s_set sc_law.nd (x_call (ok_l_spoilt z) hr px_of (z.glo 7) (x_cons (x_var 1) (x_cons (x_var 4) x_nil)))))) (s_one (s_if (x_tnot (x_test (x_call (ok_l_same 6 z) hr px_of (z.glo 11) (x_cons (x_kindN (k := 4) kk hr (LamX.lamS_by (by kernel_rfl)) (fun A outer s H E f c' hr px => (x_call (ok_read z hk ap TBs) hr px (z.glo 29) (x_cons (x_var 4) x_nil)))) (x_cons (x_call (ok_l_due z) hr px_of (z.glo 14) (x_cons (x_var 4) x_nil)) x_nil))))) (s_one (s_ret (x_bl))) (s_nil)))))))) (s_one (s_ret (x_bl)))))))
end
end Fq
namespace Fq
open PySem PySem.Spec PyProof.Rows L2 Fk
theorem facts {P : Program} {w : World} {K : PySem.W.Frag} {h : Heap} {mg : Str → Option Value} {f : Addr} (X : K.In h) (G : h.Ns mainGlobals mg) (hfa : mg ("law" : Str) = some (.ref f)) (c : SaysF fa fn tb w K) (hk : (kindNB ["BadText"] K && apartB tfq K) = true) :
    ∃ fd : FuncData, (∀ (s : Shared) (v : Value), BindsTo s fd ⟨[v], []⟩ [("_law_script", v)]) ∧ ∀ base : Heap, K.In base → base.Ns mainGlobals mg → (∀ p ∈ tfq, LamX.TabB base mg (He.cT K p.1).1 (He.cT K p.1).2) → FnOk P w K mg base (L2.CX P w) 8 f fd ["_law_script"] (spOf K (tabsT K tfq) 1 m_law) := by
  have z : Fx fa fn tb w K mg := ⟨h, X, G, c⟩
  obtain ⟨fd, F⟩ := z.def_ 13 (d := d_law)
  have e := hfa.symm.trans (z.glo (x := "law") 48)
  cases e
  have b := FunD.bindsA (ps := ["_law_script"]) F fun _ _ _ _ _ _ us hl => match us, hl with | [_], _ => rfl
  exact ⟨fd, fun s v => b s [v] rfl, fun base _ _ TB => ok_law z (Bool.and_eq_true .. ▸ hk).1 (Bool.and_eq_true .. ▸ hk).2 TB F⟩
end Fq
open PySem PySem.W PySem.Calls PyProof.Rows
theorem PySem.Challenge.cw_fencekeep_k24_texts_refused_holds : PySem.Challenge.rw_fencekeep_k24_texts_refused.Holds := by
  w_on; o_law
  refine HandSHeadRun.head_any (r := OpenLaw.row PySem.Challenge.rw_fencekeep_k24_texts_refused) (q := view (OpenLaw.row PySem.Challenge.rw_fencekeep_k24_texts_refused).prog [45]) (H := Fq.hk) (ob := Fq.ob) (M := 8000) (loose := Fq.nms) (d := HandSHeadRun.topDef (OpenLaw.row PySem.Challenge.rw_fencekeep_k24_texts_refused).prog 45) (kwd := []) Fq.ob_eq
    (by kernel_rfl) (fun s => by kernel_rfl) Fq.run (by kernel_rfl) (by kernel_rfl) (by kernel_rfl) (by rfl) (by first | assumption | decide +kernel) (by decide +kernel) ⟨rfl, rfl, rfl, rfl, rfl, by decide +kernel⟩ ?hw ?hc
  case hw => w_witness2
  case hc =>
    refine LamX.walk_ofTsE (l := PySem.Challenge.rw_fencekeep_k24_texts_refused) (n := 63) (k := 8) (x := "_law_script") (CX := fun w => L2.CX PySem.Challenge.rw_fencekeep_k24_texts_refused.prog w) rfl (by decide) (by kernel_rfl) ⟨rfl, by decide, by decide⟩ ?F Fk.cx_none
    intro w mg fa h Y G hmg0
    obtain ⟨K, KX, c⟩ := Y
    have hmg : mg ("law" : PySem.Str) = some (.ref fa) := by
      have e : (HandSHeadRun.topDef (OpenLaw.row PySem.Challenge.rw_fencekeep_k24_texts_refused).prog 45).name = ("law" : PySem.Str) := by kernel_rfl
      rw [← e]
      exact hmg0
    obtain ⟨fd, hb, hF⟩ := Fq.facts (P := (PySem.Challenge.rw_fencekeep_k24_texts_refused).prog) (w := w) KX G hmg c.f c.more
    refine ⟨K, KX, fd, Fq.tfq.map fun p => He.cT K p.1, Fk.spOf K (Fk.tabsT K Fq.tfq) 1 Fk.m_law, (fun p h => by obtain ⟨q, hq, rfl⟩ := List.mem_map.mp h; exact c.empty _ (List.mem_map.mpr ⟨q, hq, rfl⟩)), (fun p h => by obtain ⟨q, hq, rfl⟩ := List.mem_map.mp h; exact c.out _ (List.mem_map.mpr ⟨q, hq, rfl⟩)), (fun p h => by obtain ⟨q, hq, rfl⟩ := List.mem_map.mp h; exact PySem.W.codeHd_of_K KX (c.hd _ (List.mem_map.mpr ⟨q, hq, rfl⟩))), hb, fun H a ns hl hbits hT hS => ?_, fun base k1 k2 k3 => hF base k1 k2 fun p hp => k3 _ (List.mem_map.mpr ⟨p, hp, rfl⟩)⟩
    obtain ⟨st, e⟩ := Fk.law_k24 ns hl
    exact Fk.law_sp (Fk.tabsT_tabs hT) hS e _
