import PyProof.Rows.All
import Wide.All
import OpenK.AllK
import Wide.FinOn
import HandS.ForMost
import HandS.ForExc
import HandS.TupSets
import HandS.Strs
import HandS.Lambda
import HandS.Finally
import HandS.Deep
import HandS.Defaults
import HandS.MakeKwOnly
import HandS.TupAny
import HandS.TupMul
import HandS.HeadHook2
import HandS.IsInst
import KE.KUnpackStar
import HandS.Text
import HandS.Style
import HandS.RaiseMore
import HandS.HeadHook3
import HandS.WrittenGet
import HandS.HeadWalk
import HandS.Head0
import HandS.Head1
import HandS.Head2
import KE.IntTextLaws
import PySem.Challenge.RW_fencekeep_k23_rows_written_and_read
set_option Elab.async false
set_option linter.all false
set_option maxRecDepth 100000
set_option maxHeartbeats 4000000
/-! FkA: data, worlds, stores, and what it means that a reading follows a plain function. -/
namespace Fk
open PySem PySem.Spec PyProof.Rows L2
/-! ### data -/
inductive D where
  | non | bl (b : Bool) | int (i : Int) | str (s : Str) | tup (xs : List D) | lst (xs : List D) | lck (xs : List D) | ref (k : Nat)
inductive Cell where
  | lst (xs : List D) | dic (kvs : List (Key × D)) | dct (kvs : List (List Key × D)) | ins (c : Str) (fs : List (Str × D)) | dead
abbrev Store := List Cell
abbrev DEnv := List (Option D)
/-- an error: its class, its number -/
structure Exn where
  c : Str
  num : Option (Str × Int)
inductive Res (α : Type) where
  | ok (a : α) (st : Store) | ex (x : Exn) (st : Store) | stuck
inductive RS where
  | nx (env : DEnv) (st : Store) | rt (d : D) (st : Store) | bk (env : DEnv) (st : Store) | ct (env : DEnv) (st : Store) | ex (x : Exn) (env : DEnv) (st : Store) | stuck
def Res.bind {α β : Type} (r : Res α) (f : α → Store → Res β) : Res β := match r with
  | .ok a st => f a st
  | .ex x st => .ex x st
  | .stuck => .stuck
/-- a statement's end by an expression's -/
def Res.go {α : Type} (r : Res α) (env : DEnv) (f : α → Store → RS) : RS := match r with
  | .ok a st => f a st
  | .ex x st => .ex x env st
  | .stuck => .stuck
/-! ### worlds -/
structure Wd where
  F : Hp
  ads : List Addr
  S : Addr → Option (List V)
mutual
inductive Dat (w : Wd) : V → D → Prop
  | non : Dat w .non .non
  | bl (b : Bool) : Dat w (.bl b) (.bl b)
  | int (i : Int) : Dat w (.int i) (.int i)
  | str (s : Str) : Dat w (.str s) (.str s)
  | tup {p : Addr} {vs : List V} {ds : List D} : w.F p = some (.tup vs) → Dats w vs ds → Dat w (.ref p) (.tup ds)
  | lst {p : Addr} {vs : List V} {ds : List D} : w.F p = some (.lst vs) → Dats w vs ds → Dat w (.ref p) (.lst ds)
  | lck {p : Addr} {vs : List V} {ds : List D} : w.S p = some vs → Dats w vs ds → Dat w (.ref p) (.lck ds)
  | ref {p : Addr} {k : Nat} : w.ads[k]? = some p → Dat w (.ref p) (.ref k)
inductive Dats (w : Wd) : List V → List D → Prop
  | nil : Dats w [] []
  | cons {v : V} {d : D} {vs : List V} {ds : List D} : Dat w v d → Dats w vs ds → Dats w (v :: vs) (d :: ds)
end
structure Le (w w' : Wd) : Prop where
  fr : ∀ a o, w.F a = some o → w'.F a = some o
  ads : ∀ (k : Nat) (p : Addr), w.ads[k]? = some p → w'.ads[k]? = some p
  scr : w'.S = w.S
theorem Le.refl (w : Wd) : Le w w := ⟨fun _ _ h => h, fun _ _ h => h, rfl⟩
theorem Le.trans {a b c : Wd} (x : Le a b) (y : Le b c) : Le a c := ⟨fun p o h => y.fr p o (x.fr p o h), fun k p h => y.ads k p (x.ads k p h), y.scr.trans x.scr⟩
mutual
theorem Dat.mono {w w' : Wd} (l : Le w w') : ∀ {v : V} {d : D}, Dat w v d → Dat w' v d
  | _, _, .non => .non
  | _, _, .bl b => .bl b
  | _, _, .int i => .int i
  | _, _, .str s => .str s
  | _, _, .tup h r => .tup (l.fr _ _ h) (Dats.mono l r)
  | _, _, .lst h r => .lst (l.fr _ _ h) (Dats.mono l r)
  | _, _, .lck h r => .lck (by rw [l.scr]; exact h) (Dats.mono l r)
  | _, _, .ref h => .ref (l.ads _ _ h)
theorem Dats.mono {w w' : Wd} (l : Le w w') : ∀ {vs : List V} {ds : List D}, Dats w vs ds → Dats w' vs ds
  | _, _, .nil => .nil
  | _, _, .cons h r => .cons (Dat.mono l h) (Dats.mono l r)
end
section
variable {w : Wd}
theorem Dats.length : ∀ {vs : List V} {ds : List D}, Dats w vs ds → vs.length = ds.length
  | _, _, .nil => rfl
  | _, _, .cons _ r => congrArg Nat.succ (Dats.length r)
theorem Dats.get : ∀ {vs : List V} {ds : List D} {i : Nat} {d : D}, Dats w vs ds → ds[i]? = some d → ∃ v, vs[i]? = some v ∧ Dat w v d
  | _, _, i, d, .nil, e => by simp at e
  | _, _, 0, d, .cons (v := v) h r, e => by
    simp at e
    subst e
    exact ⟨v, rfl, h⟩
  | _, _, i + 1, d, .cons h r, e => by
    obtain ⟨v, h1, h2⟩ := Dats.get (i := i) r (by simpa using e)
    exact ⟨v, by simpa using h1, h2⟩
theorem Dats.getV : ∀ {vs : List V} {ds : List D} {i : Nat} {v : V}, Dats w vs ds → vs[i]? = some v → ∃ d, ds[i]? = some d ∧ Dat w v d
  | _, _, i, d, .nil, e => by simp at e
  | _, _, 0, v, .cons (d := d) h r, e => by
    simp at e
    subst e
    exact ⟨d, rfl, h⟩
  | _, _, i + 1, v, .cons h r, e => by
    obtain ⟨d, h1, h2⟩ := Dats.getV (i := i) r (by simpa using e)
    exact ⟨d, by simpa using h1, h2⟩
theorem Dats.append : ∀ {vs us : List V} {ds es : List D}, Dats w vs ds → Dats w us es → Dats w (vs ++ us) (ds ++ es)
  | _, _, _, _, .nil, s => s
  | _, _, _, _, .cons h r, s => .cons h (Dats.append r s)
theorem Dats.take : ∀ {vs : List V} {ds : List D} (n : Nat), Dats w vs ds → Dats w (vs.take n) (ds.take n)
  | _, _, 0, _ => .nil
  | _, _, _ + 1, .nil => .nil
  | _, _, n + 1, .cons h r => .cons h (Dats.take n r)
theorem Dats.drop : ∀ {vs : List V} {ds : List D} (n : Nat), Dats w vs ds → Dats w (vs.drop n) (ds.drop n)
  | _, _, 0, r => r
  | _, _, _ + 1, .nil => .nil
  | _, _, n + 1, .cons _ r => Dats.drop n r
theorem Dats.set {v : V} {d : D} (h : Dat w v d) : ∀ {vs : List V} {ds : List D} (i : Nat), Dats w vs ds → Dats w (vs.set i v) (ds.set i d)
  | _, _, _, .nil => .nil
  | _, _, 0, .cons _ r => .cons h r
  | _, _, i + 1, .cons x r => .cons x (Dats.set h i r)
theorem Dats.eraseIdx : ∀ {vs : List V} {ds : List D} (i : Nat), Dats w vs ds → Dats w (vs.eraseIdx i) (ds.eraseIdx i)
  | _, _, _, .nil => .nil
  | _, _, 0, .cons _ r => r
  | _, _, i + 1, .cons x r => .cons x (Dats.eraseIdx i r)
theorem Dats.one {v : V} {d : D} (h : Dat w v d) : Dats w [v] [d] := .cons h .nil
theorem Dats.reverse : ∀ {vs : List V} {ds : List D}, Dats w vs ds → Dats w vs.reverse ds.reverse
  | _, _, .nil => .nil
  | _, _, .cons h r => by
    rw [List.reverse_cons, List.reverse_cons]
    exact (Dats.reverse r).append (.one h)
theorem Dats.nil_of {ds : List D} (h : Dats w [] ds) : ds = [] := by cases h <;> rfl
theorem Dats.one_of {v : V} {ds : List D} (h : Dats w [v] ds) : ∃ d, ds = [d] ∧ Dat w v d := by
  cases h with
  | cons h r => cases r; exact ⟨_, rfl, h⟩
theorem Dats.ofOne {vs : List V} {d : D} (h : Dats w vs [d]) : ∃ v, vs = [v] ∧ Dat w v d := by
  cases h with
  | cons h r => cases r; exact ⟨_, rfl, h⟩
theorem Dats.ofTwo {vs : List V} {d e : D} (h : Dats w vs [d, e]) : ∃ v u, vs = [v, u] ∧ Dat w v d ∧ Dat w u e := by
  cases h with
  | cons h r =>
    obtain ⟨u, e2, q⟩ := r.ofOne
    subst e2
    exact ⟨_, _, rfl, h, q⟩
theorem Dats.ofThree {vs : List V} {d e f : D} (h : Dats w vs [d, e, f]) : ∃ v u t, vs = [v, u, t] ∧ Dat w v d ∧ Dat w u e ∧ Dat w t f := by
  cases h with
  | cons h r =>
    obtain ⟨u, t, e2, q1, q2⟩ := r.ofTwo
    subst e2
    exact ⟨_, _, _, rfl, h, q1, q2⟩
theorem Dats.ofNil {vs : List V} (h : Dats w vs []) : vs = [] := by cases h <;> rfl
/-- ints -/
theorem Dats.ints : ∀ {vs : List V} {ns : List Int}, Dats w vs (ns.map D.int) → vs = ns.map V.int
  | _, [], .nil => rfl
  | _, n :: ns, .cons h r => by
    cases h
    rw [Dats.ints r]
    rfl
theorem Dats.of_ints : ∀ (ns : List Int), Dats w (ns.map V.int) (ns.map D.int)
  | [] => .nil
  | n :: ns => .cons (.int n) (Dats.of_ints ns)
theorem Dats.of_strs : ∀ (ns : List Str), Dats w (ns.map V.str) (ns.map D.str)
  | [] => .nil
  | n :: ns => .cons (.str n) (Dats.of_strs ns)
theorem Dats.strs : ∀ {vs : List V} {ns : List Str}, Dats w vs (ns.map D.str) → vs = ns.map V.str
  | _, [], .nil => rfl
  | _, n :: ns, .cons h r => by
    cases h
    rw [Dats.strs r]
    rfl
theorem Dats.bls : ∀ {vs : List V} {ns : List Bool}, Dats w vs (ns.map D.bl) → vs = ns.map V.bl
  | _, [], .nil => rfl
  | _, n :: ns, .cons h r => by
    cases h
    rw [Dats.bls r]
    rfl
end
/-! ### what the store says of the heap -/
def CellOk (K : PySem.W.Frag) (w : Wd) (H : Hp) (p : Addr) : Cell → Prop
  | .lst ds => w.F p = none ∧ ∃ vs, H p = some (.lst vs) ∧ Dats w vs ds
  | .dic kvs => w.F p = none ∧ ∃ us, H p = some (.dK us) ∧ us.map (·.1) = kvs.map (·.1) ∧ Dats w (us.map (·.2)) (kvs.map (·.2))
  | .dct kvs => w.F p = none ∧ ∃ us, H p = some (.dT us) ∧ us.map (·.1) = kvs.map (·.1) ∧ Dats w (us.map (·.2)) (kvs.map (·.2))
  | .ins c fs => w.F p = none ∧ ∃ dx us, H p = some (.ins (He.ga K c) dx us) ∧ us.map (·.1) = fs.map (·.1) ∧ Dats w (us.map (·.2)) (fs.map (·.2))
  | .dead => H p ≠ none
/-- the script: known, or an object of the module -/
def ScrOk (K : PySem.W.Frag) (w : Wd) : Prop := ∀ p vs, w.S p = some vs → (∃ o, w.F p = some o ∧ ∀ H : Hp, H p = some o → SqL K H p vs) ∨ ∀ H, SqL K H p vs
theorem ScrOk.le {K : PySem.W.Frag} {w w' : Wd} (x : ScrOk K w) (l : Le w w') : ScrOk K w' := fun p vs h => by
  rw [l.scr] at h
  rcases x p vs h with ⟨o, z, y⟩ | z
  · exact .inl ⟨o, l.fr _ _ z, y⟩
  · exact .inr z
structure Rel (K : PySem.W.Frag) (T : List (Addr × Str)) (w : Wd) (H : Hp) (st : Store) : Prop where
  fr : ∀ a o, w.F a = some o → H a = some o
  len : w.ads.length = st.length
  nd : w.ads.Nodup
  at_ : ∀ (k : Nat) (c : Cell) (p : Addr), st[k]? = some c → w.ads[k]? = some p → CellOk K w H p c
  tabs : LamX.Tabs T H
  scr : ScrOk K w
/-- a step: what was known stays, the cells may change, new things are new -/
structure Stp (w : Wd) (H : Hp) (w' : Wd) (H' : Hp) : Prop where
  le : Le w w'
  new : ∀ p, p ∈ w'.ads → p ∉ w.ads → H p = none
  keep : ∀ a o, H a = some o → a ∉ w.ads → (∀ ps, o ≠ .tbl ps) → H' a = some o
  free : ∀ a, H' a = none → H a = none
  newF : ∀ a, w'.F a ≠ none → w.F a = none → H a = none ∨ a ∈ w.ads
theorem Stp.refl (w : Wd) (H : Hp) : Stp w H w H := ⟨Le.refl w, fun p h n => absurd h n, fun _ _ h _ _ => h, fun _ h => h, fun _ h n => absurd n h⟩
theorem Stp.trans {w w1 w2 : Wd} {H H1 H2 : Hp} (a : Stp w H w1 H1) (b : Stp w1 H1 w2 H2) : Stp w H w2 H2 where
  le := a.le.trans b.le
  new := fun p h n => by
    by_cases q : p ∈ w1.ads
    · exact a.new p q n
    · exact a.free p (b.new p h q)
  keep := fun p o h n t => by
    have h1 := a.keep p o h n t
    refine b.keep p o h1 (fun q => ?_) t
    rw [a.new p q n] at h
    cases h
  free := fun p h => a.free p (b.free p h)
  newF := fun p h n => by
    by_cases q : w1.F p = none
    · rcases b.newF p h q with z | z
      · exact .inl (a.free p z)
      · by_cases y : p ∈ w.ads
        · exact .inr y
        · exact .inl (a.new p z y)
    · exact a.newF p q n
def EnvR (w : Wd) (σ : L2.St) (env : DEnv) : Prop := σ.length = env.length ∧ ∀ (i : Nat) (d : D), env[i]? = some (some d) → ∃ v, σ[i]? = some (some v) ∧ Dat w v d
theorem EnvR.mono {w w' : Wd} {σ : L2.St} {env : DEnv} (l : Le w w') (e : EnvR w σ env) : EnvR w' σ env := ⟨e.1, fun i d h => by
  obtain ⟨v, h1, h2⟩ := e.2 i d h
  exact ⟨v, h1, h2.mono l⟩⟩
theorem EnvR.set {w : Wd} {σ : L2.St} {env : DEnv} {v : V} {d : D} (e : EnvR w σ env) (i : Nat) (h : Dat w v d) : EnvR w (σ.set i (some v)) (env.set i (some d)) := ⟨by simp [e.1], fun j d' hj => by
  by_cases q : i = j
  · subst q
    have hl : i < env.length := by
      have := (List.getElem?_eq_some_iff.mp hj).1
      simpa using this
    rw [List.getElem?_set_self hl] at hj
    cases hj
    exact ⟨v, List.getElem?_set_self (by rw [e.1]; exact hl), h⟩
  · rw [List.getElem?_set_ne q] at hj
    obtain ⟨u, h1, h2⟩ := e.2 j d' hj
    exact ⟨u, by rw [List.getElem?_set_ne q]; exact h1, h2⟩⟩
theorem EnvR.del {w : Wd} {σ : L2.St} {env : DEnv} (e : EnvR w σ env) (i : Nat) (o : Option V) : EnvR w (σ.set i o) (env.set i none) := ⟨by simp [e.1], fun j d' hj => by
  by_cases q : i = j
  · subst q
    have hl : i < env.length := by
      have := (List.getElem?_eq_some_iff.mp hj).1
      simpa using this
    rw [List.getElem?_set_self hl] at hj
    cases hj
  · rw [List.getElem?_set_ne q] at hj
    obtain ⟨u, h1, h2⟩ := e.2 j d' hj
    exact ⟨u, by rw [List.getElem?_set_ne q]; exact h1, h2⟩⟩
/-- the places of a comprehension's own names -/
def wipeD (env : DEnv) : List Nat → DEnv
  | [] => env
  | i :: r => (wipeD env r).set i none
/-! ### errors -/
def ExR (K : PySem.W.Frag) (x : Exn) (c : Value) (od : Option Addr) (H : Hp) : Prop := c = .ref (He.ga K x.c) ∧ (match x.num with
  | none => od = none
  | some (f, n) => ∃ d, od = some d ∧ H d = some (.xd [(f, .int n)]))
/-! ### what a reading owes -/
section
variable (K : PySem.W.Frag) (T : List (Addr × Str)) (E : XK)
def Post {α β : Type} (rel : Wd → β → α → Prop) (w : Wd) (H : Hp) (r : Res α) (Q : β → Hp → Prop) : Prop := match r with
  | .ok d st => ∀ w' v H', Stp w H w' H' → Rel K T w' H' st → rel w' v d → Q v H'
  | .ex x st => ∀ w' c od H', Stp w H w' H' → Rel K T w' H' st → ExR K x c od H' → E c od H'
  | .stuck => False
def Sim {α β : Type} (rel : Wd → β → α → Prop) (t : L2.St → Hp → (β → Hp → Prop) → Prop) (f : DEnv → Store → Res α) : Prop :=
  ∀ w σ H env st Q, EnvR w σ env → Rel K T w H st → Post K T E rel w H (f env st) Q → t σ H Q
def PostS (W : WX) (w : Wd) (H : Hp) (r : RS) (Dn : Ends) : Prop := match r with
  | .nx env st => ∀ w' σ' H', Stp w H w' H' → EnvR w' σ' env → Rel K T w' H' st → Dn.nx σ' H'
  | .bk env st => ∀ w' σ' H', Stp w H w' H' → EnvR w' σ' env → Rel K T w' H' st → Dn.bk σ' H'
  | .ct env st => ∀ w' σ' H', Stp w H w' H' → EnvR w' σ' env → Rel K T w' H' st → Dn.ct σ' H'
  | .rt d st => ∀ w' v H', Stp w H w' H' → Rel K T w' H' st → Dat w' v d → Dn.rt v H'
  | .ex x env st => ∀ w' c od σ' H', Stp w H w' H' → EnvR w' σ' env → Rel K T w' H' st → ExR K x c od H' → W c od σ' H'
  | .stuck => False
def SimS (W : WX) (t : TS) (f : DEnv → Store → RS) : Prop :=
  ∀ w σ H env st Dn, EnvR w σ env → Rel K T w H st → PostS K T W w H (f env st) Dn → t Dn σ H
end
section
variable {K : PySem.W.Frag} {T : List (Addr × Str)} {E : XK} {α β γ δ : Type} {rel : Wd → β → α → Prop} {rel2 : Wd → δ → γ → Prop} {w w1 : Wd} {H H1 : Hp}
theorem Post.pull {r : Res α} {Q : β → Hp → Prop} (h : Post K T E rel w H r Q) (s : Stp w H w1 H1) : Post K T E rel w1 H1 r Q := by
  cases r with
  | ok d st => exact fun w' v H' s' r' x => h w' v H' (s.trans s') r' x
  | ex x st => exact fun w' c od H' s' r' z => h w' c od H' (s.trans s') r' z
  | stuck => exact h
theorem Post.bind {r : Res α} {f : α → Store → Res γ} {Q : δ → Hp → Prop} {P : β → Hp → Prop} (h : Post K T E rel2 w H (r.bind f) Q)
    (k : ∀ w1 v H1 d st1, Stp w H w1 H1 → Rel K T w1 H1 st1 → rel w1 v d → Post K T E rel2 w1 H1 (f d st1) Q → P v H1) : Post K T E rel w H r P := by
  cases r with
  | ok d st => exact fun w' v H' s' r' x => k w' v H' d st s' r' x (Post.pull h s')
  | ex x st => exact h
  | stuck => exact h
theorem Post.imp {r : Res α} {Q Q' : β → Hp → Prop} (h : Post K T E rel w H r Q) (k : ∀ v H, Q v H → Q' v H) : Post K T E rel w H r Q' := by
  cases r with
  | ok d st => exact fun w' v H' s' r' x => k v H' (h w' v H' s' r' x)
  | ex x st => exact h
  | stuck => exact h
theorem Post.here {d : α} {st : Store} {Q : β → Hp → Prop} {v : β} (h : Post K T E rel w H (.ok d st) Q) (r : Rel K T w H st) (x : rel w v d) : Q v H := h w v H (Stp.refl w H) r x
variable {W : WX}
theorem PostS.pull {r : RS} {Dn : Ends} (h : PostS K T W w H r Dn) (s : Stp w H w1 H1) : PostS K T W w1 H1 r Dn := by
  cases r with
  | nx env st => exact fun w' σ' H' s' e' r' => h w' σ' H' (s.trans s') e' r'
  | bk env st => exact fun w' σ' H' s' e' r' => h w' σ' H' (s.trans s') e' r'
  | ct env st => exact fun w' σ' H' s' e' r' => h w' σ' H' (s.trans s') e' r'
  | rt d st => exact fun w' v H' s' r' x => h w' v H' (s.trans s') r' x
  | ex x env st => exact fun w' c od σ' H' s' e' r' z => h w' c od σ' H' (s.trans s') e' r' z
  | stuck => exact h
/-- from a statement's end to its expression's: errors that the slots don't matter to -/
theorem PostS.go {r : Res α} {env : DEnv} {f : α → Store → RS} {Dn : Ends} {P : β → Hp → Prop} {σ : L2.St} (hE : ∀ c d H, W c d σ H → E c d H) (he : EnvR w σ env) (h : PostS K T W w H (r.go env f) Dn)
    (k : ∀ w1 v H1 d st1, Stp w H w1 H1 → Rel K T w1 H1 st1 → rel w1 v d → PostS K T W w1 H1 (f d st1) Dn → P v H1) : Post K T E rel w H r P := by
  cases r with
  | ok d st => exact fun w' v H' s' r' x => k w' v H' d st s' r' x (PostS.pull h s')
  | ex x st => exact fun w' c od H' s' r' z => hE _ _ _ (h w' c od σ H' s' (he.mono s'.le) r' z)
  | stuck => exact h
end
/-! ### steps of the heap -/
section
variable {K : PySem.W.Frag} {T : List (Addr × Str)} {w : Wd} {H : Hp} {st : Store}
theorem CellOk.mono {w' : Wd} {H' : Hp} {p : Addr} {c : Cell} (x : CellOk K w H p c) (l : Le w w') (hF : c ≠ .dead → w'.F p = none) (hH : ∀ o, H p = some o → H' p = some o) : CellOk K w' H' p c := by
  cases c with
  | lst ds =>
    obtain ⟨_, vs, h1, h2⟩ := x
    exact ⟨hF (by simp), vs, hH _ h1, h2.mono l⟩
  | dic kvs =>
    obtain ⟨_, us, h1, h2, h3⟩ := x
    exact ⟨hF (by simp), us, hH _ h1, h2, h3.mono l⟩
  | dct kvs =>
    obtain ⟨_, us, h1, h2, h3⟩ := x
    exact ⟨hF (by simp), us, hH _ h1, h2, h3.mono l⟩
  | ins c fs =>
    obtain ⟨_, dx, us, h1, h2, h3⟩ := x
    exact ⟨hF (by simp), dx, us, hH _ h1, h2, h3.mono l⟩
  | dead =>
    intro z
    cases q : H p with
    | none => exact x q
    | some o =>
      rw [hH o q] at z
      cases z
theorem CellOk.there {p : Addr} {c : Cell} (x : CellOk K w H p c) : H p ≠ none := by
  cases c with
  | lst ds => obtain ⟨_, vs, h1, h2⟩ := x; rw [h1]; simp
  | dic kvs => obtain ⟨_, us, h1, h2⟩ := x; rw [h1]; simp
  | dct kvs => obtain ⟨_, us, h1, h2⟩ := x; rw [h1]; simp
  | ins c fs => obtain ⟨_, dx, us, h1, h2⟩ := x; rw [h1]; simp
  | dead => exact x
theorem CellOk.noF {p : Addr} {c : Cell} (x : CellOk K w H p c) (h : c ≠ .dead) : w.F p = none := by
  cases c with
  | dead => exact absurd rfl h
  | lst ds => exact x.1
  | dic ds => exact x.1
  | dct ds => exact x.1
  | ins c ds => exact x.1
theorem Rel.there (r : Rel K T w H st) {p : Addr} (h : p ∈ w.ads) : H p ≠ none := by
  obtain ⟨k, hk, e⟩ := List.getElem_of_mem h
  have e2 : w.ads[k]? = some p := by rw [List.getElem?_eq_getElem hk, e]
  have hk2 : k < st.length := by rw [← r.len]; exact hk
  exact (r.at_ k st[k] p (List.getElem?_eq_getElem hk2) e2).there
theorem Rel.sc (r : Rel K T w H st) {p : Addr} {vs : List V} (h : w.S p = some vs) : SqL K H p vs := by
  rcases r.scr p vs h with ⟨o, z, y⟩ | z
  · exact y H (r.fr _ _ z)
  · exact z H
theorem Rel.addr (r : Rel K T w H st) {k : Nat} {c : Cell} (h : st[k]? = some c) : ∃ p, w.ads[k]? = some p ∧ CellOk K w H p c := by
  have hk : k < w.ads.length := by
    rw [r.len]
    exact (List.getElem?_eq_some_iff.mp h).1
  exact ⟨w.ads[k], List.getElem?_eq_getElem hk, r.at_ k c _ h (List.getElem?_eq_getElem hk)⟩
theorem Rel.freeF (r : Rel K T w H st) {p : Addr} (h : H p = none) : w.F p = none := by
  cases q : w.F p with
  | none => rfl
  | some o =>
    rw [r.fr p o q] at h
    cases h
theorem tabs_ext {H' : Hp} (t : LamX.Tabs T H) (e : ∀ b o, H b = some o → H' b = some o) : LamX.Tabs T H' := t.ext e
/-- a new thing that stays as it is -/
theorem Rel.laid (r : Rel K T w H st) {p : Addr} (hp : H p = none) (o : HO) : Stp w H ⟨upd w.F p o, w.ads, w.S⟩ (upd H p o) ∧ Rel K T ⟨upd w.F p o, w.ads, w.S⟩ (upd H p o) st := by
  have hF := r.freeF hp
  have le : Le w ⟨upd w.F p o, w.ads, w.S⟩ := ⟨fun a u h => by
    show upd w.F p o a = some u
    rw [upd_ne (fun z => by rw [z, hF] at h; cases h)]
    exact h, fun _ _ h => h, rfl⟩
  have hk : ∀ a u, H a = some u → upd H p o a = some u := fun a u h => by
    rw [upd_ne (fun z => by rw [z, hp] at h; cases h)]
    exact h
  refine ⟨⟨le, fun q h n => absurd h n, fun a u h _ _ => hk a u h, fun a h => ?_, fun a h n => .inl ?_⟩, ⟨fun a u h => ?_, r.len, r.nd, fun k c q h1 h2 => ?_, tabs_ext r.tabs hk, r.scr.le le⟩⟩
  rotate_left
  · by_cases q : a = p
    · rw [q]
      exact hp
    · have h' : upd w.F p o a ≠ none := h
      rw [upd_ne q] at h'
      exact absurd n h'
  rotate_left
  rotate_left
  · cases q : H a with
    | none => rfl
    | some u =>
      rw [hk a u q] at h
      cases h
  · by_cases q : a = p
    · subst q
      have h' : upd w.F a o a = some u := h
      rw [upd_same] at h'
      rw [upd_same]
      exact h'
    · have h' : upd w.F p o a = some u := h
      rw [upd_ne q] at h'
      exact hk a u (r.fr a u h')
  · have x := r.at_ k c q h1 h2
    refine x.mono le (fun hd => ?_) (hk q)
    show upd w.F p o q = none
    rw [upd_ne (fun z => x.there (by rw [z]; exact hp))]
    exact x.noF hd
/-- a new cell -/
theorem Rel.grown (r : Rel K T w H st) {p : Addr} (hp : H p = none) {H' : Hp} (hk : ∀ a u, H a = some u → H' a = some u) {c : Cell} (hc : CellOk K ⟨w.F, w.ads ++ [p], w.S⟩ H' p c) : Stp w H ⟨w.F, w.ads ++ [p], w.S⟩ H' ∧ Rel K T ⟨w.F, w.ads ++ [p], w.S⟩ H' (st ++ [c]) := by
  have hF := r.freeF hp
  have le : Le w ⟨w.F, w.ads ++ [p], w.S⟩ := ⟨fun _ _ h => h, fun k q h => by
    show (w.ads ++ [p])[k]? = some q
    rw [List.getElem?_append_left (List.getElem?_eq_some_iff.mp h).1]
    exact h, rfl⟩
  have hn : p ∉ w.ads := fun z => r.there z hp
  refine ⟨⟨le, fun q h n => ?_, fun a u h _ _ => hk a u h, fun a h => ?_, fun a h n => absurd n h⟩, ⟨fun a u h => hk a u (r.fr a u h), by simp [r.len], ?_, fun k d q h1 h2 => ?_, tabs_ext r.tabs hk, r.scr.le le⟩⟩
  · have h' : q ∈ w.ads ++ [p] := h
    rw [List.mem_append] at h'
    rcases h' with h | h
    · exact absurd h n
    · have e : q = p := by simpa using h
      rw [e]
      exact hp
  · cases q : H a with
    | none => rfl
    | some u =>
      rw [hk a u q] at h
      cases h
  · show (w.ads ++ [p]).Nodup
    rw [List.nodup_append]
    refine ⟨r.nd, by simp, fun a ha b hb => ?_⟩
    have e : b = p := by simpa using hb
    rw [e]
    intro z
    rw [z] at ha
    exact hn ha
  · have h2' : (w.ads ++ [p])[k]? = some q := h2
    by_cases hlt : k < st.length
    · rw [List.getElem?_append_left hlt] at h1
      rw [List.getElem?_append_left (by rw [r.len]; exact hlt)] at h2'
      exact (r.at_ k d q h1 h2').mono le (fun hd => (r.at_ k d q h1 h2').noF hd) (hk q)
    · have hk2 : k = st.length := by
        have := (List.getElem?_eq_some_iff.mp h1).1
        simp at this
        omega
      subst hk2
      rw [List.getElem?_append_right (Nat.le_refl _), Nat.sub_self] at h1
      rw [List.getElem?_append_right (by rw [r.len]; exact Nat.le_refl _), r.len, Nat.sub_self] at h2'
      simp at h1 h2'
      subst h1 h2'
      exact hc
/-- a cell is put -/
theorem Rel.put (r : Rel K T w H st) {k : Nat} {p : Addr} {c0 : Cell} (h0 : st[k]? = some c0) (hd : c0 ≠ .dead) (ha : w.ads[k]? = some p) {o : HO} {c : Cell} (hc : CellOk K w (upd H p o) p c) : Stp w H w (upd H p o) ∧ Rel K T w (upd H p o) (st.set k c) := by
  have x0 := r.at_ k c0 p h0 ha
  have hF := x0.noF hd
  have hmem : p ∈ w.ads := List.mem_of_getElem? ha
  refine ⟨⟨Le.refl w, fun q h n => absurd h n, fun a u h n _ => ?_, fun a h => ?_, fun a h n => absurd n h⟩, ⟨fun a u h => ?_, by simp [r.len], r.nd, fun j d q h1 h2 => ?_, ?_, r.scr⟩⟩
  · have hne : a ≠ p := fun z => n (by rw [z]; exact hmem)
    rw [upd_ne hne]
    exact h
  · by_cases z : a = p
    · rw [z, upd_same] at h
      cases h
    · rw [upd_ne z] at h
      exact h
  · rw [upd_ne (fun z => by rw [z, hF] at h; cases h)]
    exact r.fr a u h
  · by_cases z : k = j
    · subst z
      rw [ha] at h2
      cases h2
      rw [List.getElem?_set_self (List.getElem?_eq_some_iff.mp h0).1] at h1
      cases h1
      exact hc
    · rw [List.getElem?_set_ne z] at h1
      have x := r.at_ j d q h1 h2
      refine x.mono (Le.refl w) (fun hd => x.noF hd) fun u e => ?_
      rw [upd_ne (fun y => ?_)]
      · exact e
      · subst y
        obtain ⟨hk1, e1⟩ := List.getElem?_eq_some_iff.mp ha
        obtain ⟨hj1, e2⟩ := List.getElem?_eq_some_iff.mp h2
        exact z ((List.getElem_inj r.nd).mp (e1.trans e2.symm))
  · intro t ht
    obtain ⟨ps, h1, h2, h3⟩ := r.tabs t ht
    have keep : ∀ a u, H a = some u → (∀ xs, u ≠ .lst xs) → (∀ xs, u ≠ .dK xs) → (∀ xs, u ≠ .dT xs) → (∀ c d xs, u ≠ .ins c d xs) → upd H p o a = some u := fun a u e n1 n2 n3 n4 => by
      rw [upd_ne (fun y => ?_)]
      · exact e
      · subst y
        cases c0 with
        | dead => exact hd rfl
        | lst ds => obtain ⟨_, vs, q, _⟩ := x0; rw [q] at e; exact n1 _ (Option.some.inj e).symm
        | dic ds => obtain ⟨_, vs, q, _⟩ := x0; rw [q] at e; exact n2 _ (Option.some.inj e).symm
        | dct ds => obtain ⟨_, vs, q, _⟩ := x0; rw [q] at e; exact n3 _ (Option.some.inj e).symm
        | ins c ds => obtain ⟨_, dx, vs, q, _⟩ := x0; rw [q] at e; exact n4 _ _ _ (Option.some.inj e).symm
    refine ⟨ps, keep _ _ h1 (by intro _ z; cases z) (by intro _ z; cases z) (by intro _ z; cases z) (by intro _ _ _ z; cases z), h2, fun pos cv hcv => ?_⟩
    obtain ⟨c', e1, e2⟩ := h3 pos cv hcv
    refine ⟨c', e1, keep _ _ e2 ?_ ?_ ?_ ?_⟩ <;> (intros; unfold LamX.CodeO; intro z; cases z)
/-- a list's or any cell's end: it stays as it is from now on -/
theorem Rel.frozen (r : Rel K T w H st) {k : Nat} {ds : List D} (h0 : st[k]? = some (.lst ds)) : ∃ p vs, w.ads[k]? = some p ∧ Stp w H ⟨upd w.F p (.lst vs), w.ads, w.S⟩ H ∧ Rel K T ⟨upd w.F p (.lst vs), w.ads, w.S⟩ H (st.set k .dead) ∧ Dat ⟨upd w.F p (.lst vs), w.ads, w.S⟩ (.ref p) (.lst ds) := by
  obtain ⟨p, ha, hF, vs, hH, hv⟩ := r.addr h0
  have le : Le w ⟨upd w.F p (.lst vs), w.ads, w.S⟩ := ⟨fun a u h => by
    show upd w.F p (.lst vs) a = some u
    rw [upd_ne (fun z => by rw [z, hF] at h; cases h)]
    exact h, fun _ _ h => h, rfl⟩
  refine ⟨p, vs, ha, ⟨le, fun q h n => absurd h n, fun a u h _ _ => h, fun a h => h, fun a h n => .inr (by
    by_cases q : a = p
    · rw [q]
      exact List.mem_of_getElem? ha
    · have h' : upd w.F p (.lst vs) a ≠ none := h
      rw [upd_ne q] at h'
      exact absurd n h')⟩, ⟨fun a u h => ?_, by simp [r.len], r.nd, fun j d q h1 h2 => ?_, r.tabs, r.scr.le le⟩, .lst upd_same (hv.mono le)⟩
  · have h' : upd w.F p (.lst vs) a = some u := h
    by_cases z : a = p
    · rw [z, upd_same] at h'
      rw [z, hH]
      exact h'
    · rw [upd_ne z] at h'
      exact r.fr a u h'
  · by_cases z : k = j
    · subst z
      rw [List.getElem?_set_self (List.getElem?_eq_some_iff.mp h0).1] at h1
      cases h1
      have h2' : w.ads[k]? = some q := h2
      rw [ha] at h2'
      cases h2'
      show H p ≠ none
      rw [hH]
      simp
    · rw [List.getElem?_set_ne z] at h1
      have x := r.at_ j d q h1 h2
      refine x.mono le (fun hd => ?_) fun u e => e
      show upd w.F p (.lst vs) q = none
      rw [upd_ne (fun y => ?_)]
      · exact x.noF hd
      · subst y
        obtain ⟨hk1, e1⟩ := List.getElem?_eq_some_iff.mp ha
        obtain ⟨hj1, e2⟩ := List.getElem?_eq_some_iff.mp (show w.ads[j]? = some q from h2)
        exact z ((List.getElem_inj r.nd).mp (e1.trans e2.symm))
end
end Fk
/-! FkB: expressions that follow plain functions. -/
namespace Fk
open PySem PySem.Spec PyProof.Rows L2
section
variable (K : PySem.W.Frag) (T : List (Addr × Str)) (E : XK)
/-- the reading that a plain function is -/
def tOf {α β : Type} (rel : Wd → β → α → Prop) (f : DEnv → Store → Res α) : L2.St → Hp → (β → Hp → Prop) → Prop :=
  fun σ H Q => ∃ w env st, EnvR w σ env ∧ Rel K T w H st ∧ Post K T E rel w H (f env st) Q
def tOfS (W : WX) (f : DEnv → Store → RS) : TS := fun Dn σ H => ∃ w env st, EnvR w σ env ∧ Rel K T w H st ∧ PostS K T W w H (f env st) Dn
end
theorem Sim.to {K : PySem.W.Frag} {T : List (Addr × Str)} {E : XK} {α β : Type} {rel : Wd → β → α → Prop} {t : L2.St → Hp → (β → Hp → Prop) → Prop} {f : DEnv → Store → Res α} (h : Sim K T E rel t f) {σ : L2.St} {H : Hp} {Q : β → Hp → Prop} (x : tOf K T E rel f σ H Q) : t σ H Q := by
  obtain ⟨w, env, st, e, r, p⟩ := x
  exact h w σ H env st Q e r p
theorem sim_of {K : PySem.W.Frag} {T : List (Addr × Str)} {E : XK} {α β : Type} {rel : Wd → β → α → Prop} {f : DEnv → Store → Res α} : Sim K T E rel (tOf K T E rel f) f := fun w σ H env st Q e r p => ⟨w, env, st, e, r, p⟩
theorem sim_ofS {K : PySem.W.Frag} {T : List (Addr × Str)} {W : WX} {f : DEnv → Store → RS} : SimS K T W (tOfS K T W f) f := fun w σ H env st Q e r p => ⟨w, env, st, e, r, p⟩
abbrev LE := DEnv → Store → Res D
abbrev LT := DEnv → Store → Res Bool
abbrev LA := DEnv → Store → Res (List D)
abbrev LS := DEnv → Store → RS
abbrev eqB : Wd → Bool → Bool → Prop := fun _ a b => a = b
/-- an expression, a test, arguments, statements that do as a plain function says -/
abbrev PEf (X : Cx) (T : List (Addr × Str)) (E : XK) (e : Expr) (f : LE) : Prop := PE X e (tOf X.K T E Dat f)
abbrev PTf (X : Cx) (T : List (Addr × Str)) (E : XK) (e : Expr) (f : LT) : Prop := PT X e (tOf X.K T E eqB f)
abbrev PWf (X : Cx) (T : List (Addr × Str)) (E : XK) (e : Expr) (f : LT) : Prop := PW X e (tOf X.K T E eqB f)
abbrev PAf (X : Cx) (T : List (Addr × Str)) (E : XK) (es : List Expr) (f : LA) : Prop := PA X es (tOf X.K T E Dats f)
abbrev PSf (X : Cx) (T : List (Addr × Str)) (W : WX) (s : Stmt) (f : LS) : Prop := PS X s (tOfS X.K T W f)
abbrev PSsf (X : Cx) (T : List (Addr × Str)) (W : WX) (s : List Stmt) (f : LS) : Prop := PSs X s (tOfS X.K T W f)
section
variable {X : Cx} {T : List (Addr × Str)} {E : XK}
theorem pe_to {e : Expr} {te : TE} {f : LE} (h : PE X e te) (s : Sim X.K T E Dat te f) : PEf X T E e f := ⟨fun pins st σ H Q I x => h.run pins st σ H Q I (s.to x)⟩
theorem pt_to {e : Expr} {te : TT} {f : LT} (h : PT X e te) (s : Sim X.K T E eqB te f) : PTf X T E e f := ⟨fun pins st σ H Q I x => h.run pins st σ H Q I (s.to x)⟩
theorem pw_to {e : Expr} {te : TT} {f : LT} (h : PW X e te) (s : Sim X.K T E eqB te f) : PWf X T E e f := ⟨fun whole pins st σ H Q I x => h.run whole pins st σ H Q I (s.to x)⟩
theorem pa_to {es : List Expr} {te : TA} {f : LA} (h : PA X es te) (s : Sim X.K T E Dats te f) : PAf X T E es f := ⟨fun pos pins st σ H Q I x => h.run pos pins st σ H Q I (s.to x)⟩
theorem ps_to {W : WX} {s : Stmt} {t : TS} {f : LS} (h : PS X s t) (k : SimS X.K T W t f) : PSf X T W s f := ⟨fun pins st σ H Dn I x => h.run pins st σ H Dn I (by
  obtain ⟨w, env, s', e, r, p⟩ := x
  exact k w σ H env s' Dn e r p)⟩
theorem pss_to {W : WX} {s : List Stmt} {t : TS} {f : LS} (h : PSs X s t) (k : SimS X.K T W t f) : PSsf X T W s f := ⟨fun pins st σ H Dn I x => h.run pins st σ H Dn I (by
  obtain ⟨w, env, s', e, r, p⟩ := x
  exact k w σ H env s' Dn e r p)⟩
end
/-! ### names, constants -/
def fVar (i : Nat) : LE := fun env st => match env[i]? with
  | some (some d) => .ok d st
  | _ => .stuck
def fC (d : D) : LE := fun _ st => .ok d st
section
variable {X : Cx} {T : List (Addr × Str)} {E : XK} {K : PySem.W.Frag}
theorem sim_var (i : Nat) : Sim K T E Dat (tVar i) (fVar i) := fun w σ H env st Q e r p => by
  unfold fVar at p
  cases q : env[i]? with
  | none => rw [q] at p; exact p.elim
  | some o =>
    cases o with
    | none => rw [q] at p; exact p.elim
    | some d =>
      rw [q] at p
      obtain ⟨v, h1, h2⟩ := e.2 i d q
      exact ⟨v, h1, p.here r h2⟩
theorem x_var (i : Nat) {x : Str} {pos : Pos} (hN : X.N[i]? = some x := by rfl) (hv : Vis X.env.scope x := by first | exact Or.inl rfl | exact Or.inr (Or.inl rfl) | exact Or.inr (Or.inr rfl)) (hd : (x == ("__debug__" : Str)) = false := by decide)
    (hcd : (x == ("__classdict__" : Str)) = false := by decide) : PEf X T E (.Name x pos) (fVar i) := pe_to (pv i hN hv hd hcd) (sim_var i)
theorem sim_c {v : V} {d : D} (h : ∀ w, Dat w v d) : Sim K T E Dat (tC v) (fC d) := fun w σ H env st Q e r p => p.here r (h w)
theorem x_int {i : Int} {j pos} : PEf X T E (.Constant (.int i) j pos) (fC (.int i)) := pe_to pe_int (sim_c fun _ => .int i)
theorem x_str {i : Str} {j pos} : PEf X T E (.Constant (.str i) j pos) (fC (.str i)) := pe_to pe_str (sim_c fun _ => .str i)
theorem x_bl {i : Bool} {j pos} : PEf X T E (.Constant (.bool i) j pos) (fC (.bl i)) := pe_to pe_bl (sim_c fun _ => .bl i)
theorem x_non {j pos} : PEf X T E (.Constant .none j pos) (fC .non) := pe_to pe_non (sim_c fun _ => .non)
/-- a module's int, text -/
theorem x_gint {x : Str} {i : Int} {pos : Pos} (hm : ∃ t, X.mg x = some (.int i t)) (hg : Gl X x := by rfl) (hd : (x == ("__debug__" : Str)) = false := by decide) : PEf X T E (.Name x pos) (fC (.int i)) := by
  obtain ⟨t, hm⟩ := hm
  exact pe_to (pe_glob (v := .int i) hg hm ⟨t, rfl⟩ hd) (sim_c fun _ => .int i)
theorem x_gstr {x : Str} {i : Str} {pos : Pos} (hm : ∃ t, X.mg x = some (.str i t)) (hg : Gl X x := by rfl) (hd : (x == ("__debug__" : Str)) = false := by decide) : PEf X T E (.Name x pos) (fC (.str i)) := by
  obtain ⟨t, hm⟩ := hm
  exact pe_to (pe_glob (v := .str i) hg hm ⟨t, rfl⟩ hd) (sim_c fun _ => .str i)
end
/-! ### operations by values -/
abbrev O2 := D → D → Store → Res D
abbrev O1 := D → Store → Res D
def SimR2 (K : PySem.W.Frag) (T : List (Addr × Str)) (r : R2) (o : O2) : Prop := ∀ E w H st x y d e Q, Rel K T w H st → Dat w x d → Dat w y e → Post K T E Dat w H (o d e st) Q → r x y H Q
def SimR1 (K : PySem.W.Frag) (T : List (Addr × Str)) (r : V → Hp → VK → Prop) (o : O1) : Prop := ∀ E w H st x d Q, Rel K T w H st → Dat w x d → Post K T E Dat w H (o d st) Q → r x H Q
def fOp (o : O2) (fa fb : LE) : LE := fun env st => (fa env st).bind fun d st1 => (fb env st1).bind fun e st2 => o d e st2
def fUn (o : O1) (fa : LE) : LE := fun env st => (fa env st).bind fun d st1 => o d st1
section
variable {X : Cx} {T : List (Addr × Str)} {E : XK} {K : PySem.W.Frag} {a b : Expr} {fa fb : LE} {pos : Pos}
theorem sim_op {r : R2} {o : O2} (h : SimR2 K T r o) : Sim K T E Dat (tOp r (tOf K T E Dat fa) (tOf K T E Dat fb)) (fOp o fa fb) := fun w σ H env st Q e r p => by
  refine ⟨w, env, st, e, r, p.bind fun w1 x H1 d st1 s1 r1 dx p1 => ?_⟩
  refine ⟨w1, env, st1, e.mono s1.le, r1, p1.bind fun w2 y H2 d2 st2 s2 r2 dy p2 => ?_⟩
  exact h E w2 H2 st2 x y d d2 Q r2 (dx.mono s2.le) dy p2
theorem sim_un {r : V → Hp → VK → Prop} {o : O1} (h : SimR1 K T r o) : Sim K T E Dat (tUn r (tOf K T E Dat fa)) (fUn o fa) := fun w σ H env st Q e r p => by
  refine ⟨w, env, st, e, r, p.bind fun w1 x H1 d st1 s1 r1 dx p1 => ?_⟩
  exact h E w1 H1 st1 x d Q r1 dx p1
theorem x_op {op : Operator} {r : R2} {o : O2} (ho : OpR X (binaryOp op) r) (h : SimR2 X.K T r o) (ha : PEf X T E a fa) (hb : PEf X T E b fb) : PEf X T E (.BinOp a op b pos) (fOp o fa fb) := pe_to (pe_op ho ha hb) (sim_op h)
theorem x_un {op : UnaryOp} {r : V → Hp → VK → Prop} {o : O1} (ho : UnR X (unaryOp op) r) (h : SimR1 X.K T r o) (ha : PEf X T E a fa) : PEf X T E (.UnaryOp op a pos) (fUn o fa) := pe_to (pe_un ho ha) (sim_un h)
theorem x_cmp {op : CmpOp} {r : R2} {o : O2} (ho : OpR X (compareOp op) r) (h : SimR2 X.K T r o) (ha : PEf X T E a fa) (hb : PEf X T E b fb) (hm : behindInMarks op b = false := by first | rfl | exact nomark _) : PEf X T E (.Compare a [op] [b] pos) (fOp o fa fb) := pe_to (pe_cmpR ho ha hb hm) (sim_op h)
/-- a value that is True or False, as a test -/
def fTest (f : LE) : LT := fun env st => (f env st).bind fun d st1 => match d with
  | .bl b => .ok b st1
  | _ => .stuck
theorem sim_test {f : LE} : Sim K T E eqB (fun σ H Q => tOf K T E Dat f σ H fun x H1 => ∃ c, x = .bl c ∧ Q c H1) (fTest f) := fun w σ H env st Q e r p => by
  refine ⟨w, env, st, e, r, p.bind fun w1 x H1 d st1 s1 r1 dx p1 => ?_⟩
  cases dx with
  | bl b => exact ⟨b, rfl, p1.here r1 rfl⟩
  | _ => exact p1.elim
theorem x_test {f : LE} (h : PEf X T E a f) (he : ∀ whole, isTrue a X.env whole = (do let v ← whole; standAt a.pos; holding [v] (truthy v)) := by intro _; rfl) : PTf X T E a (fTest f) := pt_to (pt_val h he) sim_test
theorem x_tcmp {op : CmpOp} {r : R2} {o : O2} (ho : OpR X (compareOp op) r) (h : SimR2 X.K T r o) (ha : PEf X T E a fa) (hb : PEf X T E b fb) (hm : behindInMarks op b = false := by first | rfl | exact nomark _) : PTf X T E (.Compare a [op] [b] pos) (fTest (fOp o fa fb)) := by
  refine pt_to (pt_cmpR ho ha hb hm) fun w σ H env st Q e r p => ?_
  exact sim_op (E := E) h w σ H env st _ e r (p.bind fun w1 x H1 d st1 s1 r1 dx p1 => by
    cases dx with
    | bl b => exact ⟨b, rfl, p1.here r1 rfl⟩
    | _ => exact p1.elim)
/-! ### and, or, not, if -/
def fAnd (ta tb : LT) : LT := fun env st => (ta env st).bind fun c st1 => if c = true then tb env st1 else .ok false st1
def fOr (ta tb : LT) : LT := fun env st => (ta env st).bind fun c st1 => if c = true then .ok true st1 else tb env st1
def fNot (ta : LT) : LT := fun env st => (ta env st).bind fun c st1 => .ok (!c) st1
variable {ta tb : LT} {rest : List Expr}
theorem sim_and : Sim K T E eqB (tAnd (tOf K T E eqB ta) (tOf K T E eqB tb)) (fAnd ta tb) := fun w σ H env st Q e r p => by
  refine ⟨w, env, st, e, r, p.bind fun w1 x H1 d st1 s1 r1 dx p1 => ?_⟩
  cases (show x = d from dx)
  cases x with
  | true =>
    show (if true = true then _ else _)
    rw [if_pos rfl] at p1 ⊢
    exact ⟨w1, env, st1, e.mono s1.le, r1, p1⟩
  | false =>
    show (if false = true then _ else _)
    rw [if_neg Bool.false_ne_true] at p1 ⊢
    exact p1.here r1 rfl
theorem sim_or : Sim K T E eqB (tOr (tOf K T E eqB ta) (tOf K T E eqB tb)) (fOr ta tb) := fun w σ H env st Q e r p => by
  refine ⟨w, env, st, e, r, p.bind fun w1 x H1 d st1 s1 r1 dx p1 => ?_⟩
  cases (show x = d from dx)
  cases x with
  | true =>
    show (if true = true then _ else _)
    rw [if_pos rfl] at p1 ⊢
    exact p1.here r1 rfl
  | false =>
    show (if false = true then _ else _)
    rw [if_neg Bool.false_ne_true] at p1 ⊢
    exact ⟨w1, env, st1, e.mono s1.le, r1, p1⟩
theorem x_wand1 (h : PTf X T E a ta) : PWf X T E (.BoolOp .And [a] pos) ta := pw_and1 h
theorem x_wor1 (h : PTf X T E a ta) : PWf X T E (.BoolOp .Or [a] pos) ta := pw_or1 h
theorem x_wand (ha : PTf X T E a ta) (hb : PWf X T E (.BoolOp .And (b :: rest) pos) tb) : PWf X T E (.BoolOp .And (a :: b :: rest) pos) (fAnd ta tb) := pw_to (pw_and ha hb) sim_and
theorem x_wor (ha : PTf X T E a ta) (hb : PWf X T E (.BoolOp .Or (b :: rest) pos) tb) : PWf X T E (.BoolOp .Or (a :: b :: rest) pos) (fOr ta tb) := pw_to (pw_or ha hb) sim_or
theorem x_tw (h : PWf X T E a ta) : PTf X T E a ta := h.pt
theorem x_tnot (h : PTf X T E a ta) : PTf X T E (.UnaryOp .Not a pos) (fNot ta) := pt_to (pt_not h) fun w σ H env st Q e r p => by
  refine ⟨w, env, st, e, r, p.bind fun w1 x H1 d st1 s1 r1 dx p1 => ?_⟩
  cases (show x = d from dx)
  exact p1.here r1 rfl
/-- as values: all but the last are True or False -/
def fAndV (fa fb : LE) : LE := fun env st => (fa env st).bind fun d st1 => match d with
  | .bl true => fb env st1
  | .bl false => .ok (.bl false) st1
  | _ => .stuck
def fOrV (fa fb : LE) : LE := fun env st => (fa env st).bind fun d st1 => match d with
  | .bl true => .ok (.bl true) st1
  | .bl false => fb env st1
  | _ => .stuck
def fNotV (fa : LE) : LE := fun env st => (fa env st).bind fun d st1 => match d with
  | .bl b => .ok (.bl (!b)) st1
  | _ => .stuck
def fIf (t : LT) (fa fb : LE) : LE := fun env st => (t env st).bind fun c st1 => if c = true then fa env st1 else fb env st1
theorem x_one {op} {f : LE} (h : PEf X T E a f) : PEf X T E (.BoolOp op [a] pos) f := pe_one h
theorem x_and (ha : PEf X T E a fa) (hb : PEf X T E (.BoolOp .And (b :: rest) pos) fb) : PEf X T E (.BoolOp .And (a :: b :: rest) pos) (fAndV fa fb) := pe_to (pe_and ha hb) fun w σ H env st Q e r p => by
  refine ⟨w, env, st, e, r, p.bind fun w1 x H1 d st1 s1 r1 dx p1 => ?_⟩
  cases dx with
  | bl c =>
    refine ⟨c, rfl, ?_⟩
    cases c with
    | true =>
      rw [if_pos rfl]
      exact ⟨w1, env, st1, e.mono s1.le, r1, p1⟩
    | false =>
      rw [if_neg Bool.false_ne_true]
      exact p1.here r1 (.bl false)
  | _ => exact p1.elim
theorem x_or (ha : PEf X T E a fa) (hb : PEf X T E (.BoolOp .Or (b :: rest) pos) fb) : PEf X T E (.BoolOp .Or (a :: b :: rest) pos) (fOrV fa fb) := pe_to (pe_or ha hb) fun w σ H env st Q e r p => by
  refine ⟨w, env, st, e, r, p.bind fun w1 x H1 d st1 s1 r1 dx p1 => ?_⟩
  cases dx with
  | bl c =>
    refine ⟨c, rfl, ?_⟩
    cases c with
    | true =>
      rw [if_pos rfl]
      exact p1.here r1 (.bl true)
    | false =>
      rw [if_neg Bool.false_ne_true]
      exact ⟨w1, env, st1, e.mono s1.le, r1, p1⟩
  | _ => exact p1.elim
theorem x_not (ha : PEf X T E a fa) : PEf X T E (.UnaryOp .Not a pos) (fNotV fa) := pe_to (pe_not ha) fun w σ H env st Q e r p => by
  refine ⟨w, env, st, e, r, p.bind fun w1 x H1 d st1 s1 r1 dx p1 => ?_⟩
  cases dx with
  | bl c => exact ⟨c, rfl, p1.here r1 (.bl _)⟩
  | _ => exact p1.elim
theorem x_if {c : Expr} {t : LT} (hc : PTf X T E c t) (ha : PEf X T E a fa) (hb : PEf X T E b fb) : PEf X T E (.IfExp c a b pos) (fIf t fa fb) := pe_to (pe_ifExp hc ha hb) fun w σ H env st Q e r p => by
  refine ⟨w, env, st, e, r, p.bind fun w1 x H1 d st1 s1 r1 dx p1 => ?_⟩
  cases (show x = d from dx)
  cases x with
  | true =>
    rw [if_pos rfl] at p1 ⊢
    exact ⟨w1, env, st1, e.mono s1.le, r1, p1⟩
  | false =>
    rw [if_neg Bool.false_ne_true] at p1 ⊢
    exact ⟨w1, env, st1, e.mono s1.le, r1, p1⟩
end
/-! ### ints, texts, lists, tuples: the operators -/
abbrev lim : Nat := 16777216
theorem lim_eq : sizeLine = lim := sizeLine_eq
/-- a list's items, as it stands (new ones; cells) -/
def lstOf (d : D) (st : Store) : Option (List D) := match d with
  | .lst xs => some xs
  | .ref k => (match st[k]? with
    | some (.lst xs) => some xs
    | _ => none)
  | _ => none
/-- .. that is only read: the script too -/
def rdOf (d : D) (st : Store) : Option (List D) := match d with
  | .lck xs => some xs
  | d => lstOf d st
section
variable {K : PySem.W.Frag} {T : List (Addr × Str)} {w : Wd} {H : Hp} {st : Store}
theorem lst_at {x : V} {d : D} {xs : List D} (r : Rel K T w H st) (h : Dat w x d) (e : lstOf d st = some xs) : ∃ p vs, x = .ref p ∧ H p = some (.lst vs) ∧ Dats w vs xs := by
  cases h with
  | lst hF hd =>
    cases e
    exact ⟨_, _, rfl, r.fr _ _ hF, hd⟩
  | @ref p k ha =>
    have e' : (match st[k]? with | some (.lst xs) => some xs | _ => none) = some xs := e
    cases q : st[k]? with
    | none => rw [q] at e'; cases e'
    | some c =>
      rw [q] at e'
      cases c with
      | lst ys =>
        cases e'
        obtain ⟨p', a', _, vs, hH, hv⟩ := r.addr q
        rw [ha] at a'
        cases a'
        exact ⟨p, vs, rfl, hH, hv⟩
      | _ => cases e'
  | _ => cases e
theorem rd_at {x : V} {d : D} {xs : List D} (r : Rel K T w H st) (h : Dat w x d) (e : rdOf d st = some xs) : ∃ p vs, x = .ref p ∧ SqL K H p vs ∧ Dats w vs xs := by
  by_cases c : ∃ ys, d = .lck ys
  · obtain ⟨ys, rfl⟩ := c
    cases e
    cases h with
    | @lck p vs ds hF hd => exact ⟨p, vs, rfl, r.sc hF, hd⟩
  · have e2 : lstOf d st = some xs := by
      cases d with
      | lck ys => exact absurd ⟨ys, rfl⟩ c
      | _ => exact e
    obtain ⟨p, vs, e1, h1, h2⟩ := lst_at r h e2
    exact ⟨p, vs, e1, SqL.of h1, h2⟩
theorem Dat.tup_at {x : V} {ds : List D} (r : Rel K T w H st) (h : Dat w x (.tup ds)) : ∃ p vs, x = .ref p ∧ H p = some (.tup vs) ∧ Dats w vs ds := by
  cases h with
  | tup hF hd => exact ⟨_, _, rfl, r.fr _ _ hF, hd⟩
/-- a new tuple, a new list that stays -/
theorem Post.newT {E : XK} {ds : List D} {vs : List V} {Q : VK} (p : Post K T E Dat w H (.ok (.tup ds) st) Q) (r : Rel K T w H st) (hv : Dats w vs ds) : ∀ a, H a = none → Q (.ref a) (upd H a (.tup vs)) := fun a ha => by
  obtain ⟨s1, r1⟩ := r.laid ha (.tup vs)
  exact p _ _ _ s1 r1 (.tup upd_same (hv.mono s1.le))
theorem Post.newL {E : XK} {ds : List D} {vs : List V} {Q : VK} (p : Post K T E Dat w H (.ok (.lst ds) st) Q) (r : Rel K T w H st) (hv : Dats w vs ds) : ∀ a, H a = none → Q (.ref a) (upd H a (.lst vs)) := fun a ha => by
  obtain ⟨s1, r1⟩ := r.laid ha (.lst vs)
  exact p _ _ _ s1 r1 (.lst upd_same (hv.mono s1.le))
/-- a new list that is a cell -/
theorem Post.newC {E : XK} {ds : List D} {vs : List V} {Q : VK} (p : Post K T E Dat w H (.ok (.ref st.length) (st ++ [.lst ds])) Q) (r : Rel K T w H st) (hv : Dats w vs ds) : ∀ a, H a = none → Q (.ref a) (upd H a (.lst vs)) := fun a ha => by
  have hk : ∀ b u, H b = some u → upd H a (.lst vs) b = some u := fun b u h => by
    rw [upd_ne (fun z => by rw [z, ha] at h; cases h)]
    exact h
  have le : Le w ⟨w.F, w.ads ++ [a], w.S⟩ := ⟨fun _ _ h => h, fun k q h => by
    show (w.ads ++ [a])[k]? = some q
    rw [List.getElem?_append_left (List.getElem?_eq_some_iff.mp h).1]
    exact h, rfl⟩
  obtain ⟨s1, r1⟩ := r.grown ha (H' := upd H a (.lst vs)) hk (c := .lst ds) ⟨r.freeF ha, vs, upd_same, hv.mono le⟩
  refine p _ _ _ s1 r1 (.ref ?_)
  show (w.ads ++ [a])[st.length]? = some a
  rw [← r.len]
  simp
end
def oI (g : Int → Int → D) : O2 := fun d e st => match d, e with
  | .int i, .int j => .ok (g i j) st
  | _, _ => .stuck
def oIc (c : Int → Int → Bool) (g : Int → Int → D) : O2 := fun d e st => match d, e with
  | .int i, .int j => if c i j = true then .ok (g i j) st else .stuck
  | _, _ => .stuck
section
variable {K : PySem.W.Frag} {T : List (Addr × Str)}
theorem sim_I0 {g : Int → Int → V} {g' : Int → Int → D} (h : ∀ w i j, Dat w (g i j) (g' i j)) : SimR2 K T (rI0 g) (oI g') := fun E w H st x y d e Q r dx dy p => by
  cases dx with
  | int i =>
    cases dy with
    | int j => exact ⟨i, j, rfl, rfl, p.here r (h w i j)⟩
    | _ => exact p.elim
  | _ => exact p.elim
theorem sim_I {C : Int → Int → Prop} {c : Int → Int → Bool} (hc : ∀ i j, c i j = true → C i j) {g : Int → Int → V} {g' : Int → Int → D} (h : ∀ w i j, Dat w (g i j) (g' i j)) : SimR2 K T (rI C g) (oIc c g') := fun E w H st x y d e Q r dx dy p => by
  cases dx with
  | int i =>
    cases dy with
    | int j =>
      have p' : Post K T E Dat w H (if c i j = true then .ok (g' i j) st else .stuck) Q := p
      by_cases q : c i j = true
      · rw [if_pos q] at p'
        exact ⟨i, j, rfl, rfl, hc i j q, p'.here r (h w i j)⟩
      · rw [if_neg q] at p'
        exact p'.elim
    | _ => exact p.elim
  | _ => exact p.elim
theorem SimR2.or {r1 r2 : R2} {o : O2} (h : ∀ E w H st x y d e Q, Rel K T w H st → Dat w x d → Dat w y e → Post K T E Dat w H (o d e st) Q → r1 x y H Q ∨ r2 x y H Q) : SimR2 K T (fun x y H Q => r1 x y H Q ∨ r2 x y H Q) o := h
end
abbrev oSub : O2 := oI fun i j => .int (i - j)
abbrev oLt : O2 := oI fun i j => .bl (decide (i < j))
abbrev oLe : O2 := oI fun i j => .bl (decide (i ≤ j))
abbrev oGt : O2 := oI fun i j => .bl (decide (j < i))
abbrev oGe : O2 := oI fun i j => .bl (decide (j ≤ i))
def cMul (i j : Int) : Bool := decide ((-(2 ^ 64) < i ∧ i < 2 ^ 64) ∨ (-(2 ^ 64) < j ∧ j < 2 ^ 64))
abbrev oMulI : O2 := oIc cMul fun i j => .int (i * j)
abbrev oDiv : O2 := oIc (fun i j => decide (0 < j ∧ j < 1073741824)) fun i j => .int (i / j)
abbrev oMod : O2 := oIc (fun i j => decide (0 < j)) fun i j => .int (i % j)
abbrev oPow : O2 := oIc (fun i j => decide (0 ≤ j ∧ j ≤ 1000000 ∧ i.natAbs < 2 ^ 64)) fun i j => .int (i ^ j.toNat)
def oNeg : O1 := fun d st => match d with
  | .int i => .ok (.int (-i)) st
  | _ => .stuck
section
variable {X : Cx} {T : List (Addr × Str)} {E : XK} {a b c : Expr} {fa fb fc : LE} {pos : Pos}
theorem x_sub (ha : PEf X T E a fa) (hb : PEf X T E b fb) : PEf X T E (.BinOp a .Sub b pos) (fOp oSub fa fb) := x_op op_sub (sim_I0 fun _ _ _ => .int _) ha hb
theorem x_mulI (ha : PEf X T E a fa) (hb : PEf X T E b fb) : PEf X T E (.BinOp a .Mult b pos) (fOp oMulI fa fb) := x_op op_mul (sim_I (fun i j h => by unfold cMul at h; have h2 := of_decide_eq_true h; exact h2) fun _ _ _ => .int _) ha hb
theorem x_div (ha : PEf X T E a fa) (hb : PEf X T E b fb) : PEf X T E (.BinOp a .FloorDiv b pos) (fOp oDiv fa fb) := x_op op_fdiv (sim_I (fun i j h => by have h2 := of_decide_eq_true h; exact h2) fun _ _ _ => .int _) ha hb
theorem x_mod (ha : PEf X T E a fa) (hb : PEf X T E b fb) : PEf X T E (.BinOp a .Mod b pos) (fOp oMod fa fb) := x_op op_mod (sim_I (fun i j h => by have h2 := of_decide_eq_true h; exact h2) fun _ _ _ => .int _) ha hb
theorem x_pow (ha : PEf X T E a fa) (hb : PEf X T E b fb) : PEf X T E (.BinOp a .Pow b pos) (fOp oPow fa fb) := x_op op_pow (sim_I (fun i j h => by have h2 := of_decide_eq_true h; exact h2) fun _ _ _ => .int _) ha hb
theorem x_neg (ha : PEf X T E a fa) : PEf X T E (.UnaryOp .USub a pos) (fUn oNeg fa) := x_un un_neg (fun E w H st x d Q r dx p => by
  cases dx with
  | int i => exact ⟨i, rfl, p.here r (.int _)⟩
  | _ => exact p.elim) ha
theorem x_lt (ha : PEf X T E a fa) (hb : PEf X T E b fb) : PEf X T E (.Compare a [.Lt] [b] pos) (fOp oLt fa fb) := x_cmp op_lt (sim_I0 fun _ _ _ => .bl _) ha hb
theorem x_le (ha : PEf X T E a fa) (hb : PEf X T E b fb) : PEf X T E (.Compare a [.LtE] [b] pos) (fOp oLe fa fb) := x_cmp op_le (sim_I0 fun _ _ _ => .bl _) ha hb
theorem x_gt (ha : PEf X T E a fa) (hb : PEf X T E b fb) : PEf X T E (.Compare a [.Gt] [b] pos) (fOp oGt fa fb) := x_cmp op_gt (sim_I0 fun _ _ _ => .bl _) ha hb
theorem x_ge (ha : PEf X T E a fa) (hb : PEf X T E b fb) : PEf X T E (.Compare a [.GtE] [b] pos) (fOp oGe fa fb) := x_cmp op_ge (sim_I0 fun _ _ _ => .bl _) ha hb
theorem x_tlt (ha : PEf X T E a fa) (hb : PEf X T E b fb) : PTf X T E (.Compare a [.Lt] [b] pos) (fTest (fOp oLt fa fb)) := x_tcmp op_lt (sim_I0 fun _ _ _ => .bl _) ha hb
theorem x_tle (ha : PEf X T E a fa) (hb : PEf X T E b fb) : PTf X T E (.Compare a [.LtE] [b] pos) (fTest (fOp oLe fa fb)) := x_tcmp op_le (sim_I0 fun _ _ _ => .bl _) ha hb
theorem x_tgt (ha : PEf X T E a fa) (hb : PEf X T E b fb) : PTf X T E (.Compare a [.Gt] [b] pos) (fTest (fOp oGt fa fb)) := x_tcmp op_gt (sim_I0 fun _ _ _ => .bl _) ha hb
theorem x_tge (ha : PEf X T E a fa) (hb : PEf X T E b fb) : PTf X T E (.Compare a [.GtE] [b] pos) (fTest (fOp oGe fa fb)) := x_tcmp op_ge (sim_I0 fun _ _ _ => .bl _) ha hb
/-- a <= b < c, by values -/
def fChain (o o' : O2) (fa fb fc : LE) : LE := fun env st => (fa env st).bind fun d st1 => (fb env st1).bind fun e st2 => (o d e st2).bind fun z st3 => match z with
  | .bl true => (fc env st3).bind fun f st4 => o' e f st4
  | .bl false => .ok (.bl false) st3
  | _ => .stuck
theorem sim_chain {K : PySem.W.Frag} {r r' : R2} {o o' : O2} (h : SimR2 K T r o) (h' : SimR2 K T r' o') : Sim K T E Dat (tChain r r' (tOf K T E Dat fa) (tOf K T E Dat fb) (tOf K T E Dat fc)) (fChain o o' fa fb fc) := fun w σ H env st Q e0 r0 p => by
  refine ⟨w, env, st, e0, r0, p.bind fun w1 x H1 d st1 s1 r1 dx p1 => ?_⟩
  refine ⟨w1, env, st1, e0.mono s1.le, r1, p1.bind fun w2 y H2 e st2 s2 r2 dy p2 => ?_⟩
  refine h E w2 H2 st2 x y d e _ r2 (dx.mono s2.le) dy (p2.bind fun w3 z H3 q st3 s3 r3 dz p3 => ?_)
  cases dz with
  | bl k =>
    refine ⟨k, rfl, ?_⟩
    cases k with
    | true =>
      rw [if_pos rfl]
      refine ⟨w3, env, st3, ((e0.mono s1.le).mono s2.le).mono s3.le, r3, p3.bind fun w4 u H4 f st4 s4 r4 du p4 => ?_⟩
      exact h' E w4 H4 st4 y u e f Q r4 ((dy.mono s3.le).mono s4.le) du p4
    | false =>
      rw [if_neg Bool.false_ne_true]
      exact p3.here r3 (.bl false)
  | _ => exact p3.elim
theorem x_chain {op op' : CmpOp} {r r' : R2} {o o' : O2} (ho : OpR X (compareOp op) r) (ho' : OpR X (compareOp op') r') (h : SimR2 X.K T r o) (h' : SimR2 X.K T r' o') (ha : PEf X T E a fa) (hb : PEf X T E b fb) (hc : PEf X T E c fc)
    (hm : lastMarks [op, op'] [b, c] = false := by with_unfolding_all rfl) : PEf X T E (.Compare a [op, op'] [b, c] pos) (fChain o o' fa fb fc) := pe_to (pe_chain ho ho' ha hb hc hm) (sim_chain h h')
theorem x_tchain {op op' : CmpOp} {r r' : R2} {o o' : O2} (ho : OpR X (compareOp op) r) (ho' : OpR X (compareOp op') r') (h : SimR2 X.K T r o) (h' : SimR2 X.K T r' o') (ha : PEf X T E a fa) (hb : PEf X T E b fb) (hc : PEf X T E c fc)
    (hm : lastMarks [op, op'] [b, c] = false := by with_unfolding_all rfl) : PTf X T E (.Compare a [op, op'] [b, c] pos) (fTest (fChain o o' fa fb fc)) := by
  refine pt_to (pt_chain ho ho' ha hb hc hm) fun w σ H env st Q e r p => ?_
  exact sim_chain (E := E) h h' w σ H env st _ e r (p.bind fun w1 x H1 d st1 s1 r1 dx p1 => by
    cases dx with
    | bl b => exact ⟨b, rfl, p1.here r1 rfl⟩
    | _ => exact p1.elim)
theorem sim_lt {K : PySem.W.Frag} : SimR2 K T (rI0 fun i j => .bl (decide (i < j))) oLt := sim_I0 fun _ _ _ => .bl _
theorem sim_le {K : PySem.W.Frag} : SimR2 K T (rI0 fun i j => .bl (decide (i ≤ j))) oLe := sim_I0 fun _ _ _ => .bl _
end
end Fk
/-! FkC: +, *, ==, in, items, slices, displays, arguments, built-in calls. -/
namespace Fk
open PySem PySem.Spec PyProof.Rows L2
/-! ### + and * of any kind -/
def oAdd : O2 := fun d e st => match d, e with
  | .int i, .int j => .ok (.int (i + j)) st
  | .str a, .str b => if a.length + b.length ≤ lim then .ok (.str (a ++ b)) st else .stuck
  | .tup a, .tup b => if a.length + b.length ≤ lim then .ok (.tup (a ++ b)) st else .stuck
  | d, e => (match lstOf d st, lstOf e st with
    | some a, some b => if a.length + b.length ≤ lim then .ok (.lst (a ++ b)) st else .stuck
    | _, _ => .stuck)
abbrev rStrAdd : R2 := fun x y H Q => ∃ i j, x = .str i ∧ y = .str j ∧ i.length + j.length ≤ sizeLine ∧ Q (.str (i ++ j)) H
abbrev rAddAny (K : PySem.W.Frag) : R2 := fun x y H Q => (rI0 fun i j => .int (i + j)) x y H Q ∨ (fun x y H Q => rStrAdd x y H Q ∨ (fun x y H Q => rCatA K x y H Q ∨ rCat x y H Q) x y H Q) x y H Q
theorem op_addAny {X : Cx} : OpR X (binaryOp .Add) (rAddAny X.K) := op_add.or (op_add_str.or (op_catA.or op_cat))
section
variable {K : PySem.W.Frag} {T : List (Addr × Str)}
theorem sim_cat {E : XK} {w : Wd} {H : Hp} {st : Store} {x y : V} {d e : D} {Q : VK} (r : Rel K T w H st) (dx : Dat w x d) (dy : Dat w y e)
    (p : Post K T E Dat w H (match lstOf d st, lstOf e st with | some a, some b => if a.length + b.length ≤ lim then .ok (.lst (a ++ b)) st else .stuck | _, _ => .stuck) Q) : rCat x y H Q := by
  cases h1 : lstOf d st with
  | none => rw [h1] at p; exact p.elim
  | some a =>
    cases h2 : lstOf e st with
    | none => rw [h1, h2] at p; exact p.elim
    | some b =>
      rw [h1, h2] at p
      have p' : Post K T E Dat w H (if a.length + b.length ≤ lim then .ok (.lst (a ++ b)) st else .stuck) Q := p
      by_cases q : a.length + b.length ≤ lim
      · rw [if_pos q] at p'
        obtain ⟨l1, v1, e1, g1, k1⟩ := lst_at r dx h1
        obtain ⟨l2, v2, e2, g2, k2⟩ := lst_at r dy h2
        exact ⟨l1, l2, v1, v2, e1, e2, g1, g2, by rw [k1.length, k2.length, lim_eq]; exact q, p'.newL r (k1.append k2)⟩
      · rw [if_neg q] at p'
        exact p'.elim
theorem sim_catA {E : XK} {w : Wd} {H : Hp} {st : Store} {x y : V} {a b : List D} {Q : VK} (r : Rel K T w H st) (dx : Dat w x (.tup a)) (dy : Dat w y (.tup b))
    (p : Post K T E Dat w H (if a.length + b.length ≤ lim then .ok (.tup (a ++ b)) st else .stuck) Q) : rCatA K x y H Q := by
  by_cases q : a.length + b.length ≤ lim
  · rw [if_pos q] at p
    obtain ⟨l1, v1, e1, g1, k1⟩ := Dat.tup_at r dx
    obtain ⟨l2, v2, e2, g2, k2⟩ := Dat.tup_at r dy
    refine ⟨l1, l2, v1, v2, e1, e2, SqT.of g1, SqT.of g2, by rw [k1.length, k2.length, lim_eq]; exact q, fun h => ?_, fun _ h => ?_, fun _ _ => p.newT r (k1.append k2)⟩
    · subst h
      have ha : a = [] := k1.nil_of
      subst ha
      rw [← e2]
      exact p.here r dy
    · subst h
      have hb : b = [] := k2.nil_of
      subst hb
      rw [← e1]
      rw [List.append_nil] at p
      exact p.here r dx
  · rw [if_neg q] at p
    exact p.elim
theorem sim_addAny : SimR2 K T (rAddAny K) oAdd := fun E w H st x y d e Q r dx dy p => by
  cases dx with
  | int i =>
    cases dy with
    | int j => exact .inl ⟨i, j, rfl, rfl, p.here r (.int _)⟩
    | _ => exact .inr (.inr (.inr (sim_cat r (.int i) (by first | exact .non | exact .bl _ | exact .str _ | (rename_i h1 h2; exact .tup h1 h2) | (rename_i h1 h2; exact .lst h1 h2) | (rename_i h1 h2; exact .lck h1 h2) | (rename_i h1; exact .ref h1)) p)))
  | str i =>
    cases dy with
    | str j =>
      have p' : Post K T E Dat w H (if i.length + j.length ≤ lim then .ok (.str (i ++ j)) st else .stuck) Q := p
      by_cases q : i.length + j.length ≤ lim
      · rw [if_pos q] at p'
        exact .inr (.inl ⟨i, j, rfl, rfl, by rw [lim_eq]; exact q, p'.here r (.str _)⟩)
      · rw [if_neg q] at p'
        exact p'.elim
    | _ => exact .inr (.inr (.inr (sim_cat r (.str i) (by first | exact .non | exact .bl _ | exact .int _ | (rename_i h1 h2; exact .tup h1 h2) | (rename_i h1 h2; exact .lst h1 h2) | (rename_i h1 h2; exact .lck h1 h2) | (rename_i h1; exact .ref h1)) p)))
  | tup hF hd =>
    cases dy with
    | tup gF gd => exact .inr (.inr (.inl (sim_catA r (.tup hF hd) (.tup gF gd) p)))
    | _ => exact .inr (.inr (.inr (sim_cat r (.tup hF hd) (by first | exact .non | exact .bl _ | exact .int _ | exact .str _ | (rename_i h1 h2; exact .lst h1 h2) | (rename_i h1 h2; exact .lck h1 h2) | (rename_i h1; exact .ref h1)) p)))
  | non => exact .inr (.inr (.inr (sim_cat r .non dy p)))
  | bl b => exact .inr (.inr (.inr (sim_cat r (.bl b) dy p)))
  | lst hF hd => exact .inr (.inr (.inr (sim_cat r (.lst hF hd) dy p)))
  | lck hF hd => exact .inr (.inr (.inr (sim_cat r (.lck hF hd) dy p)))
  | ref h => exact .inr (.inr (.inr (sim_cat r (.ref h) dy p)))
end
/-- * of ints; of a tuple and an int (two or more) -/
def oMul : O2 := fun d e st => match d, e with
  | .int i, .int j => if cMul i j = true then .ok (.int (i * j)) st else .stuck
  | .tup a, .int k => if a ≠ [] ∧ 2 ≤ k ∧ k ≤ 1000 ∧ a.length ≤ 1000 then .ok (.tup (List.replicate k.toNat a).flatten) st else .stuck
  | _, _ => .stuck
theorem Dats.rep {w : Wd} {vs : List V} {ds : List D} (h : Dats w vs ds) : ∀ k : Nat, Dats w (List.replicate k vs).flatten (List.replicate k ds).flatten
  | 0 => .nil
  | k + 1 => by
    rw [List.replicate_succ, List.replicate_succ, List.flatten_cons, List.flatten_cons]
    exact h.append (Dats.rep h k)
theorem sim_mul {K : PySem.W.Frag} {T : List (Addr × Str)} : SimR2 K T (fun x y H Q => (rI CMul fun i j => .int (i * j)) x y H Q ∨ rRepT K x y H Q) oMul := fun E w H st x y d e Q r dx dy p => by
  cases dx with
  | int i =>
    cases dy with
    | int j =>
      have p' : Post K T E Dat w H (if cMul i j = true then .ok (.int (i * j)) st else .stuck) Q := p
      by_cases q : cMul i j = true
      · rw [if_pos q] at p'
        refine .inl ⟨i, j, rfl, rfl, ?_, p'.here r (.int _)⟩
        unfold cMul at q
        have h2 := of_decide_eq_true q
        exact h2
      · rw [if_neg q] at p'
        exact p'.elim
    | _ => exact p.elim
  | @tup a vs ds hF hd =>
    cases dy with
    | int k =>
      have p' : Post K T E Dat w H (if ds ≠ [] ∧ 2 ≤ k ∧ k ≤ 1000 ∧ ds.length ≤ 1000 then .ok (.tup (List.replicate k.toNat ds).flatten) st else .stuck) Q := p
      by_cases q : ds ≠ [] ∧ 2 ≤ k ∧ k ≤ 1000 ∧ ds.length ≤ 1000
      · rw [if_pos q] at p'
        refine .inr ⟨a, k, vs, rfl, rfl, SqT.of (r.fr _ _ hF), fun z => ?_, q.2.1, q.2.2.1, by rw [hd.length]; exact q.2.2.2, p'.newT r (hd.rep _)⟩
        subst z
        exact q.1 hd.nil_of
      · rw [if_neg q] at p'
        exact p'.elim
    | _ => exact p.elim
  | _ => exact p.elim
section
variable {X : Cx} {T : List (Addr × Str)} {E : XK} {a b c : Expr} {fa fb fc : LE} {pos : Pos} {K : PySem.W.Frag}
theorem x_add (ha : PEf X T E a fa) (hb : PEf X T E b fb) : PEf X T E (.BinOp a .Add b pos) (fOp oAdd fa fb) := x_op op_addAny sim_addAny ha hb
theorem x_mul (ha : PEf X T E a fa) (hb : PEf X T E b fb) : PEf X T E (.BinOp a .Mult b pos) (fOp oMul fa fb) := x_op (op_mul.or op_repT) sim_mul ha hb
/-! ### is None -/
def oIsN : O1 := fun d st => match d with
  | .non => .ok (.bl true) st
  | _ => .ok (.bl false) st
def oNotN : O1 := fun d st => match d with
  | .non => .ok (.bl false) st
  | _ => .ok (.bl true) st
theorem sim_isN {E : XK} {w : Wd} {H : Hp} {st : Store} {x : V} {d : D} {Q : VK} (r : Rel K T w H st) (dx : Dat w x d) (p : Post K T E Dat w H (oIsN d st) Q) : Q (.bl (decide (x = .non))) H := by
  cases dx with
  | non => exact p.here r (.bl true)
  | bl b => rw [decide_eq_false (by simp)]; exact p.here r (.bl false)
  | int b => rw [decide_eq_false (by simp)]; exact p.here r (.bl false)
  | str b => rw [decide_eq_false (by simp)]; exact p.here r (.bl false)
  | tup h1 h2 => rw [decide_eq_false (by simp)]; exact p.here r (.bl false)
  | lst h1 h2 => rw [decide_eq_false (by simp)]; exact p.here r (.bl false)
  | lck h1 h2 => rw [decide_eq_false (by simp)]; exact p.here r (.bl false)
  | ref h1 => rw [decide_eq_false (by simp)]; exact p.here r (.bl false)
theorem sim_notN {E : XK} {w : Wd} {H : Hp} {st : Store} {x : V} {d : D} {Q : VK} (r : Rel K T w H st) (dx : Dat w x d) (p : Post K T E Dat w H (oNotN d st) Q) : Q (.bl (!decide (x = .non))) H := by
  cases dx with
  | non => exact p.here r (.bl false)
  | bl b => rw [decide_eq_false (by simp)]; exact p.here r (.bl true)
  | int b => rw [decide_eq_false (by simp)]; exact p.here r (.bl true)
  | str b => rw [decide_eq_false (by simp)]; exact p.here r (.bl true)
  | tup h1 h2 => rw [decide_eq_false (by simp)]; exact p.here r (.bl true)
  | lst h1 h2 => rw [decide_eq_false (by simp)]; exact p.here r (.bl true)
  | lck h1 h2 => rw [decide_eq_false (by simp)]; exact p.here r (.bl true)
  | ref h1 => rw [decide_eq_false (by simp)]; exact p.here r (.bl true)
theorem x_isN {j pos'} (ha : PEf X T E a fa) : PEf X T E (.Compare a [.Is] [.Constant .none j pos'] pos) (fUn oIsN fa) := pe_to (pe_cmp (pc_isN ha)) fun w σ H env st Q e r p =>
  ⟨w, env, st, e, r, p.bind fun w1 x H1 d st1 s1 r1 dx p1 => sim_isN r1 dx p1⟩
theorem x_notN {j pos'} (ha : PEf X T E a fa) : PEf X T E (.Compare a [.IsNot] [.Constant .none j pos'] pos) (fUn oNotN fa) := pe_to (pe_cmp (pc_notN ha)) fun w σ H env st Q e r p =>
  ⟨w, env, st, e, r, p.bind fun w1 x H1 d st1 s1 r1 dx p1 => sim_notN r1 dx p1⟩
theorem sim_isN' : Sim K T E Dat (tIsN (tOf K T E Dat fa)) (fUn oIsN fa) := fun w σ H env st Q e r p => ⟨w, env, st, e, r, p.bind fun w1 x H1 d st1 s1 r1 dx p1 => sim_isN r1 dx p1⟩
theorem sim_notN' : Sim K T E Dat (tNotN (tOf K T E Dat fa)) (fUn oNotN fa) := fun w σ H env st Q e r p => ⟨w, env, st, e, r, p.bind fun w1 x H1 d st1 s1 r1 dx p1 => sim_notN r1 dx p1⟩
theorem sim_tB {te : TE} {f : LE} (h : Sim K T E Dat te f) : Sim K T E eqB (tB te) (fTest f) := fun w σ H env st Q e r p => h w σ H env st _ e r (p.bind fun w1 x H1 d st1 s1 r1 dx p1 => by
  cases dx with
  | bl b => exact ⟨b, rfl, p1.here r1 rfl⟩
  | _ => exact p1.elim)
theorem x_tisN {j pos'} (ha : PEf X T E a fa) : PTf X T E (.Compare a [.Is] [.Constant .none j pos'] pos) (fTest (fUn oIsN fa)) := pt_to (pt_cmp (pc_isN ha)) (sim_tB sim_isN')
theorem x_tnotN {j pos'} (ha : PEf X T E a fa) : PTf X T E (.Compare a [.IsNot] [.Constant .none j pos'] pos) (fTest (fUn oNotN fa)) := pt_to (pt_cmp (pc_notN ha)) (sim_tB sim_notN')
end
/-! ### == -/
mutual
def D.py : D → Option PyData
  | .non => some .none
  | .bl b => some (.bool b)
  | .int i => some (.int i)
  | .str s => some (.str s)
  | .tup xs => (D.pys xs).map PyData.tuple
  | .lst xs => (D.pys xs).map PyData.list
  | .lck xs => (D.pys xs).map PyData.list
  | .ref _ => none
def D.pys : List D → Option (List PyData)
  | [] => some []
  | x :: xs => (match D.py x, D.pys xs with
    | some a, some b => some (a :: b)
    | _, _ => none)
end
/-- a cell that is a list, as it stands -/
def topOf (d : D) (st : Store) : D := match d with
  | .ref k => (match st[k]? with
    | some (.lst xs) => .lst xs
    | _ => .ref k)
  | d => d
section
variable {K : PySem.W.Frag} {T : List (Addr × Str)} {w : Wd} {H : Hp} {st : Store}
mutual
theorem Dat.dp (r : Rel K T w H st) : ∀ {v : V} {d : D} {y : PyData}, Dat w v d → D.py d = some y → Dp K H v y
  | _, _, _, .non, e => by
    cases (show some PyData.none = some _ from e)
    exact .non
  | _, _, _, .bl b, e => by
    cases (show some (PyData.bool b) = some _ from e)
    exact .bl b
  | _, _, _, .int b, e => by
    cases (show some (PyData.int b) = some _ from e)
    exact .int b
  | _, _, _, .str b, e => by
    cases (show some (PyData.str b) = some _ from e)
    exact .str b
  | _, .tup ds, y, .tup h k, e => by
    have e' : (D.pys ds).map PyData.tuple = some y := by rw [← e, D.py]
    cases q : D.pys ds with
    | none => rw [q] at e'; cases e'
    | some zs =>
      rw [q] at e'
      cases (show some (PyData.tuple zs) = some _ from e')
      exact .tup (SqT.of (r.fr _ _ h)) (Dats.dp r k q)
  | _, .lst ds, y, .lst h k, e => by
    have e' : (D.pys ds).map PyData.list = some y := by rw [← e, D.py]
    cases q : D.pys ds with
    | none => rw [q] at e'; cases e'
    | some zs =>
      rw [q] at e'
      cases (show some (PyData.list zs) = some _ from e')
      exact .lst (SqL.of (r.fr _ _ h)) (Dats.dp r k q)
  | _, .lck ds, y, .lck h k, e => by
    have e' : (D.pys ds).map PyData.list = some y := by rw [← e, D.py]
    cases q : D.pys ds with
    | none => rw [q] at e'; cases e'
    | some zs =>
      rw [q] at e'
      cases (show some (PyData.list zs) = some _ from e')
      exact .lst (r.sc h) (Dats.dp r k q)
  | _, .ref k, y, .ref h, e => by
    rw [D.py] at e
    cases e
theorem Dats.dp (r : Rel K T w H st) : ∀ {vs : List V} {ds : List D} {ys : List PyData}, Dats w vs ds → D.pys ds = some ys → DpAll K H vs ys
  | _, _, _, .nil, e => by
    rw [D.pys] at e
    cases e
    exact .nil
  | _, d :: ds, ys, .cons h k, e => by
    rw [D.pys] at e
    cases q1 : D.py d with
    | none => rw [q1] at e; cases e
    | some a =>
      cases q2 : D.pys ds with
      | none => rw [q1, q2] at e; cases e
      | some b =>
        rw [q1, q2] at e
        cases e
        exact .cons (Dat.dp r h q1) (Dats.dp r k q2)
end
theorem top_dp {v : V} {d : D} {y : PyData} (r : Rel K T w H st) (h : Dat w v d) (e : D.py (topOf d st) = some y) : Dp K H v y := by
  cases h with
  | @ref p k ha =>
    have e0 : topOf (.ref k) st = (match st[k]? with | some (.lst xs) => .lst xs | _ => .ref k) := rfl
    rw [e0] at e
    cases q : st[k]? with
    | none => rw [q] at e; rw [D.py] at e; cases e
    | some c =>
      rw [q] at e
      cases c with
      | lst xs =>
        obtain ⟨p', a', _, vs, hH, hv⟩ := r.addr q
        rw [ha] at a'
        cases a'
        have e' : (D.pys xs).map PyData.list = some y := by rw [← e, D.py]
        cases q2 : D.pys xs with
        | none => rw [q2] at e'; cases e'
        | some zs =>
          rw [q2] at e'
          cases (show some (PyData.list zs) = some _ from e')
          exact .lst (SqL.of hH) (Dats.dp r hv q2)
      | _ => rw [D.py] at e; cases e
  | non => exact Dat.dp r .non e
  | bl b => exact Dat.dp r (.bl b) e
  | int b => exact Dat.dp r (.int b) e
  | str b => exact Dat.dp r (.str b) e
  | tup h1 h2 => exact Dat.dp r (.tup h1 h2) e
  | lst h1 h2 => exact Dat.dp r (.lst h1 h2) e
  | lck h1 h2 => exact Dat.dp r (.lck h1 h2) e
end
/-- two data, read -/
def py2 (d e : D) (st : Store) (g : PyData → PyData → Res D) : Res D := match D.py (topOf d st), D.py (topOf e st) with
  | some a, some b => if SeqAt.shaped a = true ∧ SeqAt.shaped b = true then g a b else .stuck
  | _, _ => .stuck
def oEq : O2 := fun d e st => py2 d e st fun a b => .ok (.bl (PyData.eqv a b)) st
def oNe : O2 := fun d e st => py2 d e st fun a b => .ok (.bl (!PyData.eqv a b)) st
section
variable {K : PySem.W.Frag} {T : List (Addr × Str)} {w : Wd} {H : Hp} {st : Store} {E : XK}
theorem py2_at {x y : V} {d e : D} {g : PyData → PyData → Res D} {Q : VK} (r : Rel K T w H st) (dx : Dat w x d) (dy : Dat w y e) (p : Post K T E Dat w H (py2 d e st g) Q) :
    ∃ a b, Dp K H x a ∧ Dp K H y b ∧ SeqAt.shaped a = true ∧ SeqAt.shaped b = true ∧ Post K T E Dat w H (g a b) Q := by
  unfold py2 at p
  cases q1 : D.py (topOf d st) with
  | none => rw [q1] at p; exact p.elim
  | some a =>
    cases q2 : D.py (topOf e st) with
    | none => rw [q1, q2] at p; exact p.elim
    | some b =>
      rw [q1, q2] at p
      have p' : Post K T E Dat w H (if SeqAt.shaped a = true ∧ SeqAt.shaped b = true then g a b else .stuck) Q := p
      by_cases c : SeqAt.shaped a = true ∧ SeqAt.shaped b = true
      · rw [if_pos c] at p'
        exact ⟨a, b, top_dp r dx q1, top_dp r dy q2, c.1, c.2, p'⟩
      · rw [if_neg c] at p'
        exact p'.elim
theorem sim_eq : SimR2 K T (rEqD K) oEq := fun E w H st x y d e Q r dx dy p => by
  obtain ⟨a, b, h1, h2, s1, s2, p'⟩ := py2_at r dx dy p
  exact ⟨a, b, h1, h2, s1, s2, p'.here r (.bl _)⟩
theorem sim_ne : SimR2 K T (rNeD K) oNe := fun E w H st x y d e Q r dx dy p => by
  obtain ⟨a, b, h1, h2, s1, s2, p'⟩ := py2_at r dx dy p
  exact ⟨a, b, h1, h2, s1, s2, p'.here r (.bl _)⟩
end
/-! ### in -/
def flatD : D → Bool
  | .non => true
  | .bl _ => true
  | .int _ => true
  | .str _ => true
  | _ => false
def eqFlat : D → D → Bool
  | .non, .non => true
  | .bl a, .bl b => a == b
  | .bl a, .int b => (if a then 1 else 0) == b
  | .int a, .bl b => a == (if b then 1 else 0)
  | .int a, .int b => a == b
  | .str a, .str b => a == b
  | _, _ => false
def oIn (neg : Bool) : O2 := fun d e st => match e with
  | .tup ds => if flatD d = true ∧ ds.all flatD = true then .ok (.bl (if neg then !(ds.any fun z => eqFlat z d) else (ds.any fun z => eqFlat z d))) st else .stuck
  | .str t => (match d with
    | .str s => .ok (.bl (if neg then !(!(Builtin.Str.occurrences t s 0 t.length 1).isEmpty) else !(Builtin.Str.occurrences t s 0 t.length 1).isEmpty)) st
    | _ => .stuck)
  | e => (match topOf e st with
    | .lst ds => py2 d (.lst ds) st fun a b => (match b with
      | .list bs => .ok (.bl (if neg then !(bs.any fun z => PyData.eqv z a) else bs.any fun z => PyData.eqv z a)) st
      | _ => .stuck)
    | _ => .stuck)
section
variable {K : PySem.W.Frag} {T : List (Addr × Str)} {w : Wd} {H : Hp} {st : Store} {E : XK}
theorem flat_D {v : V} {d : D} (h : Dat w v d) (f : flatD d = true) : flatV v = true := by
  cases h <;> first | rfl | cases f
theorem flat_Ds : ∀ {vs : List V} {ds : List D}, Dats w vs ds → ds.all flatD = true → vs.all flatV = true
  | _, _, .nil, _ => rfl
  | _, _, .cons h r, f => by
    rw [List.all_cons, Bool.and_eq_true] at f ⊢
    exact ⟨flat_D h f.1, flat_Ds r f.2⟩
theorem eqFlat_V {v u : V} {d e : D} (h : Dat w v d) (k : Dat w u e) (f : flatD d = true) (g : flatD e = true) : eqV v u = eqFlat d e := by
  cases h <;> cases k <;> first | rfl | cases f | cases g
theorem any_flat {u : V} {e : D} (k : Dat w u e) (g : flatD e = true) : ∀ {vs : List V} {ds : List D}, Dats w vs ds → ds.all flatD = true → (vs.any fun y => eqV y u) = ds.any fun z => eqFlat z e
  | _, _, .nil, _ => rfl
  | _, _, .cons h r, f => by
    rw [List.all_cons, Bool.and_eq_true] at f
    rw [List.any_cons, List.any_cons, eqFlat_V h k f.1 g, any_flat k g r f.2]
abbrev rInStr (neg : Bool) : R2 := fun x y H Q => ∃ i j, x = .str i ∧ y = .str j ∧ Q (.bl (if neg then !(!(Builtin.Str.occurrences j i 0 j.length 1).isEmpty) else !(Builtin.Str.occurrences j i 0 j.length 1).isEmpty)) H
theorem dp_list {a : Addr} {ds : List PyData} (h : Dp K H (.ref a) (.list ds)) : Dp K H (.ref a) (.list ds) := h
theorem sim_in {neg : Bool} {rD : R2} (hD : ∀ x y H Q, (∃ d ds, Dp K H x d ∧ Dp K H y (.list ds) ∧ SeqAt.shaped d = true ∧ SeqAt.shaped (.list ds) = true ∧ Q (.bl (if neg then !(ds.any fun z => PyData.eqv z d) else ds.any fun z => PyData.eqv z d)) H) → rD x y H Q) :
    SimR2 K T (fun x y H Q => rIn K neg x y H Q ∨ (fun x y H Q => rInStr neg x y H Q ∨ rD x y H Q) x y H Q) (oIn neg) := fun E w H st x y d e Q r dx dy p => by
  have lists : ∀ ds, topOf e st = .lst ds → Post K T E Dat w H (py2 d (.lst ds) st fun a b => (match b with
      | .list bs => .ok (.bl (if neg then !(bs.any fun z => PyData.eqv z a) else bs.any fun z => PyData.eqv z a)) st
      | _ => .stuck)) Q → rD x y H Q := fun ds he p => by
    unfold py2 at p
    have e0 : topOf (.lst ds) st = topOf e st := by rw [he]; rfl
    rw [e0] at p
    obtain ⟨a, b, h1, h2, s1, s2, p'⟩ := py2_at (e := e) r dx dy p
    cases h2 with
    | lst hq ha => exact hD _ _ _ _ ⟨a, _, h1, .lst hq ha, s1, s2, p'.here r (.bl _)⟩
    | _ => exact p'.elim
  cases dy with
  | @tup q vs ds hF hd =>
    have p' : Post K T E Dat w H (if flatD d = true ∧ ds.all flatD = true then .ok (.bl (if neg then !(ds.any fun z => eqFlat z d) else (ds.any fun z => eqFlat z d))) st else .stuck) Q := p
    by_cases c : flatD d = true ∧ ds.all flatD = true
    · rw [if_pos c] at p'
      refine .inl ⟨q, vs, rfl, .inr (SqT.of (r.fr _ _ hF)), flat_D dx c.1, flat_Ds hd c.2, ?_⟩
      have z := any_flat dx c.1 hd c.2
      have z2 : inV x vs = ds.any fun z => eqFlat z d := z
      rw [z2]
      exact p'.here r (.bl _)
    · rw [if_neg c] at p'
      exact p'.elim
  | str t =>
    cases dx with
    | str s => exact .inr (.inl ⟨s, t, rfl, rfl, p.here r (.bl _)⟩)
    | _ => exact p.elim
  | @lst q vs ds hF hd => exact .inr (.inr (lists ds rfl p))
  | @ref q k ha =>
    have p' : Post K T E Dat w H (match topOf (.ref k) st with
      | .lst ds => py2 d (.lst ds) st fun a b => (match b with
        | .list bs => .ok (.bl (if neg then !(bs.any fun z => PyData.eqv z a) else bs.any fun z => PyData.eqv z a)) st
        | _ => .stuck)
      | _ => .stuck) Q := p
    cases h : topOf (.ref k) st with
    | lst ds =>
      rw [h] at p'
      exact .inr (.inr (lists ds h p'))
    | _ => rw [h] at p'; exact p'.elim
  | _ => exact p.elim
end
section
variable {X : Cx} {T : List (Addr × Str)} {E : XK} {a b c : Expr} {fa fb fc : LE} {pos : Pos} {k : Nat}
theorem x_eq (hr : Room k X.A) (ha : PEf X T E a fa) (hb : PEf X T E b fb) : PEf X T E (.Compare a [.Eq] [b] pos) (fOp oEq fa fb) := x_cmp (op_eqD hr.units) sim_eq ha hb
theorem x_ne (hr : Room k X.A) (ha : PEf X T E a fa) (hb : PEf X T E b fb) : PEf X T E (.Compare a [.NotEq] [b] pos) (fOp oNe fa fb) := x_cmp (op_neD hr.units) sim_ne ha hb
theorem x_teq (hr : Room k X.A) (ha : PEf X T E a fa) (hb : PEf X T E b fb) : PTf X T E (.Compare a [.Eq] [b] pos) (fTest (fOp oEq fa fb)) := x_tcmp (op_eqD hr.units) sim_eq ha hb
theorem x_tne (hr : Room k X.A) (ha : PEf X T E a fa) (hb : PEf X T E b fb) : PTf X T E (.Compare a [.NotEq] [b] pos) (fTest (fOp oNe fa fb)) := x_tcmp (op_neD hr.units) sim_ne ha hb
theorem hu65 (hr : Room k X.A) : X.A.units + 65 < cLine := by
  have := hr.un
  omega
theorem op_inAny (hr : Room k X.A) : OpR X (compareOp .In) (fun x y H Q => rIn X.K false x y H Q ∨ (fun x y H Q => rInStr false x y H Q ∨ rInD X.K x y H Q) x y H Q) := op_in_seq.or (op_in_str.or (op_inD (hu65 hr)))
theorem op_notInAny (hr : Room k X.A) : OpR X (compareOp .NotIn) (fun x y H Q => rIn X.K true x y H Q ∨ (fun x y H Q => rInStr true x y H Q ∨ rNotInD X.K x y H Q) x y H Q) := op_notIn_seq.or (op_notin_str.or (op_notInD (hu65 hr)))
theorem x_in (hr : Room k X.A) (ha : PEf X T E a fa) (hb : PEf X T E b fb) (hm : behindInMarks .In b = false := by rfl) : PEf X T E (.Compare a [.In] [b] pos) (fOp (oIn false) fa fb) := x_cmp (op_inAny hr) (sim_in fun _ _ _ _ h => h) ha hb hm
theorem x_notIn (hr : Room k X.A) (ha : PEf X T E a fa) (hb : PEf X T E b fb) (hm : behindInMarks .NotIn b = false := by rfl) : PEf X T E (.Compare a [.NotIn] [b] pos) (fOp (oIn true) fa fb) := x_cmp (op_notInAny hr) (sim_in fun _ _ _ _ h => h) ha hb hm
theorem x_tin (hr : Room k X.A) (ha : PEf X T E a fa) (hb : PEf X T E b fb) (hm : behindInMarks .In b = false := by rfl) : PTf X T E (.Compare a [.In] [b] pos) (fTest (fOp (oIn false) fa fb)) := x_tcmp (op_inAny hr) (sim_in fun _ _ _ _ h => h) ha hb hm
theorem x_tnotIn (hr : Room k X.A) (ha : PEf X T E a fa) (hb : PEf X T E b fb) (hm : behindInMarks .NotIn b = false := by rfl) : PTf X T E (.Compare a [.NotIn] [b] pos) (fTest (fOp (oIn true) fa fb)) := x_tcmp (op_notInAny hr) (sim_in fun _ _ _ _ h => h) ha hb hm
/-! ### items, slices -/
def oIx : O2 := fun d e st => match e with
  | .int i => (match d with
    | .tup ds => (match atI ds i with
      | some z => .ok z st
      | none => .stuck)
    | .str s => (match atI s.cps.toList i with
      | some c => if s.length ≤ lim then .ok (.str ⟨#[c]⟩) st else .stuck
      | none => .stuck)
    | d => (match rdOf d st with
      | some ds => (match atI ds i with
        | some z => .ok z st
        | none => .stuck)
      | none => .stuck))
  | _ => .stuck
theorem Dats.atI {w : Wd} {vs : List V} {ds : List D} {i : Int} {d : D} (h : Dats w vs ds) (e : atI ds i = some d) : ∃ v, L2.atI vs i = some v ∧ Dat w v d := by
  unfold L2.atI at e ⊢
  rw [h.length]
  cases q : ixN ds.length i with
  | none => rw [q] at e; cases e
  | some j =>
    rw [q] at e
    obtain ⟨v, h1, h2⟩ := h.get (show ds[j]? = some d from e)
    exact ⟨v, h1, h2⟩
theorem sim_ix {K : PySem.W.Frag} : SimR2 K T (rIx K) oIx := fun E w H st x y d e Q r dx dy p => by
  cases dy with
  | int i =>
    have lists : ∀ ds, rdOf d st = some ds → Post K T E Dat w H (match atI ds i with | some z => .ok z st | none => .stuck) Q → rIx K x (.int i) H Q := fun ds he p => by
      cases q : atI ds i with
      | none => rw [q] at p; exact p.elim
      | some z =>
        rw [q] at p
        obtain ⟨l, vs, e1, h1, h2⟩ := rd_at r dx he
        obtain ⟨v, h3, h4⟩ := h2.atI q
        exact .inl ⟨l, vs, i, v, e1, rfl, h1, h3, p.here r h4⟩
    have p0 : ∀ d', d = d' → Post K T E Dat w H (match rdOf d st with | some ds => (match atI ds i with | some z => .ok z st | none => .stuck) | none => .stuck) Q → rIx K x (.int i) H Q := fun d' _ p => by
      cases q : rdOf d st with
      | none => rw [q] at p; exact p.elim
      | some ds =>
        rw [q] at p
        exact lists ds q p
    cases dx with
    | @tup a vs ds hF hd =>
      have p' : Post K T E Dat w H (match atI ds i with | some z => .ok z st | none => .stuck) Q := p
      cases q : atI ds i with
      | none => rw [q] at p'; exact p'.elim
      | some z =>
        rw [q] at p'
        obtain ⟨v, h3, h4⟩ := hd.atI q
        exact .inr (.inl ⟨a, vs, i, v, rfl, rfl, SqT.of (r.fr _ _ hF), h3, p'.here r h4⟩)
    | str s =>
      have p' : Post K T E Dat w H (match atI s.cps.toList i with | some c => if s.length ≤ lim then .ok (.str ⟨#[c]⟩) st else .stuck | none => .stuck) Q := p
      cases q : atI s.cps.toList i with
      | none => rw [q] at p'; exact p'.elim
      | some c =>
        rw [q] at p'
        have p2 : Post K T E Dat w H (if s.length ≤ lim then .ok (.str ⟨#[c]⟩) st else .stuck) Q := p'
        by_cases z : s.length ≤ lim
        · rw [if_pos z] at p2
          exact .inr (.inr ⟨s, i, c, rfl, rfl, by rw [lim_eq]; exact z, q, p2.here r (.str _)⟩)
        · rw [if_neg z] at p2
          exact p2.elim
    | non => exact p0 _ rfl p
    | bl b => exact p0 _ rfl p
    | int b => exact p0 _ rfl p
    | lst h1 h2 => exact p0 _ rfl p
    | lck h1 h2 => exact p0 _ rfl p
    | ref h1 => exact p0 _ rfl p
  | _ => exact p.elim
theorem x_ix (ha : PEf X T E a fa) (hb : PEf X T E b fb) (hs : PlainIx b := by exact fun _ _ => rfl) : PEf X T E (.Subscript a b pos) (fOp oIx fa fb) := pe_to (pe_ix ix_seq ha hb hs) (sim_op sim_ix)
/-- a part of a slice -/
def fPart (f : Option LE) : DEnv → Store → Res (Option Int) := match f with
  | none => fun _ st => .ok none st
  | some f => fun env st => (f env st).bind fun d st1 => match d with
    | .int i => .ok (some i) st1
    | _ => .stuck
abbrev eqO : Wd → Option Int → Option Int → Prop := fun _ a b => a = b
abbrev POf (X : Cx) (T : List (Addr × Str)) (E : XK) (e : Option Expr) (f : Option LE) : Prop := PO X e (tOf X.K T E eqO (fPart f))
theorem x_pnone : POf X T E none none := ⟨fun pins st σ H Q I x => po_none.run pins st σ H Q I (by
  obtain ⟨w, env, s', e, r, p⟩ := x
  exact p.here r rfl)⟩
theorem x_psome (h : PEf X T E a fa) : POf X T E (some a) (some fa) := ⟨fun pins st σ H Q I x => (po_some h).run pins st σ H Q I (by
  obtain ⟨w, env, s', e, r, p⟩ := x
  refine ⟨w, env, s', e, r, Post.bind (rel := Dat) (show Post X.K T E eqO w H ((fa env s').bind _) Q from p) fun w1 x H1 d st1 s1 r1 dx p1 => ?_⟩
  cases dx with
  | int i => exact ⟨i, rfl, p1.here r1 rfl⟩
  | _ => exact p1.elim)⟩
def cutD (xs : List D) (lo hi : Option Int) : List D := (xs.drop (HT.sIx xs.length 0 lo)).take (HT.sIx xs.length xs.length hi - HT.sIx xs.length 0 lo)
theorem Dats.cut {w : Wd} {vs : List V} {ds : List D} (h : Dats w vs ds) (lo hi : Option Int) : Dats w (cutV vs lo hi) (cutD ds lo hi) := by
  unfold cutV cutD
  rw [h.length]
  exact (h.drop _).take _
def oSl : D → Option Int → Option Int → Store → Res D := fun d lo hi st => match d with
  | .tup ds => .ok (.tup (cutD ds lo hi)) st
  | d => (match rdOf d st with
    | some ds => .ok (.lst (cutD ds lo hi)) st
    | none => .stuck)
def fSl (fa : LE) (fl fh : Option LE) : LE := fun env st => (fa env st).bind fun d st1 => (fPart fl env st1).bind fun lo st2 => (fPart fh env st2).bind fun hi st3 => oSl d lo hi st3
theorem sim_sl {K : PySem.W.Frag} {E : XK} {w : Wd} {H : Hp} {st : Store} {x : V} {d : D} {lo hi : Option Int} {Q : VK} (r : Rel K T w H st) (dx : Dat w x d) (p : Post K T E Dat w H (oSl d lo hi st) Q) : rSlL K x lo hi H Q ∨ rSlA K x lo hi H Q := by
  have p0 : Post K T E Dat w H (match rdOf d st with | some ds => .ok (.lst (cutD ds lo hi)) st | none => .stuck) Q → rSlL K x lo hi H Q ∨ rSlA K x lo hi H Q := fun p => by
    cases q : rdOf d st with
    | none => rw [q] at p; exact p.elim
    | some ds =>
      rw [q] at p
      obtain ⟨l, vs, e1, h1, h2⟩ := rd_at r dx q
      exact .inl ⟨l, vs, e1, h1, p.newL r (h2.cut lo hi)⟩
  cases dx with
  | @tup a vs ds hF hd =>
    have p' : Post K T E Dat w H (.ok (.tup (cutD ds lo hi)) st) Q := p
    refine .inr ⟨a, vs, rfl, SqT.of (r.fr _ _ hF), fun z => ?_, fun _ => p'.newT r (hd.cut lo hi)⟩
    have e : cutD ds lo hi = ds := by
      unfold cutD
      rw [hd.length] at z
      rw [z.1, z.2]
      simp
    rw [e] at p'
    exact p'.here r (.tup hF hd)
  | non => exact p0 p
  | bl b => exact p0 p
  | int b => exact p0 p
  | str b => exact p0 p
  | lst h1 h2 => exact p0 p
  | lck h1 h2 => exact p0 p
  | ref h1 => exact p0 p
theorem x_sl {lo hi : Option Expr} {fl fh : Option LE} {p2 : Pos} (ha : PEf X T E a fa) (hl : POf X T E lo fl) (hh : POf X T E hi fh) : PEf X T E (.Subscript a (.Slice lo hi none p2) pos) (fSl fa fl fh) := pe_to (pe_slice (sl_list.or sl_tupA) ha hl hh) fun w σ H env st Q e r p => by
  refine ⟨w, env, st, e, r, p.bind fun w1 x H1 d st1 s1 r1 dx p1 => ?_⟩
  refine ⟨w1, env, st1, e.mono s1.le, r1, Post.bind (rel := eqO) p1 fun w2 l H2 l' st2 s2 r2 dl p2 => ?_⟩
  cases (show l = l' from dl)
  refine ⟨w2, env, st2, (e.mono s1.le).mono s2.le, r2, Post.bind (rel := eqO) p2 fun w3 u H3 u' st3 s3 r3 du p3 => ?_⟩
  cases (show u = u' from du)
  exact sim_sl r3 ((dx.mono s2.le).mono s3.le) p3
/-! ### arguments, displays -/
def fNil : LA := fun _ st => .ok [] st
def fCons (f : LE) (g : LA) : LA := fun env st => (f env st).bind fun d st1 => (g env st1).bind fun ds st2 => .ok (d :: ds) st2
theorem x_nil : PAf X T E [] fNil := pa_to pa_nil fun w σ H env st Q e r p => p.here r .nil
theorem x_cons {es : List Expr} {g : LA} (ha : PEf X T E a fa) (hr : PAf X T E es g) (hs : starEach (a :: es) X.env = (false, eval a X.env) :: starEach es X.env := by rfl) : PAf X T E (a :: es) (fCons fa g) := pa_to (pa_cons ha hr hs) fun w σ H env st Q e r p => by
  refine ⟨w, env, st, e, r, p.bind fun w1 x H1 d st1 s1 r1 dx p1 => ?_⟩
  refine ⟨w1, env, st1, e.mono s1.le, r1, p1.bind fun w2 xs H2 ds st2 s2 r2 dxs p2 => ?_⟩
  exact p2.here r2 (.cons (dx.mono s2.le) dxs)
def fTup (g : LA) : LE := fun env st => (g env st).bind fun ds st1 => if ds.length ≤ lim then .ok (.tup ds) st1 else .stuck
/-- a list that stays; one that is a cell -/
def fLst (g : LA) : LE := fun env st => (g env st).bind fun ds st1 => if ds.length ≤ lim then .ok (.lst ds) st1 else .stuck
def fLstC (g : LA) : LE := fun env st => (g env st).bind fun ds st1 => if ds.length ≤ lim then .ok (.ref st1.length) (st1 ++ [.lst ds]) else .stuck
theorem x_tup {es : List Expr} {g : LA} {x1} (h : PAf X T E es g) : PEf X T E (.Tuple es x1 pos) (fTup g) := pe_to (pe_tup h) fun w σ H env st Q e r p => by
  refine ⟨w, env, st, e, r, p.bind fun w1 x H1 ds st1 s1 r1 dx p1 => ?_⟩
  by_cases q : ds.length ≤ lim
  · rw [if_pos q] at p1
    exact ⟨by rw [dx.length, lim_eq]; exact q, p1.newT r1 dx⟩
  · rw [if_neg q] at p1
    exact p1.elim
theorem x_lst {es : List Expr} {g : LA} (h : PAf X T E es g) : PEf X T E (.List es pos) (fLst g) := pe_to (pe_lst h) fun w σ H env st Q e r p => by
  refine ⟨w, env, st, e, r, p.bind fun w1 x H1 ds st1 s1 r1 dx p1 => ?_⟩
  by_cases q : ds.length ≤ lim
  · rw [if_pos q] at p1
    exact ⟨by rw [dx.length, lim_eq]; exact q, p1.newL r1 dx⟩
  · rw [if_neg q] at p1
    exact p1.elim
theorem x_lstC {es : List Expr} {g : LA} (h : PAf X T E es g) : PEf X T E (.List es pos) (fLstC g) := pe_to (pe_lst h) fun w σ H env st Q e r p => by
  refine ⟨w, env, st, e, r, p.bind fun w1 x H1 ds st1 s1 r1 dx p1 => ?_⟩
  by_cases q : ds.length ≤ lim
  · rw [if_pos q] at p1
    exact ⟨by rw [dx.length, lim_eq]; exact q, p1.newC r1 dx⟩
  · rw [if_neg q] at p1
    exact p1.elim
/-- a cell that is a list becomes what stays -/
def oFz : O1 := fun d st => match d with
  | .ref k => (match st[k]? with
    | some (.lst xs) => .ok (.lst xs) (st.set k .dead)
    | _ => .stuck)
  | d => .ok d st
def fFz (f : LE) : LE := fUn oFz f
theorem post_fz {K : PySem.W.Frag} {E : XK} {w : Wd} {H : Hp} {st : Store} {x : V} {d : D} {Q : VK} (r : Rel K T w H st) (dx : Dat w x d) (p : Post K T E Dat w H (oFz d st) Q) : Q x H := by
  cases dx with
  | @ref q k ha =>
    have p' : Post K T E Dat w H (match st[k]? with | some (.lst xs) => .ok (.lst xs) (st.set k .dead) | _ => .stuck) Q := p
    cases h : st[k]? with
    | none => rw [h] at p'; exact p'.elim
    | some c =>
      rw [h] at p'
      cases c with
      | lst xs =>
        obtain ⟨q2, vs, a2, s1, r1, d1⟩ := r.frozen h
        rw [ha] at a2
        cases a2
        exact p' _ _ _ s1 r1 d1
      | _ => exact p'.elim
  | non => exact p.here r .non
  | bl b => exact p.here r (.bl b)
  | int b => exact p.here r (.int b)
  | str b => exact p.here r (.str b)
  | tup h1 h2 => exact p.here r (.tup h1 h2)
  | lst h1 h2 => exact p.here r (.lst h1 h2)
  | lck h1 h2 => exact p.here r (.lck h1 h2)
theorem x_fz (h : PEf X T E a fa) : PEf X T E a (fFz fa) := ⟨fun pins s σ H Q I x => by
  obtain ⟨w, env, st, e, r, p⟩ := x
  exact h.run pins s σ H Q I ⟨w, env, st, e, r, p.bind fun w1 x H1 d st1 s1 r1 dx p1 => post_fz r1 dx p1⟩⟩
/-! ### built-in calls -/
abbrev OA := List D → Store → Res D
def SimRA (K : PySem.W.Frag) (T : List (Addr × Str)) (r : List V → Hp → VK → Prop) (o : OA) : Prop := ∀ E w H st vs ds Q, Rel K T w H st → Dats w vs ds → Post K T E Dat w H (o ds st) Q → r vs H Q
def fCB (o : OA) (g : LA) : LE := fun env st => (g env st).bind fun ds st1 => o ds st1
theorem sim_cb {K : PySem.W.Frag} {r : List V → Hp → VK → Prop} {o : OA} {g : LA} (h : SimRA K T r o) : Sim K T E Dat (tCB r (tOf K T E Dats g)) (fCB o g) := fun w σ H env st Q e r p =>
  ⟨w, env, st, e, r, p.bind fun w1 x H1 d st1 s1 r1 dx p1 => h E w1 H1 st1 x d Q r1 dx p1⟩
theorem x_callB {x : Str} {id : String} {es : List Expr} {e : Expr} {q : Pos} {r : List V → Hp → VK → Prop} {o : OA} {g : LA} (hc : CallR X (.builtin id) r) (ho : SimRA X.K T r o) (hm : X.mg x = none) (ha : PAf X T E (e :: es) g) (hv : bootBuiltins x = some (.builtin id) := by decide +kernel) (hg : Gl X x := by rfl)
    (hn : x ≠ "__name__" := by decide) (hdb : (x == ("__debug__" : Str)) = false := by decide)
    (he : starEach (e :: es) X.env = (false, eval e X.env) :: starEach es X.env := by rfl) (hpl : (backTo pos (starEach es X.env)).any (·.1) = false := by rfl) : PEf X T E (.Call (.Name x q) (e :: es) [] pos) (fCB o g) := pe_to (pe_callB hc hg hm hv ha hn hdb he hpl) (sim_cb ho)
theorem x_callTy {x : Str} {id : String} {es : List Expr} {e : Expr} {q : Pos} {r : List V → Hp → VK → Prop} {o : OA} {g : LA} (hc : CallR X (.type id) r) (ho : SimRA X.K T r o) (hm : X.mg x = none) (ha : PAf X T E (e :: es) g) (hv : bootBuiltins x = some (.type id) := by decide +kernel) (hg : Gl X x := by rfl)
    (hn : x ≠ "__name__" := by decide) (hdb : (x == ("__debug__" : Str)) = false := by decide)
    (he : starEach (e :: es) X.env = (false, eval e X.env) :: starEach es X.env := by rfl) (hpl : (backTo pos (starEach es X.env)).any (·.1) = false := by rfl) : PEf X T E (.Call (.Name x q) (e :: es) [] pos) (fCB o g) := pe_to (pe_callTy hc hg hm hv ha hn hdb he hpl) (sim_cb ho)
/-- len -/
def oLen : OA := fun ds st => match ds with
  | [.tup xs] => .ok (.int xs.length) st
  | [.str s] => if s.length ≤ lim then .ok (.int s.length) st else .stuck
  | [d] => (match rdOf d st with
    | some xs => .ok (.int xs.length) st
    | none => .stuck)
  | _ => .stuck
theorem sim_len {K : PySem.W.Frag} : SimRA K T (fun xs H Q => ∃ x n, xs = [x] ∧ LenV K x H n ∧ Q (.int n) H) oLen := fun E w H st vs ds Q r dv p => by
  cases dv with
  | nil => exact p.elim
  | cons dx rest =>
    cases rest with
    | cons _ _ => 
      rename_i hd hd2
      cases dx <;> exact p.elim
    | nil =>
      rename_i x d
      have gen : Dat w x d → ∀ ys, rdOf d st = some ys → Q (.int ys.length) H → ∃ x' n, [x] = [x'] ∧ LenV K x' H n ∧ Q (.int n) H := fun dx ys he q => by
        obtain ⟨l, us, e1, h1, h2⟩ := rd_at r dx he
        rw [e1]
        exact ⟨_, us.length, rfl, .inl ⟨us, h1, rfl⟩, by rw [h2.length]; exact q⟩
      cases dx with
      | @tup a us ds hF hd => exact ⟨_, us.length, rfl, .inr ⟨us, SqT.of (r.fr _ _ hF), rfl⟩, by rw [hd.length]; exact p.here r (.int _)⟩
      | str s =>
        have p' : Post K T E Dat w H (if s.length ≤ lim then .ok (.int s.length) st else .stuck) Q := p
        by_cases q : s.length ≤ lim
        · rw [if_pos q] at p'
          exact ⟨_, s.length, rfl, ⟨by rw [lim_eq]; exact q, rfl⟩, p'.here r (.int _)⟩
        · rw [if_neg q] at p'
          exact p'.elim
      | lst h1 h2 => exact gen (.lst h1 h2) _ rfl (p.here r (.int _))
      | lck h1 h2 => exact gen (.lck h1 h2) _ rfl (p.here r (.int _))
      | @ref a k h1 =>
        have p' : Post K T E Dat w H (match rdOf (.ref k) st with
          | some xs => .ok (.int xs.length) st
          | none => .stuck) Q := p
        cases q : rdOf (.ref k) st with
        | some ys =>
          rw [q] at p'
          exact gen (.ref h1) ys q (p'.here r (.int _))
        | none =>
          rw [q] at p'
          exact p'.elim
      | _ => exact p.elim
end
end Fk
/-! FkD: statements, loops, comprehensions, fields, calls, a def. -/
namespace Fk
open PySem PySem.Spec PyProof.Rows L2
/-! ### blocks -/
def fNext : LS := fun env st => .nx env st
def fSeq (f g : LS) : LS := fun env st => match f env st with
  | .nx e s => g e s
  | r => r
def fRet (f : LE) : LS := fun env st => (f env st).go env fun d st1 => .rt d st1
def fRetN : LS := fun _ st => .rt .non st
def fBreak : LS := fun env st => .bk env st
def fCont : LS := fun env st => .ct env st
def fDrop (f : LE) : LS := fun env st => (f env st).go env fun _ st1 => .nx env st1
def fIfS (t : LT) (f g : LS) : LS := fun env st => (t env st).go env fun b st1 => if b = true then f env st1 else g env st1
/-- no slot matters to an error's wish -/
abbrev W0 (E : XK) : WX := fun c d _ H => E c d H
section
variable {X : Cx} {T : List (Addr × Str)} {E : XK} {f g : LS} {s : Stmt} {ss : List Stmt} {e : Expr} {fe : LE} {pos : Pos} {W : WX}
theorem s_nil : PSsf X T W [] fNext := pss_to pss_nil fun w σ H env st Dn e r p => p w σ H (Stp.refl w H) e r
theorem s_seq (h1 : PSf X T W s f) (h2 : PSsf X T W ss g) : PSsf X T W (s :: ss) (fSeq f g) := pss_to (pss_cons h1 h2) fun w σ H env st Dn e r p => by
  refine ⟨w, env, st, e, r, ?_⟩
  unfold fSeq at p
  cases h : f env st with
  | nx e1 st1 =>
    rw [h] at p
    exact fun w' σ' H' s' e' r' => ⟨w', e1, st1, e', r', PostS.pull p s'⟩
  | rt d st1 => rw [h] at p; exact p
  | bk e1 st1 => rw [h] at p; exact p
  | ct e1 st1 => rw [h] at p; exact p
  | ex x e1 st1 => rw [h] at p; exact p
  | stuck => rw [h] at p; exact p
theorem s_one (h : PSf X T W s f) : PSsf X T W [s] f := pss_one h
theorem s_pass : PSf X T W (.Pass pos) fNext := ps_to ps_pass fun w σ H env st Dn e r p => p w σ H (Stp.refl w H) e r
theorem s_break : PSf X T W (.Break pos) fBreak := ps_to ps_break fun w σ H env st Dn e r p => p w σ H (Stp.refl w H) e r
theorem s_cont : PSf X T W (.Continue pos) fCont := ps_to ps_continue fun w σ H env st Dn e r p => p w σ H (Stp.refl w H) e r
theorem s_retN : PSf X T (W0 E) (.Return none pos) fRetN := ps_to ps_retN fun w σ H env st Dn e r p => p w .non H (Stp.refl w H) r .non
theorem s_ret (h : PEf X T E e fe) : PSf X T (W0 E) (.Return (some e) pos) (fRet fe) := ps_to (ps_ret h) fun w σ H env st Dn he r p =>
  ⟨w, env, st, he, r, PostS.go (fun _ _ _ h => h) he p fun w1 x H1 d st1 s1 r1 dx p1 => p1 w1 x H1 (Stp.refl w1 H1) r1 dx⟩
theorem s_drop (h : PEf X T E e fe) (hs : swapsWith e none pos.line X.env = pure false := by rfl) : PSf X T (W0 E) (.Expr e pos) (fDrop fe) := ps_to (ps_expr h hs) fun w σ H env st Dn he r p =>
  ⟨w, env, st, he, r, PostS.go (fun _ _ _ h => h) he p fun w1 x H1 d st1 s1 r1 dx p1 => p1 w1 σ H1 (Stp.refl w1 H1) (he.mono s1.le) r1⟩
theorem s_if {c : Expr} {a b : List Stmt} {t : LT} (hc : PTf X T E c t) (ha : PSsf X T (W0 E) a f) (hb : PSsf X T (W0 E) b g) : PSf X T (W0 E) (.If c a b pos) (fIfS t f g) := ps_to (ps_if hc ha hb) fun w σ H env st Dn he r p => by
  refine ⟨w, env, st, he, r, PostS.go (rel := eqB) (fun _ _ _ h => h) he p fun w1 x H1 d st1 s1 r1 dx p1 => ?_⟩
  cases (show x = d from dx)
  cases x with
  | true =>
    rw [if_pos rfl] at p1 ⊢
    exact ⟨w1, env, st1, he.mono s1.le, r1, p1⟩
  | false =>
    rw [if_neg Bool.false_ne_true] at p1 ⊢
    exact ⟨w1, env, st1, he.mono s1.le, r1, p1⟩
end
/-! ### targets -/
abbrev LG := D → DEnv → Store → RS
section
variable (K : PySem.W.Frag) (T : List (Addr × Str)) (E : XK)
def PostG (R : L2.St → Prop) (w : Wd) (H : Hp) (r : RS) (Q : L2.St → Hp → Prop) : Prop := match r with
  | .nx env st => ∀ w' σ' H', Stp w H w' H' → EnvR w' σ' env → Rel K T w' H' st → R σ' → Q σ' H'
  | .ex x _ st => ∀ w' c od H', Stp w H w' H' → Rel K T w' H' st → ExR K x c od H' → E c od H'
  | _ => False
/-- vs: the places that may change (none: any) -/
def tOfG (vs : Option (List Nat)) (f : LG) : TG := fun v σ H Q => ∃ w d env st, EnvR w σ env ∧ Rel K T w H st ∧ Dat w v d ∧ PostG K T E (fun σ' => ∀ us, vs = some us → wipe σ' us = wipe σ us) w H (f d env st) Q
end
abbrev PGf (X : Cx) (T : List (Addr × Str)) (E : XK) (vs : Option (List Nat)) (tg : Expr) (f : LG) : Prop := PG X tg (tOfG X.K T E vs f)
def gN (i : Nat) : LG := fun d env st => .nx (env.set i (some d)) st
theorem wipe_set {σ : L2.St} {i : Nat} {o : Option V} : ∀ {us : List Nat}, i ∈ us → wipe (σ.set i o) us = wipe σ us
  | [], h => by cases h
  | u :: us, h => by
    unfold wipe
    by_cases q : i ∈ us
    · rw [wipe_set q]
    · have e : i = u := (List.mem_cons.mp h).resolve_right q
      subst e
      have sw : ∀ (us : List Nat) (σ : L2.St), i ∉ us → (wipe (σ.set i o) us).set i none = (wipe σ us).set i none := fun us => by
        induction us with
        | nil =>
          intro σ _
          show (σ.set i o).set i none = σ.set i none
          rw [List.set_set]
        | cons u us ih =>
          intro σ hn
          have n1 : i ≠ u := fun z => hn (by rw [z]; exact List.mem_cons_self)
          have n2 : i ∉ us := fun z => hn (List.mem_cons_of_mem _ z)
          show ((wipe (σ.set i o) us).set u none).set i none = ((wipe σ us).set u none).set i none
          rw [List.set_comm _ _ n1.symm, ih σ n2, List.set_comm _ _ n1.symm]
      exact sw us σ q
section
variable {X : Cx} {T : List (Addr × Str)} {E : XK} {vs : Option (List Nat)} {pos : Pos}
theorem pg_to {tg : Expr} {g : TG} {f : LG} (h : PG X tg g) (k : ∀ v σ H Q, tOfG X.K T E vs f v σ H Q → g v σ H Q) : PGf X T E vs tg f := ⟨fun pins s σ H v u Q I r x => h.run pins s σ H v u Q I r (k v σ H Q x)⟩
theorem g_name {i : Nat} {x : Str} (hN : X.N.Nodup) (hi : X.N[i]? = some x := by rfl) (hx : Loc X.env.scope x := by first | exact Or.inl rfl | exact Or.inr rfl) (hf : X.fn x = true ∨ X.env.scope.names.lookup x = some .local := by first | exact .inl rfl | exact .inr rfl)
    (hv : ∀ us, vs = some us → i ∈ us := by intro us h; cases h <;> decide) : PGf X T E vs (.Name x pos) (gN i) := pg_to (pg_name hN hi hx hf) fun v σ H Q h => by
  obtain ⟨w, d, env, st, e, r, dx, p⟩ := h
  exact p w _ H (Stp.refl w H) (e.set i dx) r fun us hu => wipe_set (hv us hu)
/-- several names -/
def gTs : List LG → List D → DEnv → Store → RS
  | [], [], env, st => .nx env st
  | g :: gs, d :: ds, env, st => (match g d env st with
    | .nx e s => gTs gs ds e s
    | r => r)
  | _, _, _, _ => .stuck
def gTu (gs : List LG) : LG := fun d env st => match d with
  | .tup ds => if ds.length = gs.length then gTs gs ds env st else .stuck
  | _ => .stuck
def tOfGs (K : PySem.W.Frag) (T : List (Addr × Str)) (E : XK) (vs : Option (List Nat)) (fs : List LG) : TGs := fun us σ H Q => ∃ w ds env st, EnvR w σ env ∧ Rel K T w H st ∧ Dats w us ds ∧ PostG K T E (fun σ' => ∀ us, vs = some us → wipe σ' us = wipe σ us) w H (gTs fs ds env st) Q
theorem g_nil : PGs X [] (tOfGs X.K T E vs []) := ⟨fun pins s σ H us ws Q I r x => pgs_nil.run pins s σ H us ws Q I r (by
  obtain ⟨w, ds, env, st, e, rr, dx, p⟩ := x
  cases dx with
  | nil => exact ⟨rfl, p w σ H (Stp.refl w H) e rr fun _ _ => rfl⟩
  | cons _ _ => exact p.elim)⟩
theorem PostG.pull {K : PySem.W.Frag} {R R' : L2.St → Prop} {w w1 : Wd} {H H1 : Hp} {r : RS} {Q : L2.St → Hp → Prop} (h : PostG K T E R w H r Q) (s : Stp w H w1 H1) (hR : ∀ σ', R' σ' → R σ') : PostG K T E R' w1 H1 r Q := by
  cases r with
  | nx env st => exact fun w' σ' H' s' e' r' q => h w' σ' H' (s.trans s') e' r' (hR _ q)
  | ex x env st => exact fun w' c od H' s' r' z => h w' c od H' (s.trans s') r' z
  | _ => exact h
theorem g_cons {e : Expr} {es : List Expr} {f : LG} {fs : List LG} (h1 : PGf X T E vs e f) (h2 : PGs X es (tOfGs X.K T E vs fs))
    (hs : (assignEach (e :: es) X.env).map (·.2) = assign e X.env :: (assignEach es X.env).map (·.2) := by rfl) : PGs X (e :: es) (tOfGs X.K T E vs (f :: fs)) := ⟨fun pins s σ H us ws Q I r x => (pgs_cons h1 h2 hs).run pins s σ H us ws Q I r (by
  obtain ⟨w, ds, env, st, e0, rr, dx, p⟩ := x
  cases dx with
  | nil => exact p.elim
  | cons d1 dr =>
    rename_i v d us ds
    refine ⟨v, us, rfl, w, d, env, st, e0, rr, d1, ?_⟩
    have p' : PostG X.K T E (fun σ' => ∀ us, vs = some us → wipe σ' us = wipe σ us) w H (match f d env st with
      | .nx e s => gTs fs ds e s
      | r => r) Q := p
    cases q : f d env st with
    | nx e1 s1 =>
      rw [q] at p'
      exact fun w' σ' H' s' e' r' hR => ⟨w', ds, e1, s1, e', r', dr.mono s'.le, PostG.pull p' s' fun σ'' hh us hu => (hh us hu).trans (hR us hu)⟩
    | ex x e1 s1 => rw [q] at p'; exact p'
    | _ => rw [q] at p'; exact p'.elim)⟩
theorem g_tup {es : List Expr} {fs : List LG} {k : Nat} {n : Nat} (hc : X.calm = true) (h : PGs X es (tOfGs X.K T E vs fs)) (hl : n = fs.length := by rfl)
    (hn : (assignEach es X.env).length = n := by rfl) (hst : (assignEach es X.env).findIdx? (·.1) = none := by rfl) : PGf X T E vs (.Tuple es k pos) (gTu fs) := pg_to (pg_tup hc h hn hst) fun v σ H Q hh => by
  obtain ⟨w, d, env, st, e, r, dx, p⟩ := hh
  cases dx with
  | @tup a us ds hF hd =>
    have p' : PostG X.K T E (fun σ' => ∀ us, vs = some us → wipe σ' us = wipe σ us) w H (if ds.length = fs.length then gTs fs ds env st else .stuck) Q := p
    by_cases q : ds.length = fs.length
    · rw [if_pos q] at p'
      exact ⟨a, us, rfl, SqT.of (r.fr _ _ hF), by rw [hd.length, q, hl], w, ds, env, st, e, r, hd, p'⟩
    · rw [if_neg q] at p'
      exact p'.elim
  | _ => exact p.elim
end
/-! ### assignments -/
def fAsg (f : LE) (g : LG) : LS := fun env st => (f env st).go env fun d st1 => g d env st1
section
variable {X : Cx} {T : List (Addr × Str)} {E : XK} {pos : Pos} {e tg : Expr} {fe : LE} {g : LG}
/-- only next or an error comes of a target -/
theorem post_asg {K : PySem.W.Frag} {σ : L2.St} {w1 : Wd} {H : Hp} {r : RS} {env : DEnv} {Dn : Ends} {R : L2.St → Prop} (he : EnvR w1 σ env) (hx : ∀ x e s, r = .ex x e s → e = env) (hn : ∀ e s, r ≠ .bk e s ∧ r ≠ .ct e s) (hr : ∀ d s, r ≠ .rt d s) (p : PostS K T (W0 E) w1 H r Dn) : PostG K T E R w1 H r Dn.nx := by
  cases r with
  | nx e1 s1 => exact fun w' σ' H' s' e' r' _ => p w' σ' H' s' e' r'
  | ex x e1 s1 =>
    have q := hx x e1 s1 rfl
    subst q
    exact fun w' c od H' s' r' z => p w' c od σ H' s' (he.mono s'.le) r' z
  | bk e1 s1 => exact absurd rfl (hn e1 s1).1
  | ct e1 s1 => exact absurd rfl (hn e1 s1).2
  | rt d s1 => exact absurd rfl (hr d s1)
  | stuck => exact p
/-- a target that ends so -/
def GOk (g : LG) : Prop := ∀ d env st, (∀ x e s, g d env st = .ex x e s → e = env) ∧ (∀ e s, g d env st ≠ .bk e s ∧ g d env st ≠ .ct e s) ∧ ∀ d' s, g d env st ≠ .rt d' s
theorem gok_name (i : Nat) : GOk (gN i) := fun d env st => ⟨(by intro _ _ _ h; cases h), (by intro _ _; exact ⟨(by intro h; cases h), (by intro h; cases h)⟩), (by intro _ _ h; cases h)⟩
def GPure (g : LG) : Prop := ∀ d env st, (∃ e s, g d env st = .nx e s) ∨ g d env st = .stuck
theorem gp_name (i : Nat) : GPure (gN i) := fun _ _ _ => .inl ⟨_, _, rfl⟩
theorem gp_ts : ∀ {gs : List LG}, (∀ g ∈ gs, GPure g) → ∀ ds env st, (∃ e s, gTs gs ds env st = .nx e s) ∨ gTs gs ds env st = .stuck
  | [], _, [], env, st => .inl ⟨env, st, rfl⟩
  | [], _, _ :: _, env, st => .inr rfl
  | _ :: _, _, [], env, st => .inr rfl
  | g :: gs, h, d :: ds, env, st => by
    have e0 : gTs (g :: gs) (d :: ds) env st = (match g d env st with
      | .nx e s => gTs gs ds e s
      | r => r) := rfl
    rw [e0]
    rcases h g List.mem_cons_self d env st with ⟨e, s, q⟩ | q
    · rw [q]
      exact gp_ts (fun g' hg => h g' (List.mem_cons_of_mem _ hg)) ds e s
    · rw [q]
      exact .inr rfl
theorem gp_tup {gs : List LG} (h : ∀ g ∈ gs, GPure g) : GPure (gTu gs) := fun d env st => by
  cases d with
  | tup ds =>
    show (∃ e s, (if ds.length = gs.length then gTs gs ds env st else .stuck) = .nx e s) ∨ (if ds.length = gs.length then gTs gs ds env st else .stuck) = .stuck
    by_cases q : ds.length = gs.length
    · rw [if_pos q]
      exact gp_ts h ds env st
    · rw [if_neg q]
      exact .inr rfl
  | _ => exact .inr rfl
theorem GPure.ok {g : LG} (h : GPure g) : GOk g := fun d env st => by
  rcases h d env st with ⟨e, s, q⟩ | q
  · rw [q]
    exact ⟨(by intro _ _ _ h; cases h), (by intro _ _; exact ⟨(by intro h; cases h), (by intro h; cases h)⟩), (by intro _ _ h; cases h)⟩
  · rw [q]
    exact ⟨(by intro _ _ _ h; cases h), (by intro _ _; exact ⟨(by intro h; cases h), (by intro h; cases h)⟩), (by intro _ _ h; cases h)⟩
theorem sim_asg {K : PySem.W.Frag} {te : TE} (hg : GOk g) (h : Sim K T E Dat te fe) : SimS K T (W0 E) (tAsg te (tOfG K T E none g)) (fAsg fe g) := fun w σ H env st Dn he r p =>
  h w σ H env st _ he r (PostS.go (fun _ _ _ h => h) he p fun w1 x H1 d st1 s1 r1 dx p1 =>
    ⟨w1, d, env, st1, he.mono s1.le, r1, dx, post_asg (he.mono s1.le) (hg d env st1).1 (hg d env st1).2.1 (hg d env st1).2.2 p1⟩)
theorem s_asg (he : PEf X T E e fe) (hg : PGf X T E none tg g) (gk : GOk g) (h1 : (assignEach [tg] X.env).map (·.2) = [assign tg X.env] := by rfl) (hs : swapsWithSole [tg] e pos.line X.env = pure false := by rfl) (hw : swappedStores [tg] e X.env = pure none := by rfl) : PSf X T (W0 E) (.Assign [tg] e pos) (fAsg fe g) :=
  ps_to (ps_asg he hg hs hw h1) (sim_asg gk sim_of)
/-- x = e -/
theorem s_set {i : Nat} {x : Str} {pos' : Pos} (hN : X.N.Nodup) (he : PEf X T E e fe) (hi : X.N[i]? = some x := by rfl) (hx : Loc X.env.scope x := by first | exact Or.inl rfl | exact Or.inr rfl) (hf : X.fn x = true ∨ X.env.scope.names.lookup x = some .local := by first | exact .inl rfl | exact .inr rfl)
    (hs : swapsWith e (some (.Name x pos')) pos.line X.env = pure false := by rfl) : PSf X T (W0 E) (.Assign [.Name x pos'] e pos) (fAsg fe (gN i)) :=
  ps_to (ps_set hN hi hx he hs hf) fun w σ H env st Dn he r p => ⟨w, env, st, he, r, PostS.go (fun _ _ _ h => h) he p fun w1 x H1 d st1 s1 r1 dx p1 => p1 w1 _ H1 (Stp.refl w1 H1) ((he.mono s1.le).set i dx) r1⟩
/-- x op= e -/
def fAug (i : Nat) (o : O2) (f : LE) : LS := fun env st => match env[i]? with
  | some (some d) => (f env st).go env fun e st1 => (o d e st1).go env fun z st2 => .nx (env.set i (some z)) st2
  | _ => .stuck
def SimIp (K : PySem.W.Frag) (T : List (Addr × Str)) (r : TIp) (o : O2) : Prop := SimR2 K T r o
theorem s_aug {i : Nat} {x : Str} {op : Operator} {ti : TIp} {o : O2} {pos' : Pos} (hN : X.N.Nodup) (ho : PIp X op ti) (so : SimR2 X.K T ti o) (he : PEf X T E e fe) (hi : X.N[i]? = some x := by rfl) (hx : Loc X.env.scope x := by first | exact Or.inl rfl | exact Or.inr rfl) (hf : X.fn x = true ∨ X.env.scope.names.lookup x = some .local := by first | exact .inl rfl | exact .inr rfl) :
    PSf X T (W0 E) (.AugAssign (.Name x pos') op e pos) (fAug i o fe) := ps_to (ps_aug hN hi hx he ho hf) fun w σ H env st Dn he r p => by
  unfold fAug at p
  cases q : env[i]? with
  | none => rw [q] at p; exact p.elim
  | some o' =>
    cases o' with
    | none => rw [q] at p; exact p.elim
    | some d =>
      rw [q] at p
      obtain ⟨v, h1, h2⟩ := he.2 i d q
      refine ⟨v, h1, w, env, st, he, r, PostS.go (fun _ _ _ h => h) he p fun w1 y H1 e1 st1 s1 r1 dy p1 => ?_⟩
      refine so E w1 H1 st1 v y d e1 _ r1 (h2.mono s1.le) dy (PostS.go (fun _ _ _ h => h) (he.mono s1.le) p1 fun w2 z H2 e2 st2 s2 r2 dz p2 => ?_)
      exact p2 w2 _ H2 (Stp.refl w2 H2) (((he.mono s1.le).mono s2.le).set i dz) r2
end
/-! ### what is walked -/
structure Walk (K : PySem.W.Frag) (T : List (Addr × Str)) (J : It) (items : List D) (g : Store → Bool) (w0 : Wd) : Prop where
  stop : ∀ w H st, Le w0 w → Rel K T w H st → g st = true → J.stop items.length H
  go : ∀ i d w H st, Le w0 w → Rel K T w H st → g st = true → items[i]? = some d → J.go i H
  yld : ∀ i d w H st x H', Le w0 w → Rel K T w H st → g st = true → items[i]? = some d → J.yld i H x H' → ∃ w', Stp w H w' H' ∧ Rel K T w' H' st ∧ Dat w' x d
abbrev IT := List D × (Store → Bool)
abbrev LI := DEnv → Store → Res IT
abbrev WalkR (K : PySem.W.Frag) (T : List (Addr × Str)) : Wd → It → IT → Prop := fun w J p => Walk K T J p.1 p.2 w
abbrev PIf (X : Cx) (T : List (Addr × Str)) (E : XK) (tg iter : Expr) (f : LI) : Prop := PI X tg iter (tOf X.K T E (WalkR X.K T) f)
def forRun (g : Store → Bool) (lg : LG) (body : LS) : List D → DEnv → Store → RS
  | [], env, st => if g st = true then .nx env st else .stuck
  | d :: ds, env, st => if g st = true then (match lg d env st with
    | .nx e1 s1 => (match body e1 s1 with
      | .nx e s => forRun g lg body ds e s
      | .ct e s => forRun g lg body ds e s
      | .bk e s => .nx e s
      | r => r)
    | .ex x _ s => .ex x env s
    | _ => .stuck) else .stuck
def fFor (fi : LI) (lg : LG) (body : LS) : LS := fun env st => (fi env st).go env fun it st1 => forRun it.2 lg body it.1 env st1
section
variable {X : Cx} {T : List (Addr × Str)} {E : XK} {pos : Pos}
theorem sim_for {K : PySem.W.Frag} {fi : LI} {lg : LG} {body : LS} : SimS K T (W0 E) (tFor (tOf K T E (WalkR K T) fi) (tOfG K T E none lg) (tOfS K T (W0 E) body)) (fFor fi lg body) := fun w σ H env st Dn he r p => by
  refine ⟨w, env, st, he, r, PostS.go (rel := WalkR K T) (fun _ _ _ h => h) he p fun w1 J H1 it st1 s1 r1 wk p1 => ?_⟩
  obtain ⟨items, g⟩ := it
  have wk : Walk K T J items g w1 := wk
  refine ⟨fun i m σ H => m = items.length - i ∧ i ≤ items.length ∧ ∃ w' env' st', Le w1 w' ∧ EnvR w' σ env' ∧ Rel K T w' H st' ∧ PostS K T (W0 E) w' H (forRun g lg body (items.drop i) env' st') Dn,
    ⟨items.length, by simp, Nat.zero_le _, w1, env, st1, Le.refl w1, he.mono s1.le, r1, by simpa using p1⟩, ?_⟩
  rintro i m σ2 H2 ⟨rfl, hi, w2, env2, st2, le2, e2, r2, p2⟩
  by_cases hlt : i < items.length
  · have hd : items[i]? = some items[i] := List.getElem?_eq_getElem hlt
    have hdrop : items.drop i = items[i] :: items.drop (i + 1) := by rw [List.drop_eq_getElem_cons hlt]
    rw [hdrop] at p2
    unfold forRun at p2
    by_cases hg : g st2 = true
    · rw [if_pos hg] at p2
      refine .inr ⟨wk.go i _ w2 H2 st2 le2 r2 hg hd, fun σ' H' => ∃ w' env' st', Le w1 w' ∧ EnvR w' σ' env' ∧ Rel K T w' H' st' ∧ PostS K T (W0 E) w' H' (forRun g lg body (items.drop (i + 1)) env' st') Dn, fun σ' H' hN => ⟨items.length - (i + 1), by omega, rfl, hlt, hN⟩, fun x H3 hy => ?_⟩
      obtain ⟨w3, s3, r3, dx⟩ := wk.yld i _ w2 H2 st2 x H3 le2 r2 hg hd hy
      refine ⟨w3, items[i], env2, st2, e2.mono s3.le, r3, dx, ?_⟩
      have p3 := PostS.pull p2 s3
      cases q : lg items[i] env2 st2 with
      | nx e4 st4 =>
        rw [q] at p3
        refine fun w4 σ4 H4 s4 e4' r4 _ => ⟨w4, e4, st4, e4', r4, ?_⟩
        have p4 := PostS.pull p3 s4
        dsimp only at p4
        have le4 : Le w1 w4 := (le2.trans s3.le).trans s4.le
        cases q2 : body e4 st4 with
        | nx e5 st5 =>
          rw [q2] at p4
          exact fun w5 σ5 H5 s5 e5' r5 => ⟨w5, e5, st5, le4.trans s5.le, e5', r5, PostS.pull p4 s5⟩
        | ct e5 st5 =>
          rw [q2] at p4
          exact fun w5 σ5 H5 s5 e5' r5 => ⟨w5, e5, st5, le4.trans s5.le, e5', r5, PostS.pull p4 s5⟩
        | bk e5 st5 => rw [q2] at p4; exact p4
        | rt d st5 => rw [q2] at p4; exact p4
        | ex x e5 st5 => rw [q2] at p4; exact p4
        | stuck => rw [q2] at p4; exact p4
      | ex x e4 st4 =>
        rw [q] at p3
        exact fun w' c od H' s' r' z => p3 w' c od σ2 H' s' ((e2.mono s3.le).mono s'.le) r' z
      | bk e4 st4 => rw [q] at p3; exact p3.elim
      | ct e4 st4 => rw [q] at p3; exact p3.elim
      | rt d st4 => rw [q] at p3; exact p3.elim
      | stuck => rw [q] at p3; exact p3.elim
    · rw [if_neg hg] at p2
      exact p2.elim
  · have e : i = items.length := by omega
    subst e
    have hdrop : items.drop items.length = [] := by simp
    rw [hdrop] at p2
    unfold forRun at p2
    by_cases hg : g st2 = true
    · rw [if_pos hg] at p2
      exact .inl ⟨wk.stop w2 H2 st2 le2 r2 hg, p2 w2 σ2 H2 (Stp.refl w2 H2) e2 r2⟩
    · rw [if_neg hg] at p2
      exact p2.elim
theorem s_for {tg iter : Expr} {body : List Stmt} {fi : LI} {lg : LG} {fb : LS} (hp : PassesOwn (model X.prog X.w) X.A X.env X.xe) (hc : X.calm = true) (hi : PIf X T E tg iter fi) (hg : PGf X T E none tg lg) (hb : PSsf X T (W0 E) body fb)
    (hs : ∀ x, foldedSetIterable iter X.env x = pure x := by intro _; rfl) : PSf X T (W0 E) (.For tg iter body [] pos) (fFor fi lg fb) := ps_to (ps_for hp hc hi hg hb hs) sim_for
theorem pi_to {tg iter : Expr} {wi : TI} {f : LI} (h : PI X tg iter wi) (s : Sim X.K T E (WalkR X.K T) wi f) : PIf X T E tg iter f := ⟨fun pins st σ H Q I x => h.run pins st σ H Q I (s.to x)⟩
/-- a list: one that stays, the script; a cell, that must stay the same meanwhile -/
def gOf (d : D) (xs : List D) : Store → Bool := match d with
  | .ref k => fun st => (match st[k]? with
    | some (.lst ys) => ys.length == xs.length && true
    | _ => false)
  | _ => fun _ => true
def iL (f : LE) : LI := fun env st => (f env st).bind fun d st1 => match d with
  | .lst xs => .ok (xs, fun _ => true) st1
  | .lck xs => .ok (xs, fun _ => true) st1
  | _ => .stuck
theorem walk_lst {K : PySem.W.Frag} {w0 : Wd} {a : Addr} {vs : List V} {ds : List D} (h : ∀ w H st, Le w0 w → Rel K T w H st → SqL K H a vs) (hd : Dats w0 vs ds) (inj : ∀ w H st, Le w0 w → Rel K T w H st → ∀ xs, SqL K H a xs → True) : Walk K T (Itl K a) ds (fun _ => true) w0 where
  stop := fun w H st l r _ => ⟨vs, h w H st l r, by rw [hd.length]; exact Nat.le_refl _⟩
  go := fun i d w H st l r _ e => by
    obtain ⟨v, h1, _⟩ := hd.get e
    exact ⟨vs, v, h w H st l r, h1⟩
  yld := fun i d w H st x H' l r _ e y => by
    obtain ⟨rfl, y⟩ := y
    obtain ⟨v, h1, h2⟩ := hd.get e
    have z := y vs (h w _ st l r)
    rw [h1] at z
    cases z
    exact ⟨w, Stp.refl w _, r, h2.mono l⟩
theorem sim_iL {K : PySem.W.Frag} {f : LE} : Sim K T E (WalkR K T) (iList K (tOf K T E Dat f)) (iL f) := fun w σ H env st Q he r p => by
  refine ⟨w, env, st, he, r, Post.bind (rel := Dat) p fun w1 x H1 d st1 s1 r1 dx p1 => ?_⟩
  cases dx with
  | @lst a vs ds hF hd => exact ⟨a, rfl, ⟨vs, SqL.of (r1.fr _ _ hF)⟩, p1.here r1 (walk_lst (fun w H st l r => SqL.of (r.fr _ _ (l.fr _ _ hF))) hd fun _ _ _ _ _ _ _ => True.intro)⟩
  | @lck a vs ds hF hd => exact ⟨a, rfl, ⟨vs, r1.sc hF⟩, p1.here r1 (walk_lst (fun w H st l r => r.sc (by rw [l.scr]; exact hF)) hd fun _ _ _ _ _ _ _ => True.intro)⟩
  | _ => exact p1.elim
theorem i_list {tg l : Expr} {f : LE} (h : PEf X T E l f) : PIf X T E tg l (iL f) := pi_to (pi_list h) sim_iL
/-- a list that is a cell: walked as it stands -/
def iC (f : LE) : LI := fun env st => (f env st).bind fun d st1 => match d with
  | .ref k => (match st1[k]? with
    | some (.lst xs) => .ok (xs, fun st => (match st[k]? with
      | some (.lst ys) => ys.length == xs.length && (List.range xs.length).all fun i => i < xs.length
      | _ => false)) st1
    | _ => .stuck)
  | _ => .stuck
/-- a tuple -/
def iT (f : LE) : LI := fun env st => (f env st).bind fun d st1 => match d with
  | .tup xs => .ok (xs, fun _ => true) st1
  | _ => .stuck
theorem sim_iT {K : PySem.W.Frag} {f : LE} : Sim K T E (WalkR K T) (iTup K (tOf K T E Dat f)) (iT f) := fun w σ H env st Q he r p => by
  refine ⟨w, env, st, he, r, Post.bind (rel := Dat) p fun w1 x H1 d st1 s1 r1 dx p1 => ?_⟩
  cases dx with
  | @tup a vs ds hF hd =>
    refine ⟨a, rfl, ⟨vs, SqT.of (r1.fr _ _ hF)⟩, p1.here r1 ⟨fun w H st l r _ => ⟨vs, SqT.of (r.fr _ _ (l.fr _ _ hF)), by rw [hd.length]; exact Nat.le_refl _⟩, fun i d w H st l r _ e => ?_, fun i d w H st x H' l r _ e y => ?_⟩⟩
    · obtain ⟨v, h1, _⟩ := hd.get e
      exact ⟨vs, v, SqT.of (r.fr _ _ (l.fr _ _ hF)), h1⟩
    · obtain ⟨rfl, y⟩ := y
      obtain ⟨v, h1, h2⟩ := hd.get e
      have z := y vs (SqT.of (r.fr _ _ (l.fr _ _ hF)))
      rw [h1] at z
      cases z
      exact ⟨w, Stp.refl w _, r, h2.mono l⟩
  | _ => exact p1.elim
theorem i_tup {tg l : Expr} {f : LE} (h : PEf X T E l f) : PIf X T E tg l (iT f) := pi_to (pi_tup h) sim_iT
/-- range -/
def rgD (lo c : Int) (n : Nat) : List D := (List.range n).map fun i => .int (lo + (i : Nat) * c)
def iR1 (g : LA) : LI := fun env st => (g env st).bind fun ds st1 => match ds with
  | [.int j] => if -(2 ^ 62) ≤ j ∧ j < 2 ^ 62 then .ok (rgD 0 1 j.toNat, fun _ => true) st1 else .stuck
  | _ => .stuck
def iR2 (g : LA) : LI := fun env st => (g env st).bind fun ds st1 => match ds with
  | [.int i, .int j] => if -(2 ^ 62) ≤ i ∧ i < 2 ^ 62 ∧ -(2 ^ 62) ≤ j ∧ j < 2 ^ 62 then .ok (rgD i 1 (j - i).toNat, fun _ => true) st1 else .stuck
  | _ => .stuck
theorem rgD_get {lo c : Int} {n i : Nat} {d : D} (h : (rgD lo c n)[i]? = some d) : i < n ∧ d = .int (lo + (i : Nat) * c) := by
  unfold rgD at h
  rw [List.getElem?_map] at h
  by_cases q : i < n
  · rw [List.getElem?_range q] at h
    cases h
    exact ⟨q, rfl⟩
  · rw [List.getElem?_eq_none (by simpa using q)] at h
    cases h
theorem walk_r {K : PySem.W.Frag} {w0 : Wd} {lo : Int} {n : Nat} : Walk K T (Itr lo n) (rgD lo 1 n) (fun _ => true) w0 where
  stop := fun w H st l r _ => by
    show n ≤ (rgD lo 1 n).length
    simp [rgD]
  go := fun i d w H st l r _ e => (rgD_get e).1
  yld := fun i d w H st x H' l r _ e y => by
    obtain ⟨rfl, rfl⟩ := y
    rw [(rgD_get e).2]
    have z : lo + (i : Int) * 1 = lo + (i : Int) := by omega
    rw [z]
    exact ⟨w, Stp.refl w _, r, .int _⟩
theorem i_range1 {tg a : Expr} {g : LA} {p pos : Pos} (hm : X.mg "range" = none) (ha : PAf X T E [a] g) (hg : Gl X "range" := by rfl) (hs : starEach [a] X.env = [(false, eval a X.env)] := by rfl) : PIf X T E tg (.Call (.Name "range" p) [a] [] pos) (iR1 g) := pi_to (pi_range1 hg hm ha hs) fun w σ H env st Q he r p => by
  refine ⟨w, env, st, he, r, Post.bind (rel := Dats) p fun w1 x H1 ds st1 s1 r1 dx p1 => ?_⟩
  cases dx with
  | nil => exact p1.elim
  | cons d1 dr =>
    cases d1 with
    | int j =>
      cases dr with
      | nil =>
        have p2 : Post X.K T E (WalkR X.K T) w1 H1 (if -(2 ^ 62) ≤ j ∧ j < 2 ^ 62 then .ok (rgD 0 1 j.toNat, fun _ => true) st1 else .stuck) Q := p1
        by_cases q : -(2 ^ 62) ≤ j ∧ j < 2 ^ 62
        · rw [if_pos q] at p2
          exact ⟨j, rfl, q.1, q.2, p2.here r1 walk_r⟩
        · rw [if_neg q] at p2
          exact p2.elim
      | cons _ _ => exact p1.elim
    | _ => exact p1.elim
theorem i_range2 {tg a b : Expr} {g : LA} {p pos : Pos} (hm : X.mg "range" = none) (ha : PAf X T E [a, b] g) (hg : Gl X "range" := by rfl) (hs : starEach [a, b] X.env = [(false, eval a X.env), (false, eval b X.env)] := by rfl) (hs2 : starEach [b] X.env = [(false, eval b X.env)] := by rfl) : PIf X T E tg (.Call (.Name "range" p) [a, b] [] pos) (iR2 g) := pi_to (pi_range2 hg hm ha hs hs2) fun w σ H env st Q he r p => by
  refine ⟨w, env, st, he, r, Post.bind (rel := Dats) p fun w1 x H1 ds st1 s1 r1 dx p1 => ?_⟩
  cases dx with
  | nil => exact p1.elim
  | cons d1 dr =>
    cases d1 with
    | int i =>
      cases dr with
      | nil => exact p1.elim
      | cons d2 dr =>
        cases d2 with
        | int j =>
          cases dr with
          | nil =>
            have p2 : Post X.K T E (WalkR X.K T) w1 H1 (if -(2 ^ 62) ≤ i ∧ i < 2 ^ 62 ∧ -(2 ^ 62) ≤ j ∧ j < 2 ^ 62 then .ok (rgD i 1 (j - i).toNat, fun _ => true) st1 else .stuck) Q := p1
            by_cases q : -(2 ^ 62) ≤ i ∧ i < 2 ^ 62 ∧ -(2 ^ 62) ≤ j ∧ j < 2 ^ 62
            · rw [if_pos q] at p2
              exact ⟨i, j, rfl, q, p2.here r1 walk_r⟩
            · rw [if_neg q] at p2
              exact p2.elim
          | cons _ _ => exact p1.elim
        | _ => exact p1.elim
    | _ => exact p1.elim
/-- enumerate of a list -/
def numD : Nat → List D → List D
  | _, [] => []
  | n, d :: ds => .tup [.int (n : Nat), d] :: numD (n + 1) ds
theorem numD_get : ∀ {ds : List D} {n i : Nat} {d : D}, (numD n ds)[i]? = some d → ∃ d', ds[i]? = some d' ∧ d = .tup [.int ((n + i : Nat) : Int), d']
  | [], n, i, d, h => by simp [numD] at h
  | x :: ds, n, 0, d, h => by
    simp [numD] at h
    exact ⟨x, rfl, by rw [← h]; simp⟩
  | x :: ds, n, i + 1, d, h => by
    have h' : (numD (n + 1) ds)[i]? = some d := by simpa [numD] using h
    obtain ⟨d', h1, h2⟩ := numD_get h'
    exact ⟨d', by simpa using h1, by rw [h2, show n + 1 + i = n + (i + 1) by omega]⟩
theorem numD_length : ∀ (ds : List D) (n : Nat), (numD n ds).length = ds.length
  | [], _ => rfl
  | _ :: ds, n => by simp [numD, numD_length ds]
def iE (g : LA) : LI := fun env st => (g env st).bind fun ds st1 => match ds with
  | [.lst xs] => .ok (numD 0 xs, fun _ => true) st1
  | _ => .stuck
end
end Fk
/-! FkE: enumerate, reversed, list comprehensions. -/
namespace Fk
open PySem PySem.Spec PyProof.Rows L2
section
variable {X : Cx} {T : List (Addr × Str)} {E : XK} {pos : Pos} {K : PySem.W.Frag}
theorem i_enum {e : Expr} {g : LA} {p tpos : Pos} {elts : List Expr} {kk : Nat} (hm : X.mg "enumerate" = none) (ha : PAf X T E [e] g) (hg : Gl X "enumerate" := by rfl) (hs : starEach [e] X.env = [(false, eval e X.env)] := by rfl) :
    PIf X T E (.Tuple elts kk tpos) (.Call (.Name "enumerate" p) [e] [] pos) (iE g) := pi_to (pi_enum hg hm ha hs) fun w σ H env st Q he r p => by
  refine ⟨w, env, st, he, r, Post.bind (rel := Dats) p fun w1 x H1 ds st1 s1 r1 dx p1 => ?_⟩
  cases dx with
  | nil => exact p1.elim
  | cons d1 dr =>
    cases dr with
    | cons _ _ => cases d1 <;> exact p1.elim
    | nil =>
      cases d1 with
      | @lst a vs ds hF hd =>
        refine ⟨a, vs, rfl, SqL.of (r1.fr _ _ hF), p1.here r1 ⟨fun w H st l r _ => ⟨vs, SqL.of (r.fr _ _ (l.fr _ _ hF)), by rw [hd.length]; simp [numD_length]⟩, fun i d w H st l r _ e => ?_, fun i d w H st x H' l r _ e y => ?_⟩⟩
        · obtain ⟨d', h1, _⟩ := numD_get e
          obtain ⟨v, h2, _⟩ := hd.get h1
          exact ⟨vs, v, SqL.of (r.fr _ _ (l.fr _ _ hF)), h2⟩
        · obtain ⟨d', h1, rfl⟩ := numD_get e
          obtain ⟨v, h2, h3⟩ := hd.get h1
          obtain ⟨t, x', rfl, ht, rfl, hx⟩ := y
          have z := hx vs (SqL.of (r.fr _ _ (l.fr _ _ hF)))
          rw [h2] at z
          cases z
          obtain ⟨s2, r2⟩ := r.laid ht (.tup [.int (i : Nat), v])
          refine ⟨_, s2, r2, .tup upd_same (.cons ?_ (.cons ((h3.mono l).mono s2.le) .nil))⟩
          rw [Nat.zero_add]
          exact .int _
      | _ => exact p1.elim
def iRv (g : LA) : LI := fun env st => (g env st).bind fun ds st1 => match ds with
  | [.lst xs] => .ok (xs.reverse, fun _ => true) st1
  | _ => .stuck
theorem i_rev {tg e : Expr} {g : LA} {p : Pos} (hm : X.mg "reversed" = none) (ha : PAf X T E [e] g) (hg : Gl X "reversed" := by rfl) (hs : starEach [e] X.env = [(false, eval e X.env)] := by rfl) :
    PIf X T E tg (.Call (.Name "reversed" p) [e] [] pos) (iRv g) := pi_to (pi_reversed hg hm ha hs) fun w σ H env st Q he r p => by
  refine ⟨w, env, st, he, r, Post.bind (rel := Dats) p fun w1 x H1 ds st1 s1 r1 dx p1 => ?_⟩
  cases dx with
  | nil => exact p1.elim
  | cons d1 dr =>
    cases dr with
    | cons _ _ => cases d1 <;> exact p1.elim
    | nil =>
      cases d1 with
      | @lst a vs ds hF hd =>
        have key : ∀ (i : Nat) (d : D), ds.reverse[i]? = some d → i < vs.length ∧ ∃ v, vs[vs.length - 1 - i]? = some v ∧ Dat w1 v d := fun i d e => by
          obtain ⟨v, h1, h2⟩ := hd.reverse.get e
          have hi := (List.getElem?_eq_some_iff.mp h1).1
          rw [List.length_reverse] at hi
          rw [List.getElem?_reverse hi] at h1
          exact ⟨hi, v, h1, h2⟩
        refine ⟨a, vs, rfl, SqL.of (r1.fr _ _ hF), p1.here r1 ⟨fun w H st l r _ => ?_, fun i d w H st l r _ e => ?_, fun i d w H st x H' l r _ e y => ?_⟩⟩
        · show vs.length ≤ ds.reverse.length
          rw [hd.length]
          simp
        · obtain ⟨hi, v, h1, _⟩ := key i d e
          exact ⟨hi, vs, v, SqL.of (r.fr _ _ (l.fr _ _ hF)), h1⟩
        · obtain ⟨hi, v, h1, h2⟩ := key i d e
          obtain ⟨rfl, y⟩ := y
          have z := y vs (SqL.of (r.fr _ _ (l.fr _ _ hF)))
          rw [h1] at z
          cases z
          exact ⟨w, Stp.refl w _, r, h2.mono l⟩
      | _ => exact p1.elim
end
/-! ### a list that grows, in no one's sight -/
structure Acc (K : PySem.W.Frag) (T : List (Addr × Str)) (w1 : Wd) (H1 : Hp) (L : Addr) (w : Wd) (H : Hp) (st : Store) (acc : List V) (ds : List D) : Prop where
  stp : Stp w1 H1 w H
  rel : Rel K T w H st
  hL : H L = some (.lst acc)
  nF : w.F L = none
  nA : L ∉ w.ads
  dats : Dats w acc ds
section
variable {T : List (Addr × Str)} {E : XK} {K : PySem.W.Frag} {w1 w w2 : Wd} {H1 H H2 : Hp} {L : Addr} {st st2 : Store} {acc : List V} {ds : List D}
theorem Rel.away (r : Rel K T w H st) {L : Addr} {o o' : HO} (hL : H L = some o) (ho : ∀ ps, o ≠ .tbl ps) (hc : ∀ c q, o ≠ LamX.CodeO c q) (nF : w.F L = none) (nA : L ∉ w.ads) : Rel K T w (upd H L o') st where
  fr := fun a u h => by
    rw [upd_ne (fun z => by rw [z, nF] at h; cases h)]
    exact r.fr a u h
  len := r.len
  nd := r.nd
  at_ := fun k c p h1 h2 => (r.at_ k c p h1 h2).mono (Le.refl w) (fun hd => (r.at_ k c p h1 h2).noF hd) fun u e => by
    rw [upd_ne (fun z => nA (by rw [← z]; exact List.mem_of_getElem? h2))]
    exact e
  scr := r.scr
  tabs := fun t ht => by
    obtain ⟨ps, h1, h2, h3⟩ := r.tabs t ht
    refine ⟨ps, ?_, h2, fun pos cv hcv => ?_⟩
    · rw [upd_ne (fun z => by rw [z, hL] at h1; exact ho ps (Option.some.inj h1))]
      exact h1
    · obtain ⟨c', e1, e2⟩ := h3 pos cv hcv
      refine ⟨c', e1, ?_⟩
      rw [upd_ne (fun z => by rw [z, hL] at e2; exact hc _ _ (Option.some.inj e2))]
      exact e2
theorem Acc.start (r : Rel K T w1 H1 st) (hL : H1 L = none) : Acc K T w1 H1 L w1 (upd H1 L (.lst [])) st [] [] := by
  have nA : L ∉ w1.ads := fun z => r.there z hL
  have hk : ∀ a u, H1 a = some u → upd H1 L (.lst []) a = some u := fun a u h => by
    rw [upd_ne (fun z => by rw [z, hL] at h; cases h)]
    exact h
  refine ⟨⟨Le.refl _, fun p h n => absurd h n, fun a u h _ _ => hk a u h, fun a h => ?_, fun a h n => absurd n h⟩, ⟨fun a u h => hk a u (r.fr a u h), r.len, r.nd, fun k c p h1 h2 => (r.at_ k c p h1 h2).mono (Le.refl _) (fun hd => (r.at_ k c p h1 h2).noF hd) (hk p), tabs_ext r.tabs hk, r.scr⟩, upd_same, r.freeF hL, nA, .nil⟩
  cases q : H1 a with
  | none => rfl
  | some u =>
    rw [hk a u q] at h
    cases h
theorem Acc.step (a : Acc K T w1 H1 L w H st acc ds) (s : Stp w H w2 H2) (r : Rel K T w2 H2 st2) : Acc K T w1 H1 L w2 H2 st2 acc ds where
  stp := a.stp.trans s
  rel := r
  hL := s.keep L _ a.hL a.nA (by intro _ z; cases z)
  nF := by
    by_cases q : w2.F L = none
    · exact q
    · rcases s.newF L q a.nF with z | z
      · rw [a.hL] at z
        cases z
      · exact absurd z a.nA
  nA := fun z => by
    have := s.new L z a.nA
    rw [a.hL] at this
    cases this
  dats := a.dats.mono s.le
theorem Acc.push (a : Acc K T w1 H1 L w H st acc ds) (h0 : H1 L = none) {y : V} {d : D} (dy : Dat w y d) : Acc K T w1 H1 L w (upd H L (.lst (acc ++ [y]))) st (acc ++ [y]) (ds ++ [d]) where
  stp := ⟨a.stp.le, a.stp.new, fun b o h n t => by
    rw [upd_ne (fun z => by rw [z, h0] at h; cases h)]
    exact a.stp.keep b o h n t, fun b h => by
    by_cases z : b = L
    · rw [z, upd_same] at h
      cases h
    · rw [upd_ne z] at h
      exact a.stp.free b h, a.stp.newF⟩
  rel := a.rel.away a.hL (by intro _ z; cases z) (by intro _ _ z; unfold LamX.CodeO at z; cases z) a.nF a.nA
  hL := upd_same
  nF := a.nF
  nA := a.nA
  dats := a.dats.append (.one dy)
/-- it stays -/
theorem Acc.done (a : Acc K T w1 H1 L w H st acc ds) (h0 : H1 L = none) : Stp w1 H1 ⟨upd w.F L (.lst acc), w.ads, w.S⟩ H ∧ Rel K T ⟨upd w.F L (.lst acc), w.ads, w.S⟩ H st ∧ Dat ⟨upd w.F L (.lst acc), w.ads, w.S⟩ (.ref L) (.lst ds) := by
  have le : Le w ⟨upd w.F L (.lst acc), w.ads, w.S⟩ := ⟨fun b u h => by
    show upd w.F L (.lst acc) b = some u
    rw [upd_ne (fun z => by rw [z, a.nF] at h; cases h)]
    exact h, fun _ _ h => h, rfl⟩
  refine ⟨⟨a.stp.le.trans le, a.stp.new, a.stp.keep, a.stp.free, fun b h n => ?_⟩, ⟨fun b u h => ?_, a.rel.len, a.rel.nd, fun k c p h1 h2 => ?_, a.rel.tabs, a.rel.scr.le le⟩, .lst upd_same (a.dats.mono le)⟩
  · have h' : upd w.F L (.lst acc) b ≠ none := h
    by_cases z : b = L
    · rw [z]
      exact .inl h0
    · rw [upd_ne z] at h'
      exact a.stp.newF b h' n
  · have h' : upd w.F L (.lst acc) b = some u := h
    by_cases z : b = L
    · rw [z, upd_same] at h'
      rw [z, a.hL]
      exact h'
    · rw [upd_ne z] at h'
      exact a.rel.fr b u h'
  · have x := a.rel.at_ k c p h1 h2
    refine x.mono le (fun hd => ?_) fun u e => e
    show upd w.F L (.lst acc) p = none
    rw [upd_ne (fun z => a.nA (by rw [← z]; exact List.mem_of_getElem? h2))]
    exact x.noF hd
/-- it is a cell -/
theorem Acc.doneC (a : Acc K T w1 H1 L w H st acc ds) (h0 : H1 L = none) : Stp w1 H1 ⟨w.F, w.ads ++ [L], w.S⟩ H ∧ Rel K T ⟨w.F, w.ads ++ [L], w.S⟩ H (st ++ [.lst ds]) ∧ Dat ⟨w.F, w.ads ++ [L], w.S⟩ (.ref L) (.ref st.length) := by
  have le : Le w ⟨w.F, w.ads ++ [L], w.S⟩ := ⟨fun _ _ h => h, fun k q h => by
    show (w.ads ++ [L])[k]? = some q
    rw [List.getElem?_append_left (List.getElem?_eq_some_iff.mp h).1]
    exact h, rfl⟩
  refine ⟨⟨a.stp.le.trans le, fun p h n => ?_, a.stp.keep, a.stp.free, a.stp.newF⟩, ⟨a.rel.fr, by simp [a.rel.len], ?_, fun k d q h1 h2 => ?_, a.rel.tabs, a.rel.scr.le le⟩, .ref ?_⟩
  · have h' : p ∈ w.ads ++ [L] := h
    rcases List.mem_append.mp h' with h | h
    · exact a.stp.new p h n
    · have e : p = L := by simpa using h
      rw [e]
      exact h0
  · show (w.ads ++ [L]).Nodup
    rw [List.nodup_append]
    refine ⟨a.rel.nd, by simp, fun x hx b hb => ?_⟩
    have e : b = L := by simpa using hb
    rw [e]
    intro z
    exact a.nA (by rw [← z]; exact hx)
  · have h2' : (w.ads ++ [L])[k]? = some q := h2
    by_cases hlt : k < st.length
    · rw [List.getElem?_append_left hlt] at h1
      rw [List.getElem?_append_left (by rw [a.rel.len]; exact hlt)] at h2'
      exact (a.rel.at_ k d q h1 h2').mono le (fun hd => (a.rel.at_ k d q h1 h2').noF hd) fun u e => e
    · have hk2 : k = st.length := by
        have := (List.getElem?_eq_some_iff.mp h1).1
        simp at this
        omega
      subst hk2
      rw [List.getElem?_append_right (Nat.le_refl _), Nat.sub_self] at h1
      rw [List.getElem?_append_right (by rw [a.rel.len]; exact Nat.le_refl _), a.rel.len, Nat.sub_self] at h2'
      simp at h1 h2'
      subst h1 h2'
      exact ⟨a.nF, acc, a.hL, a.dats.mono le⟩
  · show (w.ads ++ [L])[st.length]? = some L
    rw [← a.rel.len]
    simp
end
/-! ### comprehensions -/
theorem EnvR.wipe {w : Wd} {σ : L2.St} {env : DEnv} (e : EnvR w σ env) : ∀ vs : List Nat, EnvR w (wipe σ vs) (wipeD env vs)
  | [] => e
  | v :: vs => (EnvR.wipe e vs).del v none
theorem wipe_idem (σ : L2.St) (vs : List Nat) : wipe (wipe σ vs) vs = wipe σ vs := by
  have g : ∀ us : List Nat, (∀ u ∈ us, u ∈ vs) → wipe (wipe σ us) vs = wipe σ vs := fun us => by
    induction us with
    | nil => intro _; rfl
    | cons u us ih =>
      intro h
      show wipe ((wipe σ us).set u none) vs = wipe σ vs
      rw [wipe_set (h u List.mem_cons_self), ih fun x hx => h x (List.mem_cons_of_mem _ hx)]
  exact g vs fun _ h => h
abbrev EN : XK := fun _ _ _ => False
/-- no error comes out of here -/
def noex {α : Type} (r : Res α) : Res α := match r with
  | .ex _ _ => .stuck
  | r => r
theorem Post.noex {K : PySem.W.Frag} {T : List (Addr × Str)} {E E' : XK} {α β : Type} {rel : Wd → β → α → Prop} {w : Wd} {H : Hp} {r : Res α} {Q : β → Hp → Prop} (h : Post K T E rel w H (noex r) Q) : Post K T E' rel w H r Q := by
  cases r with
  | ok d st => exact h
  | ex x st => exact h.elim
  | stuck => exact h
def lcRun (g : Store → Bool) (lg : LG) (ft : LT) (fe : LE) (envw : DEnv) : List D → Store → Res (List D)
  | [], st => if g st = true then .ok [] st else .stuck
  | d :: ds, st => if g st = true then (match lg d envw st with
    | .nx e1 s1 => (noex (ft e1 s1)).bind fun b s2 => if b = true then (noex (fe e1 s2)).bind fun y s3 => (lcRun g lg ft fe envw ds s3).bind fun ys s4 => .ok (y :: ys) s4 else lcRun g lg ft fe envw ds s2
    | _ => .stuck) else .stuck
/-- [e for x in it if t]: a list that stays; a cell -/
def fLc (fi : LI) (lg : LG) (ft : LT) (fe : LE) (vs : List Nat) : LE := fun env st => (fi env st).bind fun it st1 => (lcRun it.2 lg ft fe (wipeD env vs) it.1 st1).bind fun ys st2 => if ys.length ≤ lim then .ok (.lst ys) st2 else .stuck
def fLcC (fi : LI) (lg : LG) (ft : LT) (fe : LE) (vs : List Nat) : LE := fun env st => (fi env st).bind fun it st1 => (lcRun it.2 lg ft fe (wipeD env vs) it.1 st1).bind fun ys st2 => if ys.length ≤ lim then .ok (.ref st2.length) (st2 ++ [.lst ys]) else .stuck
section
variable {T : List (Addr × Str)} {E : XK} {K : PySem.W.Frag}
/-- Fin: what is wanted of the end -/
def LcEnd (K : PySem.W.Frag) (T : List (Addr × Str)) (w1 : Wd) (H1 : Hp) (L : Addr) (Q : VK) (ds : List D) (st : Store) : Prop := ∀ w H acc, Acc K T w1 H1 L w H st acc ds → Q (.ref L) H
theorem Res.bind_ok {α β : Type} {r : Res α} {f : α → Store → Res β} {b : β} {s : Store} (h : r.bind f = .ok b s) : ∃ a s', r = .ok a s' ∧ f a s' = .ok b s := by
  cases r with
  | ok a st => exact ⟨a, st, rfl, h⟩
  | ex x st => cases h
  | stuck => cases h
theorem lc_core {fi : LI} {lg : LG} {ft : LT} {fe : LE} {vs : List Nat} {w : Wd} {σ : L2.St} {H : Hp} {env : DEnv} {Q : VK} {J : It} {items : List D} {g : Store → Bool} {st1 st2 : Store} {ys : List D} (he : EnvR w σ env) (r1 : Rel K T w H st1) (wk : Walk K T J items g w)
    (hrun : lcRun g lg ft fe (wipeD env vs) items st1 = .ok ys st2) (hlim : ys.length ≤ lim) {L : Addr} (hL : H L = none) (fin : LcEnd K T w H L Q ys st2) :
    ∃ W : Nat → Nat → Hp → Prop, (∃ m, W 0 m (upd H L (.lst []))) ∧ ∀ i m H, W i m H →
      (J.stop i H ∧ Q (.ref L) H) ∨ (J.go i H ∧ ∃ Nx : Hp → Prop, (∀ H', Nx H' → ∃ m', m' < m ∧ W (i + 1) m' H') ∧ ∀ x H', J.yld i H x H' → tOfG K T EN (some vs) lg x (wipe σ vs) H' fun σ2 H2 => wipe σ2 vs = wipe σ vs ∧
        tOf K T EN eqB ft σ2 H2 fun b H3 => if b = true then tOf K T EN Dat fe σ2 H3 fun y H4 => ∃ acc, H4 L = some (.lst acc) ∧ acc.length < sizeLine ∧ Nx (upd H4 L (.lst (acc ++ [y]))) else Nx H3) := by
  refine ⟨fun i m H' => m = items.length - i ∧ i ≤ items.length ∧ ∃ w' st' acc ds zs, Acc K T w H L w' H' st' acc ds ∧ lcRun g lg ft fe (wipeD env vs) (items.drop i) st' = .ok zs st2 ∧ ds ++ zs = ys,
    ⟨items.length, by simp, Nat.zero_le _, w, st1, [], [], ys, Acc.start r1 hL, by simpa using hrun, rfl⟩, ?_⟩
  rintro i m H' ⟨rfl, hi, w', st', acc, ds, zs, a, hr, hz⟩
  by_cases hlt : i < items.length
  · have hd : items[i]? = some items[i] := List.getElem?_eq_getElem hlt
    have hdrop : items.drop i = items[i] :: items.drop (i + 1) := by rw [List.drop_eq_getElem_cons hlt]
    rw [hdrop] at hr
    unfold lcRun at hr
    by_cases hg : g st' = true
    · rw [if_pos hg] at hr
      refine .inr ⟨wk.go i _ w' H' st' a.stp.le a.rel hg hd, fun H'' => ∃ w' st' acc ds zs, Acc K T w H L w' H'' st' acc ds ∧ lcRun g lg ft fe (wipeD env vs) (items.drop (i + 1)) st' = .ok zs st2 ∧ ds ++ zs = ys, fun H'' hN => ⟨items.length - (i + 1), by omega, rfl, hlt, hN⟩, fun x H3 hy => ?_⟩
      obtain ⟨w3, s3, r3, dx⟩ := wk.yld i _ w' H' st' x H3 a.stp.le a.rel hg hd hy
      have a3 := a.step s3 r3
      have he3 : EnvR w3 (wipe σ vs) (wipeD env vs) := (he.wipe vs).mono a3.stp.le
      refine ⟨w3, items[i], wipeD env vs, st', he3, r3, dx, ?_⟩
      cases q : lg items[i] (wipeD env vs) st' with
      | nx e4 st4 =>
        rw [q] at hr
        dsimp only at hr
        refine fun w4 σ4 H4 s4 e4' r4 hw => ⟨(hw vs rfl).trans (wipe_idem σ vs), w4, e4, st4, e4', r4, ?_⟩
        have a4 := a3.step s4 r4
        obtain ⟨b, st5, hb, hr⟩ := Res.bind_ok hr
        cases q2 : ft e4 st4 with
        | ex _ _ => rw [q2] at hb; cases hb
        | stuck => rw [q2] at hb; cases hb
        | ok b' st5' =>
          rw [q2] at hb
          cases hb
          intro w5 c H5 s5 r5 hc
          cases (show c = b from hc)
          have a5 := a4.step s5 r5
          cases b with
          | false =>
            rw [if_neg Bool.false_ne_true] at hr ⊢
            exact ⟨w5, st5, acc, ds, zs, a5, hr, hz⟩
          | true =>
            rw [if_pos rfl] at hr ⊢
            refine ⟨w5, e4, st5, e4'.mono s5.le, r5, ?_⟩
            obtain ⟨y, st6, hy6, hr⟩ := Res.bind_ok hr
            obtain ⟨ys', st7, hy7, hr⟩ := Res.bind_ok hr
            cases q3 : fe e4 st5 with
            | ex _ _ => rw [q3] at hy6; cases hy6
            | stuck => rw [q3] at hy6; cases hy6
            | ok y' st6' =>
              rw [q3] at hy6
              cases hy6
              cases hr
              intro w6 v H6 s6 r6 dv
              have a6 := a5.step s6 r6
              refine ⟨acc, a6.hL, ?_, w6, st6, acc ++ [v], ds ++ [y], ys', a6.push hL dv, hy7, by rw [← hz]; simp⟩
              rw [a6.dats.length, lim_eq]
              have hl : ys.length = ds.length + (ys'.length + 1) := by rw [← hz]; simp
              omega
      | ex x e4 st4 => rw [q] at hr; cases hr
      | bk e4 st4 => rw [q] at hr; cases hr
      | ct e4 st4 => rw [q] at hr; cases hr
      | rt d st4 => rw [q] at hr; cases hr
      | stuck => rw [q] at hr; cases hr
    · rw [if_neg hg] at hr
      cases hr
  · have e : i = items.length := by omega
    subst e
    have hdrop : items.drop items.length = [] := by simp
    rw [hdrop] at hr
    unfold lcRun at hr
    by_cases hg : g st' = true
    · rw [if_pos hg] at hr
      cases hr
      rw [List.append_nil] at hz
      subst hz
      exact .inl ⟨wk.stop w' H' _ a.stp.le a.rel hg, fin w' H' acc a⟩
    · rw [if_neg hg] at hr
      cases hr
theorem sim_lc {fi : LI} {lg : LG} {ft : LT} {fe : LE} {vs : List Nat} : Sim K T E Dat (tLc (tOf K T E (WalkR K T) fi) (tOfG K T EN (some vs) lg) (tOf K T EN eqB ft) (tOf K T EN Dat fe) vs) (fLc fi lg ft fe vs) := fun w σ H env st Q he r p => by
  refine ⟨w, env, st, he, r, Post.bind (rel := WalkR K T) p fun w1 J H1 it st1 s1 r1 wk p1 => ?_⟩
  obtain ⟨items, g⟩ := it
  intro L hL
  cases q : lcRun g lg ft fe (wipeD env vs) items st1 with
  | ok ys st2 =>
    have p2 : Post K T E Dat w1 H1 (if ys.length ≤ lim then .ok (.lst ys) st2 else .stuck) Q := by
      have p' : Post K T E Dat w1 H1 ((lcRun g lg ft fe (wipeD env vs) items st1).bind fun ys st2 => if ys.length ≤ lim then .ok (.lst ys) st2 else .stuck) Q := p1
      rw [q] at p'
      exact p'
    by_cases hl : ys.length ≤ lim
    · rw [if_pos hl] at p2
      refine lc_core (fi := fi) (he.mono s1.le) r1 wk q hl hL fun w' H' acc a => ?_
      obtain ⟨s2, r2, d2⟩ := a.done hL
      exact p2 _ _ _ s2 r2 d2
    · rw [if_neg hl] at p2
      exact p2.elim
  | ex x st2 =>
    have key : ∀ (items : List D) (st : Store) x s, lcRun g lg ft fe (wipeD env vs) items st ≠ .ex x s := fun items => by
      induction items with
      | nil =>
        intro st x s h
        unfold lcRun at h
        split at h <;> cases h
      | cons d ds ih =>
        intro st x s h
        unfold lcRun at h
        split at h
        · split at h
          · rename_i e1 s1 _
            cases q2 : ft e1 s1 with
            | ok b s2 =>
              rw [q2] at h
              dsimp only [noex, Res.bind] at h
              split at h
              · cases q3 : fe e1 s2 with
                | ok y s3 =>
                  rw [q3] at h
                  dsimp only [noex, Res.bind] at h
                  cases q4 : lcRun g lg ft fe (wipeD env vs) ds s3 with
                  | ok ys s4 => rw [q4] at h; cases h
                  | ex x4 s4 => exact ih s3 x4 s4 q4
                  | stuck => rw [q4] at h; cases h
                | ex _ _ => rw [q3] at h; cases h
                | stuck => rw [q3] at h; cases h
              · exact ih _ _ _ h
            | ex _ _ => rw [q2] at h; cases h
            | stuck => rw [q2] at h; cases h
          · cases h
        · cases h
    exact absurd q (key items st1 x st2)
  | stuck =>
    have p' : Post K T E Dat w1 H1 ((lcRun g lg ft fe (wipeD env vs) items st1).bind fun ys st2 => if ys.length ≤ lim then .ok (.lst ys) st2 else .stuck) Q := p1
    rw [q] at p'
    exact p'.elim
end
end Fk
/-! FkF: comprehensions as rules, two clauses, fields, calls, a def. -/
namespace Fk
open PySem PySem.Spec PyProof.Rows L2
section
variable {T : List (Addr × Str)} {E : XK} {K : PySem.W.Frag}
theorem lcRun_noex {g : Store → Bool} {lg : LG} {ft : LT} {fe : LE} {envw : DEnv} : ∀ (items : List D) (st : Store) x s, lcRun g lg ft fe envw items st ≠ .ex x s := fun items => by
  induction items with
  | nil =>
    intro st x s h
    unfold lcRun at h
    split at h <;> cases h
  | cons d ds ih =>
    intro st x s h
    unfold lcRun at h
    split at h
    · split at h
      · rename_i e1 s1 _
        cases q2 : ft e1 s1 with
        | ok b s2 =>
          rw [q2] at h
          dsimp only [noex, Res.bind] at h
          split at h
          · cases q3 : fe e1 s2 with
            | ok y s3 =>
              rw [q3] at h
              dsimp only [noex, Res.bind] at h
              cases q4 : lcRun g lg ft fe envw ds s3 with
              | ok ys s4 => rw [q4] at h; cases h
              | ex x4 s4 => exact ih s3 x4 s4 q4
              | stuck => rw [q4] at h; cases h
            | ex _ _ => rw [q3] at h; cases h
            | stuck => rw [q3] at h; cases h
          · exact ih _ _ _ h
        | ex _ _ => rw [q2] at h; cases h
        | stuck => rw [q2] at h; cases h
      · cases h
    · cases h
theorem sim_lcC {fi : LI} {lg : LG} {ft : LT} {fe : LE} {vs : List Nat} : Sim K T E Dat (tLc (tOf K T E (WalkR K T) fi) (tOfG K T EN (some vs) lg) (tOf K T EN eqB ft) (tOf K T EN Dat fe) vs) (fLcC fi lg ft fe vs) := fun w σ H env st Q he r p => by
  refine ⟨w, env, st, he, r, Post.bind (rel := WalkR K T) p fun w1 J H1 it st1 s1 r1 wk p1 => ?_⟩
  obtain ⟨items, g⟩ := it
  intro L hL
  have p' : Post K T E Dat w1 H1 ((lcRun g lg ft fe (wipeD env vs) items st1).bind fun ys st2 => if ys.length ≤ lim then .ok (.ref st2.length) (st2 ++ [.lst ys]) else .stuck) Q := p1
  cases q : lcRun g lg ft fe (wipeD env vs) items st1 with
  | ok ys st2 =>
    rw [q] at p'
    have p2 : Post K T E Dat w1 H1 (if ys.length ≤ lim then .ok (.ref st2.length) (st2 ++ [.lst ys]) else .stuck) Q := p'
    by_cases hl : ys.length ≤ lim
    · rw [if_pos hl] at p2
      refine lc_core (fi := fi) (he.mono s1.le) r1 wk q hl hL fun w' H' acc a => ?_
      obtain ⟨s2, r2, d2⟩ := a.doneC hL
      exact p2 _ _ _ s2 r2 d2
    · rw [if_neg hl] at p2
      exact p2.elim
  | ex x st2 => exact absurd q (lcRun_noex items st1 x st2)
  | stuck =>
    rw [q] at p'
    exact p'.elim
/-! ### two clauses -/
def lc2Run (g : Store → Bool) (lg : LG) (ft : LT) (fi1 : LI) (lg1 : LG) (ft1 : LT) (fe : LE) (vs1 : List Nat) (envw : DEnv) : List D → Store → Res (List D)
  | [], st => if g st = true then .ok [] st else .stuck
  | d :: ds, st => if g st = true then (match lg d envw st with
    | .nx e1 s1 => (noex (ft e1 s1)).bind fun b s2 => if b = true then (noex (fi1 e1 s2)).bind fun it s3 => (lcRun it.2 lg1 ft1 fe (wipeD e1 vs1) it.1 s3).bind fun xs s4 => (lc2Run g lg ft fi1 lg1 ft1 fe vs1 envw ds s4).bind fun ys s5 => .ok (xs ++ ys) s5
      else lc2Run g lg ft fi1 lg1 ft1 fe vs1 envw ds s2
    | _ => .stuck) else .stuck
def fLc2 (fi : LI) (lg : LG) (ft : LT) (fi1 : LI) (lg1 : LG) (ft1 : LT) (fe : LE) (vs vs1 : List Nat) : LE := fun env st => (fi env st).bind fun it st1 => (noex (lc2Run it.2 lg ft fi1 lg1 ft1 fe vs1 (wipeD env vs) it.1 st1)).bind fun ys st2 => if ys.length ≤ lim then .ok (.lst ys) st2 else .stuck
def fLc2C (fi : LI) (lg : LG) (ft : LT) (fi1 : LI) (lg1 : LG) (ft1 : LT) (fe : LE) (vs vs1 : List Nat) : LE := fun env st => (fi env st).bind fun it st1 => (noex (lc2Run it.2 lg ft fi1 lg1 ft1 fe vs1 (wipeD env vs) it.1 st1)).bind fun ys st2 => if ys.length ≤ lim then .ok (.ref st2.length) (st2 ++ [.lst ys]) else .stuck
/-- the inner walk: what it adds, then what follows -/
theorem lc_in {w1 : Wd} {H1 : Hp} {L : Addr} {σ2 : L2.St} {e4 : DEnv} {w5 : Wd} {J : It} {items : List D} {g : Store → Bool} {lg1 : LG} {ft1 : LT} {fe : LE} {vs1 : List Nat} {st5 st6 : Store} {xs : List D} {tot : Nat} (hlim : tot ≤ lim) (he : EnvR w5 σ2 e4)
    (wk : Walk K T J items g w5) (hrun : lcRun g lg1 ft1 fe (wipeD e4 vs1) items st5 = .ok xs st6) (hL : H1 L = none) {w : Wd} {H : Hp} {acc : List V} {ds : List D} (le : Le w5 w) (a : Acc K T w1 H1 L w H st5 acc ds) (htot : ds.length + xs.length ≤ tot) {Nx : Hp → Prop}
    (fin : ∀ w H acc ds', Le w5 w → Acc K T w1 H1 L w H st6 acc ds' → ds' = ds ++ xs → Nx H) :
    ∃ W1 : Nat → Nat → Hp → Prop, (∃ m, W1 0 m H) ∧ ∀ j k H, W1 j k H →
      (J.stop j H ∧ Nx H) ∨ (J.go j H ∧ ∃ Nx1 : Hp → Prop, (∀ H', Nx1 H' → ∃ k', k' < k ∧ W1 (j + 1) k' H') ∧ ∀ x H', J.yld j H x H' → tOfG K T EN (some vs1) lg1 x (wipe σ2 vs1) H' fun σ3 H5 => wipe σ3 vs1 = wipe σ2 vs1 ∧
        tOf K T EN eqB ft1 σ3 H5 fun b H6 => if b = true then tOf K T EN Dat fe σ3 H6 fun y H7 => ∃ acc, H7 L = some (.lst acc) ∧ acc.length < sizeLine ∧ Nx1 (upd H7 L (.lst (acc ++ [y]))) else Nx1 H6) := by
  refine ⟨fun i m H' => m = items.length - i ∧ i ≤ items.length ∧ ∃ w' st' acc ds' zs, Le w5 w' ∧ Acc K T w1 H1 L w' H' st' acc ds' ∧ lcRun g lg1 ft1 fe (wipeD e4 vs1) (items.drop i) st' = .ok zs st6 ∧ ds' ++ zs = ds ++ xs,
    ⟨items.length, by simp, Nat.zero_le _, w, st5, acc, ds, xs, le, a, by simpa using hrun, rfl⟩, ?_⟩
  rintro i m H' ⟨rfl, hi, w', st', acc, ds', zs, le', a, hr, hz⟩
  by_cases hlt : i < items.length
  · have hd : items[i]? = some items[i] := List.getElem?_eq_getElem hlt
    have hdrop : items.drop i = items[i] :: items.drop (i + 1) := by rw [List.drop_eq_getElem_cons hlt]
    rw [hdrop] at hr
    unfold lcRun at hr
    by_cases hg : g st' = true
    · rw [if_pos hg] at hr
      refine .inr ⟨wk.go i _ w' H' st' le' a.rel hg hd, fun H'' => ∃ w' st' acc ds' zs, Le w5 w' ∧ Acc K T w1 H1 L w' H'' st' acc ds' ∧ lcRun g lg1 ft1 fe (wipeD e4 vs1) (items.drop (i + 1)) st' = .ok zs st6 ∧ ds' ++ zs = ds ++ xs, fun H'' hN => ⟨items.length - (i + 1), by omega, rfl, hlt, hN⟩, fun x H3 hy => ?_⟩
      obtain ⟨w3, s3, r3, dx⟩ := wk.yld i _ w' H' st' x H3 le' a.rel hg hd hy
      have a3 := a.step s3 r3
      have he3 : EnvR w3 (wipe σ2 vs1) (wipeD e4 vs1) := (he.wipe vs1).mono (le'.trans s3.le)
      refine ⟨w3, items[i], wipeD e4 vs1, st', he3, r3, dx, ?_⟩
      cases q : lg1 items[i] (wipeD e4 vs1) st' with
      | nx e6 st7 =>
        rw [q] at hr
        dsimp only at hr
        refine fun w4 σ4 H4 s4 e4' r4 hw => ⟨(hw vs1 rfl).trans (wipe_idem σ2 vs1), w4, e6, st7, e4', r4, ?_⟩
        have a4 := a3.step s4 r4
        have le4 := (le'.trans s3.le).trans s4.le
        obtain ⟨b, st8, hb, hr⟩ := Res.bind_ok hr
        cases q2 : ft1 e6 st7 with
        | ex _ _ => rw [q2] at hb; cases hb
        | stuck => rw [q2] at hb; cases hb
        | ok b' st8' =>
          rw [q2] at hb
          cases hb
          intro w6 c H6 s6 r6 hc
          cases (show c = b from hc)
          have a6 := a4.step s6 r6
          have le6 := le4.trans s6.le
          cases b with
          | false =>
            rw [if_neg Bool.false_ne_true] at hr ⊢
            exact ⟨w6, st8, acc, ds', zs, le6, a6, hr, hz⟩
          | true =>
            rw [if_pos rfl] at hr ⊢
            refine ⟨w6, e6, st8, e4'.mono s6.le, r6, ?_⟩
            obtain ⟨y, st9, hy6, hr⟩ := Res.bind_ok hr
            obtain ⟨ys', st10, hy7, hr⟩ := Res.bind_ok hr
            cases q3 : fe e6 st8 with
            | ex _ _ => rw [q3] at hy6; cases hy6
            | stuck => rw [q3] at hy6; cases hy6
            | ok y' st9' =>
              rw [q3] at hy6
              cases hy6
              cases hr
              intro w7 v H7 s7 r7 dv
              have a7 := a6.step s7 r7
              refine ⟨acc, a7.hL, ?_, w7, st9, acc ++ [v], ds' ++ [y], ys', le6.trans s7.le, a7.push hL dv, hy7, by rw [← hz]; simp⟩
              rw [a7.dats.length, lim_eq]
              have hl := congrArg List.length hz
              simp only [List.length_append, List.length_cons] at hl
              omega
      | ex x e4 st4 => rw [q] at hr; cases hr
      | bk e4 st4 => rw [q] at hr; cases hr
      | ct e4 st4 => rw [q] at hr; cases hr
      | rt d st4 => rw [q] at hr; cases hr
      | stuck => rw [q] at hr; cases hr
    · rw [if_neg hg] at hr
      cases hr
  · have e : i = items.length := by omega
    subst e
    have hdrop : items.drop items.length = [] := by simp
    rw [hdrop] at hr
    unfold lcRun at hr
    by_cases hg : g st' = true
    · rw [if_pos hg] at hr
      cases hr
      rw [List.append_nil] at hz
      exact .inl ⟨wk.stop w' H' _ le' a.rel hg, fin w' H' acc ds' le' a hz⟩
    · rw [if_neg hg] at hr
      cases hr
theorem lc2_run {fi fi1 : LI} {lg lg1 : LG} {ft ft1 : LT} {fe : LE} {vs vs1 : List Nat} {w : Wd} {σ : L2.St} {H : Hp} {env : DEnv} {Q : VK} {J : It} {items : List D} {g : Store → Bool} {st1 st2 : Store} {ys : List D} (he : EnvR w σ env) (r1 : Rel K T w H st1) (wk : Walk K T J items g w)
    (hrun : lc2Run g lg ft fi1 lg1 ft1 fe vs1 (wipeD env vs) items st1 = .ok ys st2) (hlim : ys.length ≤ lim) {L : Addr} (hL : H L = none) (fin : LcEnd K T w H L Q ys st2) :
    ∃ W : Nat → Nat → Hp → Prop, (∃ m, W 0 m (upd H L (.lst []))) ∧ ∀ i m H, W i m H →
      (J.stop i H ∧ Q (.ref L) H) ∨ (J.go i H ∧ ∃ Nx : Hp → Prop, (∀ H', Nx H' → ∃ m', m' < m ∧ W (i + 1) m' H') ∧ ∀ x H', J.yld i H x H' → tOfG K T EN (some vs) lg x (wipe σ vs) H' fun σ2 H2 => wipe σ2 vs = wipe σ vs ∧
        tOf K T EN eqB ft σ2 H2 fun b H3 => if b = true then tOf K T EN (WalkR K T) fi1 σ2 H3 fun J1 H4 =>
          ∃ W1 : Nat → Nat → Hp → Prop, (∃ m, W1 0 m H4) ∧ ∀ j k H, W1 j k H →
            (J1.stop j H ∧ Nx H) ∨ (J1.go j H ∧ ∃ Nx1 : Hp → Prop, (∀ H', Nx1 H' → ∃ k', k' < k ∧ W1 (j + 1) k' H') ∧ ∀ x H', J1.yld j H x H' → tOfG K T EN (some vs1) lg1 x (wipe σ2 vs1) H' fun σ3 H5 => wipe σ3 vs1 = wipe σ2 vs1 ∧
              tOf K T EN eqB ft1 σ3 H5 fun b H6 => if b = true then tOf K T EN Dat fe σ3 H6 fun y H7 => ∃ acc, H7 L = some (.lst acc) ∧ acc.length < sizeLine ∧ Nx1 (upd H7 L (.lst (acc ++ [y]))) else Nx1 H6)
        else Nx H3) := by
  refine ⟨fun i m H' => m = items.length - i ∧ i ≤ items.length ∧ ∃ w' st' acc ds zs, Acc K T w H L w' H' st' acc ds ∧ lc2Run g lg ft fi1 lg1 ft1 fe vs1 (wipeD env vs) (items.drop i) st' = .ok zs st2 ∧ ds ++ zs = ys,
    ⟨items.length, by simp, Nat.zero_le _, w, st1, [], [], ys, Acc.start r1 hL, by simpa using hrun, rfl⟩, ?_⟩
  rintro i m H' ⟨rfl, hi, w', st', acc, ds, zs, a, hr, hz⟩
  by_cases hlt : i < items.length
  · have hd : items[i]? = some items[i] := List.getElem?_eq_getElem hlt
    have hdrop : items.drop i = items[i] :: items.drop (i + 1) := by rw [List.drop_eq_getElem_cons hlt]
    rw [hdrop] at hr
    unfold lc2Run at hr
    by_cases hg : g st' = true
    · rw [if_pos hg] at hr
      refine .inr ⟨wk.go i _ w' H' st' a.stp.le a.rel hg hd, fun H'' => ∃ w' st' acc ds zs, Acc K T w H L w' H'' st' acc ds ∧ lc2Run g lg ft fi1 lg1 ft1 fe vs1 (wipeD env vs) (items.drop (i + 1)) st' = .ok zs st2 ∧ ds ++ zs = ys, fun H'' hN => ⟨items.length - (i + 1), by omega, rfl, hlt, hN⟩, fun x H3 hy => ?_⟩
      obtain ⟨w3, s3, r3, dx⟩ := wk.yld i _ w' H' st' x H3 a.stp.le a.rel hg hd hy
      have a3 := a.step s3 r3
      have he3 : EnvR w3 (wipe σ vs) (wipeD env vs) := (he.wipe vs).mono a3.stp.le
      refine ⟨w3, items[i], wipeD env vs, st', he3, r3, dx, ?_⟩
      cases q : lg items[i] (wipeD env vs) st' with
      | nx e4 st4 =>
        rw [q] at hr
        dsimp only at hr
        refine fun w4 σ4 H4 s4 e4' r4 hw => ⟨(hw vs rfl).trans (wipe_idem σ vs), w4, e4, st4, e4', r4, ?_⟩
        have a4 := a3.step s4 r4
        obtain ⟨b, st5, hb, hr⟩ := Res.bind_ok hr
        cases q2 : ft e4 st4 with
        | ex _ _ => rw [q2] at hb; cases hb
        | stuck => rw [q2] at hb; cases hb
        | ok b' st5' =>
          rw [q2] at hb
          cases hb
          intro w5 c H5 s5 r5 hc
          cases (show c = b from hc)
          have a5 := a4.step s5 r5
          cases b with
          | false =>
            rw [if_neg Bool.false_ne_true] at hr ⊢
            exact ⟨w5, st5, acc, ds, zs, a5, hr, hz⟩
          | true =>
            rw [if_pos rfl] at hr ⊢
            obtain ⟨it, st6, hit, hr⟩ := Res.bind_ok hr
            obtain ⟨xs, st7, hxs, hr⟩ := Res.bind_ok hr
            obtain ⟨ys', st8, hys, hr⟩ := Res.bind_ok hr
            cases hr
            obtain ⟨items1, g1⟩ := it
            cases q3 : fi1 e4 st5 with
            | ex _ _ => rw [q3] at hit; cases hit
            | stuck => rw [q3] at hit; cases hit
            | ok it' st6' =>
              rw [q3] at hit
              cases hit
              refine ⟨w5, e4, st5, e4'.mono s5.le, r5, ?_⟩
              rw [q3]
              intro w6 J1 H6 s6 r6 wk1
              have a6 := a5.step s6 r6
              have wk1 : Walk K T J1 items1 g1 w6 := wk1
              have hl := congrArg List.length hz
              simp only [List.length_append] at hl
              refine lc_in (tot := ys.length) hlim ((e4'.mono s5.le).mono s6.le) wk1 hxs hL (Le.refl w6) a6 (by omega) fun w7 H7 acc7 ds7 le7 a7 e7 => ?_
              subst e7
              exact ⟨w7, _, acc7, ds ++ xs, ys', a7, hys, by rw [← hz]; simp⟩
      | ex x e4 st4 => rw [q] at hr; cases hr
      | bk e4 st4 => rw [q] at hr; cases hr
      | ct e4 st4 => rw [q] at hr; cases hr
      | rt d st4 => rw [q] at hr; cases hr
      | stuck => rw [q] at hr; cases hr
    · rw [if_neg hg] at hr
      cases hr
  · have e : i = items.length := by omega
    subst e
    have hdrop : items.drop items.length = [] := by simp
    rw [hdrop] at hr
    unfold lc2Run at hr
    by_cases hg : g st' = true
    · rw [if_pos hg] at hr
      cases hr
      rw [List.append_nil] at hz
      subst hz
      exact .inl ⟨wk.stop w' H' _ a.stp.le a.rel hg, fin w' H' acc a⟩
    · rw [if_neg hg] at hr
      cases hr
theorem sim_lc2 {fi fi1 : LI} {lg lg1 : LG} {ft ft1 : LT} {fe : LE} {vs vs1 : List Nat} : Sim K T E Dat (tLc2 (tOf K T E (WalkR K T) fi) (tOfG K T EN (some vs) lg) (tOf K T EN eqB ft) (tOf K T EN (WalkR K T) fi1) (tOfG K T EN (some vs1) lg1) (tOf K T EN eqB ft1) (tOf K T EN Dat fe) vs vs1) (fLc2 fi lg ft fi1 lg1 ft1 fe vs vs1) := fun w σ H env st Q he r p => by
  refine ⟨w, env, st, he, r, Post.bind (rel := WalkR K T) p fun w1 J H1 it st1 s1 r1 wk p1 => ?_⟩
  obtain ⟨items, g⟩ := it
  intro L hL
  have p' : Post K T E Dat w1 H1 ((noex (lc2Run g lg ft fi1 lg1 ft1 fe vs1 (wipeD env vs) items st1)).bind fun ys st2 => if ys.length ≤ lim then .ok (.lst ys) st2 else .stuck) Q := p1
  cases q : lc2Run g lg ft fi1 lg1 ft1 fe vs1 (wipeD env vs) items st1 with
  | ok ys st2 =>
    rw [q] at p'
    have p2 : Post K T E Dat w1 H1 (if ys.length ≤ lim then .ok (.lst ys) st2 else .stuck) Q := p'
    by_cases hl : ys.length ≤ lim
    · rw [if_pos hl] at p2
      refine lc2_run (fi := fi) (he.mono s1.le) r1 wk q hl hL fun w' H' acc a => ?_
      obtain ⟨s2, r2, d2⟩ := a.done hL
      exact p2 _ _ _ s2 r2 d2
    · rw [if_neg hl] at p2
      exact p2.elim
  | ex x st2 => rw [q] at p'; exact p'.elim
  | stuck => rw [q] at p'; exact p'.elim
theorem sim_lc2C {fi fi1 : LI} {lg lg1 : LG} {ft ft1 : LT} {fe : LE} {vs vs1 : List Nat} : Sim K T E Dat (tLc2 (tOf K T E (WalkR K T) fi) (tOfG K T EN (some vs) lg) (tOf K T EN eqB ft) (tOf K T EN (WalkR K T) fi1) (tOfG K T EN (some vs1) lg1) (tOf K T EN eqB ft1) (tOf K T EN Dat fe) vs vs1) (fLc2C fi lg ft fi1 lg1 ft1 fe vs vs1) := fun w σ H env st Q he r p => by
  refine ⟨w, env, st, he, r, Post.bind (rel := WalkR K T) p fun w1 J H1 it st1 s1 r1 wk p1 => ?_⟩
  obtain ⟨items, g⟩ := it
  intro L hL
  have p' : Post K T E Dat w1 H1 ((noex (lc2Run g lg ft fi1 lg1 ft1 fe vs1 (wipeD env vs) items st1)).bind fun ys st2 => if ys.length ≤ lim then .ok (.ref st2.length) (st2 ++ [.lst ys]) else .stuck) Q := p1
  cases q : lc2Run g lg ft fi1 lg1 ft1 fe vs1 (wipeD env vs) items st1 with
  | ok ys st2 =>
    rw [q] at p'
    have p2 : Post K T E Dat w1 H1 (if ys.length ≤ lim then .ok (.ref st2.length) (st2 ++ [.lst ys]) else .stuck) Q := p'
    by_cases hl : ys.length ≤ lim
    · rw [if_pos hl] at p2
      refine lc2_run (fi := fi) (he.mono s1.le) r1 wk q hl hL fun w' H' acc a => ?_
      obtain ⟨s2, r2, d2⟩ := a.doneC hL
      exact p2 _ _ _ s2 r2 d2
    · rw [if_neg hl] at p2
      exact p2.elim
  | ex x st2 => rw [q] at p'; exact p'.elim
  | stuck => rw [q] at p'; exact p'.elim
end
/-! ### as rules -/
abbrev PTsf (X : Cx) (T : List (Addr × Str)) (E : XK) (ifs : List Expr) (f : LT) : Prop := PTs X ifs (tOf X.K T E eqB f)
def fYes : LT := fun _ st => .ok true st
section
variable {X : Cx} {T : List (Addr × Str)} {E : XK} {pos : Pos}
theorem x_ts0 : PTsf X T E [] fYes := ⟨fun pins st σ H Q I x => pts_nil.run pins st σ H Q I (by
  obtain ⟨w, env, s', e, r, p⟩ := x
  exact p.here r rfl)⟩
theorem x_ts1 {c : Expr} {f : LT} (h : PTf X T E c f) : PTsf X T E [c] f := pts_one h
variable {elt tg iter tg1 iter1 : Expr} {ifs ifs1 : List Expr} {scope : Scope} {own : List (Str × Nat)} {fi fi1 : LI} {lg lg1 : LG} {ft ft1 : LT} {fe : LE} {vs1 : List Nat}
theorem x_lc (hc : X.calm = true) (hN : X.N.Nodup) (hi : PIf X T E tg iter fi) (ok : BlkOk X.N X.env.scope scope own)
    (hg : ∀ (s : Shared) (H : Hp) (C : Addr) (cl : List (Str × Addr)) (fp : List Addr), PGf (X.blk s H scope (compEnvC scope cl C X.env) fp) T EN (some (own.map (·.2))) tg lg) (ht : ∀ (s : Shared) (H : Hp) (C : Addr) (cl : List (Str × Addr)) (fp : List Addr), PTsf (X.blk s H scope (compEnvC scope cl C X.env) fp) T EN ifs ft)
    (he : ∀ (s : Shared) (H : Hp) (C : Addr) (cl : List (Str × Addr)) (fp : List Addr), PEf (X.blk s H scope (compEnvC scope cl C X.env) fp) T EN elt fe) (hs : ∀ x, foldedSetIterable iter X.env x = pure x := by intro _; rfl) :
    PEf X T E (.ListComp elt [⟨tg, iter, ifs, 0⟩] scope pos) (fLc fi lg ft fe (own.map (·.2))) := pe_to (pe_lc hc hN hi ok hg ht he hs) sim_lc
theorem x_lcC (hc : X.calm = true) (hN : X.N.Nodup) (hi : PIf X T E tg iter fi) (ok : BlkOk X.N X.env.scope scope own)
    (hg : ∀ (s : Shared) (H : Hp) (C : Addr) (cl : List (Str × Addr)) (fp : List Addr), PGf (X.blk s H scope (compEnvC scope cl C X.env) fp) T EN (some (own.map (·.2))) tg lg) (ht : ∀ (s : Shared) (H : Hp) (C : Addr) (cl : List (Str × Addr)) (fp : List Addr), PTsf (X.blk s H scope (compEnvC scope cl C X.env) fp) T EN ifs ft)
    (he : ∀ (s : Shared) (H : Hp) (C : Addr) (cl : List (Str × Addr)) (fp : List Addr), PEf (X.blk s H scope (compEnvC scope cl C X.env) fp) T EN elt fe) (hs : ∀ x, foldedSetIterable iter X.env x = pure x := by intro _; rfl) :
    PEf X T E (.ListComp elt [⟨tg, iter, ifs, 0⟩] scope pos) (fLcC fi lg ft fe (own.map (·.2))) := pe_to (pe_lc hc hN hi ok hg ht he hs) sim_lcC
theorem x_lc2 (hc : X.calm = true) (hN : X.N.Nodup) (hi : PIf X T E tg iter fi) (ok : BlkOk X.N X.env.scope scope own) (hv : ∀ i ∈ vs1, i ∈ own.map (·.2))
    (hg : ∀ (s : Shared) (H : Hp) (C : Addr) (cl : List (Str × Addr)) (fp : List Addr), PGf (X.blk s H scope (compEnvC scope cl C X.env) fp) T EN (some (own.map (·.2))) tg lg) (ht : ∀ (s : Shared) (H : Hp) (C : Addr) (cl : List (Str × Addr)) (fp : List Addr), PTsf (X.blk s H scope (compEnvC scope cl C X.env) fp) T EN ifs ft)
    (hi1 : ∀ (s : Shared) (H : Hp) (C : Addr) (cl : List (Str × Addr)) (fp : List Addr), PIf (X.blk s H scope (compEnvC scope cl C X.env) fp) T EN tg1 iter1 fi1)
    (hg1 : ∀ (s : Shared) (H : Hp) (C : Addr) (cl : List (Str × Addr)) (fp : List Addr), PGf (X.blk s H scope (compEnvC scope cl C X.env) fp) T EN (some vs1) tg1 lg1) (ht1 : ∀ (s : Shared) (H : Hp) (C : Addr) (cl : List (Str × Addr)) (fp : List Addr), PTsf (X.blk s H scope (compEnvC scope cl C X.env) fp) T EN ifs1 ft1)
    (he : ∀ (s : Shared) (H : Hp) (C : Addr) (cl : List (Str × Addr)) (fp : List Addr), PEf (X.blk s H scope (compEnvC scope cl C X.env) fp) T EN elt fe) (hs : ∀ x, foldedSetIterable iter X.env x = pure x := by intro _; rfl) (hs1 : ∀ env x, foldedSetIterable iter1 env x = pure x := by intro _ _; rfl) :
    PEf X T E (.ListComp elt [⟨tg, iter, ifs, 0⟩, ⟨tg1, iter1, ifs1, 0⟩] scope pos) (fLc2 fi lg ft fi1 lg1 ft1 fe (own.map (·.2)) vs1) := pe_to (pe_lc2 hc hN hi ok hv hg ht hi1 hg1 ht1 he hs hs1) sim_lc2
/-- name = [..] on one line -/
theorem s_setLc {i : Nat} {y : Str} {py spos : Pos} (hc : X.calm = true) (hN : X.N.Nodup) (hi : PIf X T E tg iter fi) (ok : BlkOk X.N X.env.scope scope own)
    (hg : ∀ (s : Shared) (H : Hp) (C : Addr) (cl : List (Str × Addr)) (fp : List Addr), PGf (X.blk s H scope (compEnvC scope cl C X.env) fp) T EN (some (own.map (·.2))) tg lg) (ht : ∀ (s : Shared) (H : Hp) (C : Addr) (cl : List (Str × Addr)) (fp : List Addr), PTsf (X.blk s H scope (compEnvC scope cl C X.env) fp) T EN ifs ft)
    (he : ∀ (s : Shared) (H : Hp) (C : Addr) (cl : List (Str × Addr)) (fp : List Addr), PEf (X.blk s H scope (compEnvC scope cl C X.env) fp) T EN elt fe) (hs : ∀ x, foldedSetIterable iter X.env x = pure x := by intro _; rfl)
    (hy : X.N[i]? = some y := by rfl) (hyl : X.env.scope.names.lookup y = some .local := by rfl) (hsw : swapsWith (.ListComp elt [⟨tg, iter, ifs, 0⟩] scope pos) (some (.Name y py)) spos.line X.env = pure true := by exact sw_true rfl rfl rfl (by decide +kernel)) :
    PSf X T (W0 E) (.Assign [.Name y py] (.ListComp elt [⟨tg, iter, ifs, 0⟩] scope pos) spos) (fAsg (fLc fi lg ft fe (own.map (·.2))) (gN i)) := ps_to (ps_setLc hc hN hy hyl hsw hi ok hg ht he hs) fun w σ H env st Dn he r p =>
  sim_lc w σ H env st _ he r (PostS.go (fun _ _ _ h => h) he p fun w1 x H1 d st1 s1 r1 dx p1 => p1 w1 _ H1 (Stp.refl w1 H1) ((he.mono s1.le).set i dx) r1)
theorem s_setLcC {i : Nat} {y : Str} {py spos : Pos} (hc : X.calm = true) (hN : X.N.Nodup) (hi : PIf X T E tg iter fi) (ok : BlkOk X.N X.env.scope scope own)
    (hg : ∀ (s : Shared) (H : Hp) (C : Addr) (cl : List (Str × Addr)) (fp : List Addr), PGf (X.blk s H scope (compEnvC scope cl C X.env) fp) T EN (some (own.map (·.2))) tg lg) (ht : ∀ (s : Shared) (H : Hp) (C : Addr) (cl : List (Str × Addr)) (fp : List Addr), PTsf (X.blk s H scope (compEnvC scope cl C X.env) fp) T EN ifs ft)
    (he : ∀ (s : Shared) (H : Hp) (C : Addr) (cl : List (Str × Addr)) (fp : List Addr), PEf (X.blk s H scope (compEnvC scope cl C X.env) fp) T EN elt fe) (hs : ∀ x, foldedSetIterable iter X.env x = pure x := by intro _; rfl)
    (hy : X.N[i]? = some y := by rfl) (hyl : X.env.scope.names.lookup y = some .local := by rfl) (hsw : swapsWith (.ListComp elt [⟨tg, iter, ifs, 0⟩] scope pos) (some (.Name y py)) spos.line X.env = pure true := by exact sw_true rfl rfl rfl (by decide +kernel)) :
    PSf X T (W0 E) (.Assign [.Name y py] (.ListComp elt [⟨tg, iter, ifs, 0⟩] scope pos) spos) (fAsg (fLcC fi lg ft fe (own.map (·.2))) (gN i)) := ps_to (ps_setLc hc hN hy hyl hsw hi ok hg ht he hs) fun w σ H env st Dn he r p =>
  sim_lcC w σ H env st _ he r (PostS.go (fun _ _ _ h => h) he p fun w1 x H1 d st1 s1 r1 dx p1 => p1 w1 _ H1 (Stp.refl w1 H1) ((he.mono s1.le).set i dx) r1)
theorem s_setLc2 {i : Nat} {y : Str} {py spos : Pos} (hc : X.calm = true) (hN : X.N.Nodup) (hi : PIf X T E tg iter fi) (ok : BlkOk X.N X.env.scope scope own) (hv : ∀ i ∈ vs1, i ∈ own.map (·.2))
    (hg : ∀ (s : Shared) (H : Hp) (C : Addr) (cl : List (Str × Addr)) (fp : List Addr), PGf (X.blk s H scope (compEnvC scope cl C X.env) fp) T EN (some (own.map (·.2))) tg lg) (ht : ∀ (s : Shared) (H : Hp) (C : Addr) (cl : List (Str × Addr)) (fp : List Addr), PTsf (X.blk s H scope (compEnvC scope cl C X.env) fp) T EN ifs ft)
    (hi1 : ∀ (s : Shared) (H : Hp) (C : Addr) (cl : List (Str × Addr)) (fp : List Addr), PIf (X.blk s H scope (compEnvC scope cl C X.env) fp) T EN tg1 iter1 fi1)
    (hg1 : ∀ (s : Shared) (H : Hp) (C : Addr) (cl : List (Str × Addr)) (fp : List Addr), PGf (X.blk s H scope (compEnvC scope cl C X.env) fp) T EN (some vs1) tg1 lg1) (ht1 : ∀ (s : Shared) (H : Hp) (C : Addr) (cl : List (Str × Addr)) (fp : List Addr), PTsf (X.blk s H scope (compEnvC scope cl C X.env) fp) T EN ifs1 ft1)
    (he : ∀ (s : Shared) (H : Hp) (C : Addr) (cl : List (Str × Addr)) (fp : List Addr), PEf (X.blk s H scope (compEnvC scope cl C X.env) fp) T EN elt fe) (hs : ∀ x, foldedSetIterable iter X.env x = pure x := by intro _; rfl) (hs1 : ∀ env x, foldedSetIterable iter1 env x = pure x := by intro _ _; rfl)
    (hy : X.N[i]? = some y := by rfl) (hyl : X.env.scope.names.lookup y = some .local := by rfl) (hsw : swapsWith (.ListComp elt [⟨tg, iter, ifs, 0⟩, ⟨tg1, iter1, ifs1, 0⟩] scope pos) (some (.Name y py)) spos.line X.env = pure true := by exact sw_true rfl rfl rfl (by decide +kernel)) :
    PSf X T (W0 E) (.Assign [.Name y py] (.ListComp elt [⟨tg, iter, ifs, 0⟩, ⟨tg1, iter1, ifs1, 0⟩] scope pos) spos) (fAsg (fLc2 fi lg ft fi1 lg1 ft1 fe (own.map (·.2)) vs1) (gN i)) := ps_to (ps_setLc2 hc hN hy hyl hsw hi ok hv hg ht hi1 hg1 ht1 he hs hs1) fun w σ H env st Dn he r p =>
  sim_lc2 w σ H env st _ he r (PostS.go (fun _ _ _ h => h) he p fun w1 x H1 d st1 s1 r1 dx p1 => p1 w1 _ H1 (Stp.refl w1 H1) ((he.mono s1.le).set i dx) r1)
end
end Fk
/-! FkG: fields, calls, methods, making, raising, a def; stores to lists. -/
namespace Fk
open PySem PySem.Spec PyProof.Rows L2
/-! ### fields -/
def putD (f : Str) (v : D) : List (Str × D) → List (Str × D)
  | [] => [(f, v)]
  | (g, x) :: r => if g = f then (g, v) :: r else (g, x) :: putD f v r
abbrev Flds (w : Wd) (us : List (Str × V)) (fs : List (Str × D)) : Prop := us.map (·.1) = fs.map (·.1) ∧ Dats w (us.map (·.2)) (fs.map (·.2))
theorem Flds.length {w : Wd} {us : List (Str × V)} {fs : List (Str × D)} (h : Flds w us fs) : us.length = fs.length := by
  have := congrArg List.length h.1
  simpa using this
theorem Flds.look {w : Wd} : ∀ {us : List (Str × V)} {fs : List (Str × D)}, Flds w us fs → ∀ f, (fs.lookup f = none → us.lookup f = none) ∧ ∀ d, fs.lookup f = some d → ∃ v, us.lookup f = some v ∧ Dat w v d
  | [], [], _, f => ⟨fun _ => rfl, fun d h => by cases h⟩
  | [], _ :: _, h, f => by cases h.1
  | _ :: _, [], h, f => by cases h.1
  | (g, v) :: us, (g', d) :: fs, h, f => by
    obtain ⟨h1, h2⟩ := h
    rw [List.map_cons, List.map_cons] at h1 h2
    cases h2 with
    | cons hd hr =>
      obtain ⟨e1, e2⟩ := List.cons.inj h1
      have ih := Flds.look (us := us) (fs := fs) ⟨e2, hr⟩ f
      have e1 : g = g' := e1
      subst e1
      by_cases q : (f == g) = true
      · refine ⟨fun z => ?_, fun d' z => ?_⟩
        · rw [List.lookup_cons, q] at z
          cases z
        · rw [List.lookup_cons, q] at z
          cases z
          refine ⟨v, ?_, hd⟩
          rw [List.lookup_cons, q]
      · have q' : (f == g) = false := by simpa using q
        refine ⟨fun z => ?_, fun d' z => ?_⟩
        · rw [List.lookup_cons, q'] at z ⊢
          exact ih.1 z
        · rw [List.lookup_cons, q'] at z ⊢
          exact ih.2 d' z
theorem Flds.put {w : Wd} {f : Str} {v : V} {d : D} (hd : Dat w v d) : ∀ {us : List (Str × V)} {fs : List (Str × D)}, Flds w us fs → Flds w (putF f v us) (putD f d fs)
  | [], [], _ => ⟨rfl, .one hd⟩
  | [], _ :: _, h => by cases h.1
  | _ :: _, [], h => by cases h.1
  | (g, u) :: us, (g', e) :: fs, h => by
    obtain ⟨h1, h2⟩ := h
    rw [List.map_cons, List.map_cons] at h1 h2
    cases h2 with
    | cons he hr =>
      obtain ⟨e1, e2⟩ := List.cons.inj h1
      have e1 : g = g' := e1
      subst e1
      have ih := Flds.put (f := f) hd (us := us) (fs := fs) ⟨e2, hr⟩
      unfold putF putD
      by_cases q : g = f
      · rw [if_pos q, if_pos q]
        exact ⟨by simp only [List.map_cons]; rw [e2], .cons hd hr⟩
      · rw [if_neg q, if_neg q]
        exact ⟨by simp only [List.map_cons]; rw [ih.1], .cons he ih.2⟩
/-- what stands at an instance -/
def insOf (c : Str) (d : D) (st : Store) : Option (Nat × List (Str × D)) := match d with
  | .ref k => (match st[k]? with
    | some (.ins c' fs) => if c' = c then some (k, fs) else none
    | _ => none)
  | _ => none
section
variable {K : PySem.W.Frag} {T : List (Addr × Str)} {w : Wd} {H : Hp} {st : Store}
theorem ins_at {c : Str} {x : V} {d : D} {k : Nat} {fs : List (Str × D)} (r : Rel K T w H st) (h : Dat w x d) (e : insOf c d st = some (k, fs)) : ∃ p dx us, x = .ref p ∧ w.ads[k]? = some p ∧ st[k]? = some (.ins c fs) ∧ H p = some (.ins (He.ga K c) dx us) ∧ Flds w us fs := by
  cases h with
  | @ref p j ha =>
    have e' : (match st[j]? with | some (.ins c' fs) => if c' = c then some (j, fs) else none | _ => none) = some (k, fs) := e
    cases q : st[j]? with
    | none => rw [q] at e'; cases e'
    | some cl =>
      rw [q] at e'
      cases cl with
      | ins c' fs' =>
        have e2 : (if c' = c then some (j, fs') else none) = some (k, fs) := e'
        by_cases z : c' = c
        · rw [if_pos z] at e2
          cases e2
          subst z
          obtain ⟨p', a', _, dx, us, hH, h1, h2⟩ := r.addr q
          rw [ha] at a'
          cases a'
          exact ⟨p, dx, us, rfl, ha, q, hH, h1, h2⟩
        · rw [if_neg z] at e2
          cases e2
      | _ => cases e'
  | _ => cases e
theorem Rel.putIns (r : Rel K T w H st) {c : Str} {k : Nat} {p dx : Addr} {fs fs' : List (Str × D)} {us us' : List (Str × V)} (ha : w.ads[k]? = some p) (hs : st[k]? = some (.ins c fs)) (hH : H p = some (.ins (He.ga K c) dx us)) (hf : Flds w us' fs') :
    Stp w H w (upd H p (.ins (He.ga K c) dx us')) ∧ Rel K T w (upd H p (.ins (He.ga K c) dx us')) (st.set k (.ins c fs')) :=
  r.put hs (by simp) ha ⟨(r.at_ k _ p hs ha).1, dx, us', upd_same, hf⟩
end
def oFld (c f : Str) : O1 := fun d st => match insOf c d st with
  | some (_, fs) => (match fs.lookup f with
    | some z => .ok z st
    | none => .stuck)
  | none => .stuck
def fSetF (c f : Str) (fv fa : LE) : LS := fun env st => (fv env st).go env fun y st1 => (fa env st1).go env fun d st2 => match insOf c d st2 with
  | some (k, fs) => if fs.length < 1000 then .nx env (st2.set k (.ins c (putD f y fs))) else .stuck
  | none => .stuck
def fAugF (c f : Str) (o : O2) (fa fv : LE) : LS := fun env st => (fa env st).go env fun d st1 => match insOf c d st1 with
  | some (_, fs) => (match fs.lookup f with
    | some z => (fv env st1).go env fun y st2 => (o z y st2).go env fun u st3 => (match insOf c d st3 with
      | some (k, fs') => if fs'.length < 1000 then .nx env (st3.set k (.ins c (putD f u fs'))) else .stuck
      | none => .stuck)
    | none => .stuck)
  | none => .stuck
section
variable {X : Cx} {T : List (Addr × Str)} {E : XK} {pos pos' tpos : Pos} {e o value : Expr} {fa fv : LE} {f c : Str}
theorem x_fld (cl : Cls X.K (He.ga X.K c)) (na : NoAttr X.K (He.ga X.K c) f) (he : PEf X T E e fa) (hb : attributeBase e f X.env (eval e X.env) = eval e X.env := by rfl) : PEf X T E (.Attribute e f pos) (fUn (oFld c f) fa) := pe_to (pe_fld he hb) fun w σ H env st Q he0 r p => by
  refine ⟨w, env, st, he0, r, p.bind fun w1 x H1 d st1 s1 r1 dx p1 => ?_⟩
  unfold oFld at p1
  cases q : insOf c d st1 with
  | none => rw [q] at p1; exact p1.elim
  | some kf =>
    obtain ⟨k, fs⟩ := kf
    rw [q] at p1
    dsimp only at p1
    cases q2 : fs.lookup f with
    | none => rw [q2] at p1; exact p1.elim
    | some z =>
      rw [q2] at p1
      obtain ⟨a, dx', us, rfl, _, _, hH, hf⟩ := ins_at r1 dx q
      obtain ⟨v, h1, h2⟩ := (hf.look f).2 z q2
      exact ⟨a, _, dx', us, v, rfl, hH, cl, na, h1, p1.here r1 h2⟩
theorem s_setF (cl : Cls X.K (He.ga X.K c)) (na : NoAttr X.K (He.ga X.K c) f) (ha : PEf X T E o fa) (hv : PEf X T E value fv) (hs : swapsWith value (some (.Attribute o f pos')) pos.line X.env = pure false := by rfl) : PSf X T (W0 E) (.Assign [.Attribute o f pos'] value pos) (fSetF c f fv fa) := ps_to (ps_fld ha hv hs) fun w σ H env st Dn he r p => by
  refine ⟨w, env, st, he, r, PostS.go (fun _ _ _ h => h) he p fun w1 y H1 dy st1 s1 r1 dyv p1 => ?_⟩
  refine ⟨w1, env, st1, he.mono s1.le, r1, PostS.go (fun _ _ _ h => h) (he.mono s1.le) p1 fun w2 x H2 d st2 s2 r2 dx p2 => ?_⟩
  cases q : insOf c d st2 with
  | none => rw [q] at p2; exact p2.elim
  | some kf =>
    obtain ⟨k, fs⟩ := kf
    rw [q] at p2
    have p3 : PostS X.K T (W0 E) w2 H2 (if fs.length < 1000 then .nx env (st2.set k (.ins c (putD f dy fs))) else .stuck) Dn := p2
    by_cases z : fs.length < 1000
    · rw [if_pos z] at p3
      obtain ⟨a, dx', us, rfl, ha', hs', hH, hf⟩ := ins_at r2 dx q
      obtain ⟨s3, r3⟩ := r2.putIns ha' hs' hH (hf.put (f := f) (dyv.mono s2.le))
      exact ⟨a, _, dx', us, rfl, hH, cl, na, by rw [hf.length]; exact z, p3 w2 σ _ s3 ((he.mono s1.le).mono s2.le) r3⟩
    · rw [if_neg z] at p3
      exact p3.elim
theorem s_augF {op : Operator} {rd : V → V → Hp → VK → Prop} {oo : O2} (cl : Cls X.K (He.ga X.K c)) (na : NoAttr X.K (He.ga X.K c) f) (ha : PEf X T E o fa) (hv : PEf X T E value fv) (hop : InOp X op rd) (so : SimR2 X.K T rd oo) : PSf X T (W0 E) (.AugAssign (.Attribute o f tpos) op value pos) (fAugF c f oo fa fv) := ps_to (ps_fldaug ha hv hop) fun w σ H env st Dn he r p => by
  refine ⟨w, env, st, he, r, PostS.go (fun _ _ _ h => h) he p fun w1 x H1 d st1 s1 r1 dx p1 => ?_⟩
  cases q : insOf c d st1 with
  | none => rw [q] at p1; exact p1.elim
  | some kf =>
    obtain ⟨k, fs⟩ := kf
    rw [q] at p1
    dsimp only at p1
    cases q2 : fs.lookup f with
    | none => rw [q2] at p1; exact p1.elim
    | some z =>
      rw [q2] at p1
      dsimp only at p1
      obtain ⟨a, dx', us, rfl, _, _, hH, hf⟩ := ins_at r1 dx q
      obtain ⟨v, h1, h2⟩ := (hf.look f).2 z q2
      refine ⟨a, _, dx', us, v, rfl, hH, cl, na, h1, w1, env, st1, he.mono s1.le, r1, PostS.go (fun _ _ _ h => h) (he.mono s1.le) p1 fun w2 y H2 dy st2 s2 r2 dyv p2 => ?_⟩
      refine so E w2 H2 st2 v y z dy _ r2 (h2.mono s2.le) dyv (PostS.go (fun _ _ _ h => h) ((he.mono s1.le).mono s2.le) p2 fun w3 u H3 du st3 s3 r3 duv p3 => ?_)
      cases q3 : insOf c d st3 with
      | none => rw [q3] at p3; exact p3.elim
      | some kf3 =>
        obtain ⟨k3, fs3⟩ := kf3
        rw [q3] at p3
        have p4 : PostS X.K T (W0 E) w3 H3 (if fs3.length < 1000 then .nx env (st3.set k3 (.ins c (putD f du fs3))) else .stuck) Dn := p3
        by_cases z3 : fs3.length < 1000
        · rw [if_pos z3] at p4
          obtain ⟨a3, dx3, us3, ea, ha3, hs3, hH3, hf3⟩ := ins_at r3 ((dx.mono s2.le).mono s3.le) q3
          cases ea
          obtain ⟨s4, r4⟩ := r3.putIns ha3 hs3 hH3 (hf3.put (f := f) duv)
          exact ⟨dx3, us3, hH3, by rw [hf3.length]; exact z3, p4 w3 σ _ s4 (((he.mono s1.le).mono s2.le).mono s3.le) r4⟩
        · rw [if_neg z3] at p4
          exact p4.elim
end
/-! ### defs -/
abbrev FM := List D → Store → Res D
def runB (n : Nat) (f : LS) : FM := fun ds st => match f (ds.map some ++ List.replicate (n - ds.length) none) st with
  | .nx _ s => .ok .non s
  | .rt d s => .ok d s
  | .ex x _ s => .ex x s
  | _ => .stuck
def spOf (K : PySem.W.Frag) (T : List (Addr × Str)) (n : Nat) (f : FM) : Sp := fun vs H Q E => vs.length = n ∧ ∃ w ds st, Dats w vs ds ∧ Rel K T w H st ∧ Post K T E Dat w H (f ds st) Q
/-- a def of the module, or a method, does as f says; by at most j calls, one in another -/
structure FoP (P : Program) (w : World) (K : PySem.W.Frag) (mg : Str → Option Value) (base : Heap) (T : List (Addr × Str)) (j : Nat) (a : Str × Option Str) (n : Nat) (f : FM) : Prop where
  ex : ∃ (fd : FuncData) (ps : List Str), FnOk P w K mg base (L2.CX P w) j (He.fAd K a) fd ps (spOf K T n f) ∧ Binds K fd ps []
  kp : PySem.W.keepIn K (.ref (He.fAd K a)) = true
theorem FoP.imp {P : Program} {w : World} {K : PySem.W.Frag} {mg : Str → Option Value} {base : Heap} {T : List (Addr × Str)} {j : Nat} {a : Str × Option Str} {n : Nat} {f g : FM} (F : FoP P w K mg base T j a n f)
    (h : ∀ w H ds st E Q vs, Dats w vs ds → Rel K T w H st → Post K T E Dat w H (g ds st) Q → Post K T E Dat w H (f ds st) Q) : FoP P w K mg base T j a n g := by
  obtain ⟨⟨fd, ps, F1, b⟩, kp⟩ := F
  exact ⟨⟨fd, ps, F1.imp fun vs H Q E ⟨hl, w, ds, st, hv, r, p⟩ => ⟨hl, w, ds, st, hv, r, h w H ds st E Q vs hv r p⟩, b⟩, kp⟩
theorem start_env {w : Wd} {N : List Str} {vs : List V} {ds : List D} (h : Dats w vs ds) : EnvR w (L2.start N vs) (ds.map some ++ List.replicate (N.length - ds.length) none) := by
  refine ⟨by unfold L2.start; simp [h.length], fun i d hi => ?_⟩
  by_cases q : i < ds.length
  · rw [List.getElem?_append_left (by simpa using q), List.getElem?_map] at hi
    cases e : ds[i]? with
    | none => rw [e] at hi; cases hi
    | some d' =>
      rw [e] at hi
      cases hi
      obtain ⟨v, h1, h2⟩ := h.get e
      refine ⟨v, ?_, h2⟩
      unfold L2.start
      rw [List.getElem?_append_left (by rw [List.length_map, h.length]; exact q), List.getElem?_map, h1] <;> rfl
  · rw [List.getElem?_append_right (by simpa using q)] at hi
    rw [List.getElem?_replicate] at hi
    split at hi <;> cases hi
section
variable {P : Program} {w : World} {K : PySem.W.Frag} {mg : Str → Option Value} {base : Heap} {T : List (Addr × Str)} {name qual : Str} {params : Arguments} {body : List Stmt} {scope : Scope} {dvs : List V} {kws : List (Str × V)} {f : Addr} {fd : FuncData} {N ps : List Str} {k : Nat} {fb : LS}
/-- THE RULE for a def -/
theorem fn_def (F : FunD K name qual params body scope dvs kws f fd) (S : FnScope N ps scope)
    (h : ∀ (cdv : Value) (A : Around) (outer : List Env) (s : Shared) (H : Hp) (E : XK), Room k (A.deeper (envOfC qual scope s.heap.objs.size f cdv)) →
      PSsf (cxOf (L2.CX P w) P w K mg base N qual scope f cdv A outer s H E) T (W0 E) body fb) : FnOk P w K mg base (L2.CX P w) (k + 1) f fd ps (spOf K T ps.length (runB N.length fb)) := by
  refine FunD.ok F S (fun vs H Q E h => h.1) fun cdv A outer s H vs Q E hr hsp => ⟨_, h cdv A outer s H E hr, ?_⟩
  obtain ⟨hl, w0, ds, st, hv, r, p⟩ := hsp
  refine ⟨w0, _, st, start_env (N := N) hv, r, ?_⟩
  unfold runB at p
  cases q : fb (ds.map some ++ List.replicate (N.length - ds.length) none) st with
  | nx e s1 =>
    rw [q] at p
    exact fun w' σ' H' s' e' r' => p w' .non H' s' r' .non
  | rt d s1 =>
    rw [q] at p
    exact fun w' v H' s' r' dv => p w' v H' s' r' dv
  | ex x e s1 =>
    rw [q] at p
    exact fun w' c od σ' H' s' e' r' z => p w' c od H' s' r' z
  | bk e s1 => rw [q] at p; exact p.elim
  | ct e s1 => rw [q] at p; exact p.elim
  | stuck => rw [q] at p; exact p.elim
theorem fo_def {a : Str × Option Str} (F : FunD K name qual params body scope [] [] (He.fAd K a) fd) (S : FnScope N ps scope)
    (hb : ∀ (kV doc pm : Value) (an : Option Addr) (cdv ct : Value) (us : List Value), us.length = ps.length → bindArgs (PySem.W.fnOf name qual params body scope .none kV doc pm an cdv ct) ⟨us, []⟩ = pure (ps.zip us))
    (h : ∀ (cdv : Value) (A : Around) (outer : List Env) (s : Shared) (H : Hp) (E : XK), Room k (A.deeper (envOfC qual scope s.heap.objs.size (He.fAd K a) cdv)) →
      PSsf (cxOf (L2.CX P w) P w K mg base N qual scope (He.fAd K a) cdv A outer s H E) T (W0 E) body fb) : FoP P w K mg base T (k + 1) a ps.length (runB N.length fb) := ⟨⟨fd, ps, fn_def F S h, F.bindsN hb⟩, F.kp⟩
end
/-- what calls and loops want in a body -/
theorem px_of {P : Program} {w : World} {K : PySem.W.Frag} {mg : Str → Option Value} {base : Heap} {N : List Str} {qual : Str} {scope : Scope} {f : Addr} {cd : Value} {A : Around} {outer : List Env} {s : Shared} {H : Hp} {E : XK} :
    Passes (L2.CX P w) (cxOf (L2.CX P w) P w K mg base N qual scope f cd A outer s H E) E := passes_call (takes_of rfl rfl rfl rfl) fun _ _ _ _ h => h
theorem tk_of {P : Program} {w : World} {K : PySem.W.Frag} {mg : Str → Option Value} {base : Heap} {N : List Str} {qual : Str} {scope : Scope} {f : Addr} {cd : Value} {A : Around} {outer : List Env} {s : Shared} {H : Hp} {E : XK} :
    Takes (cxOf (L2.CX P w) P w K mg base N qual scope f cd A outer s H E) (W0 E) := takes_of rfl rfl rfl rfl
theorem po_of {P : Program} {w : World} {K : PySem.W.Frag} {mg : Str → Option Value} {base : Heap} {N : List Str} {qual : Str} {scope : Scope} {f : Addr} {cd : Value} {A : Around} {outer : List Env} {s : Shared} {H : Hp} {E : XK} :
    PassesOwn (model P w) (cxOf (L2.CX P w) P w K mg base N qual scope f cd A outer s H E).A (cxOf (L2.CX P w) P w K mg base N qual scope f cd A outer s H E).env (cxOf (L2.CX P w) P w K mg base N qual scope f cd A outer s H E).xe := passes_of rfl
/-! ### calls -/
def fCall (n : Nat) (fm : FM) (g : LA) : LE := fun env st => (g env st).bind fun ds st1 => if ds.length = n then fm ds st1 else .stuck
def fMeth (c m : Str) (n : Nat) (fm : FM) (fa : LE) (g : LA) : LE := fun env st => (fa env st).bind fun d st1 => match insOf c d st1 with
  | some (_, fs) => (match fs.lookup m with
    | none => (g env st1).bind fun ds st2 => if ds.length + 1 = n then fm (d :: ds) st2 else .stuck
    | some _ => .stuck)
  | none => .stuck
def fMake (c : Str) (n : Nat) (fm : FM) (g : LA) : LE := fun env st => (g env st).bind fun ds st1 => if ds.length + 1 = n then (fm (.ref st1.length :: ds) (st1 ++ [.ins c []])).bind fun z st2 => (match z with
  | .non => .ok (.ref st1.length) st2
  | _ => .stuck) else .stuck
section
variable {X : Cx} {T : List (Addr × Str)} {E : XK} {pos p apos : Pos} {x m c : Str} {j k n : Nat} {fm : FM} {g : LA} {e o : Expr} {es : List Expr} {fa : LE}
theorem sim_call {K : PySem.W.Frag} {g : LA} : Sim K T E Dat (tCall (spOf K T n fm) [] E (tOf K T E Dats g)) (fCall n fm g) := fun w σ H env st Q he r p => by
  refine ⟨w, env, st, he, r, p.bind fun w1 vs H1 ds st1 s1 r1 dv p1 => ?_⟩
  by_cases q : ds.length = n
  · rw [if_pos q] at p1
    rw [List.append_nil]
    exact ⟨by rw [dv.length, q], w1, ds, st1, dv, r1, p1⟩
  · rw [if_neg q] at p1
    exact p1.elim
theorem x_call (F : FoP X.prog X.w X.K X.mg X.base T j (x, none) n fm) (hr : Room k X.A) (px : Passes (L2.CX X.prog X.w) X E) (hm : X.mg x = some (.ref (He.ga X.K x))) (ha : PAf X T E (e :: es) g) (hjk : j ≤ k := by decide) (hg : Gl X x := by rfl)
    (hdb : (x == ("__debug__" : Str)) = false := by decide) (he : starEach (e :: es) X.env = (false, eval e X.env) :: starEach es X.env := by rfl) (hpl : (backTo pos (starEach es X.env)).any (·.1) = false := by rfl) :
    PEf X T E (.Call (.Name x p) (e :: es) [] pos) (fCall n fm g) := by
  obtain ⟨⟨fd, ps, F1, b⟩, kp⟩ := F
  exact pe_to (pe_call F1 (hr.mono hjk) hg hm kp b .nil px ha hdb he hpl) sim_call
theorem x_meth {pl : Sem Bool} (F : FoP X.prog X.w X.K X.mg X.base T j (c, some m) n fm) (hr : Room k X.A) (px : Passes (L2.CX X.prog X.w) X E) (cl : Cls X.K (He.ga X.K c)) (hm : Meth X.K (He.ga X.K c) m (He.ma X.K (He.ga X.K c) m)) (ho : PEf X T E o fa) (ha : PAf X T E (e :: es) g) (hjk : j ≤ k := by decide)
    (hst : starEach (e :: es) X.env = (false, eval e X.env) :: starEach es X.env := by rfl) (hpl : (backTo pos (starEach es X.env)).any (·.1) = false := by rfl)
    (ht : eval (.Call (.Attribute o m apos) (e :: es) [] pos) X.env = (do
      let ov ← eval o X.env
      standAt apos.atName
      let (f, first) ← holding [ov] (getMethod ov m pl)
      callWith pos f first (backTo pos (starEach (e :: es) X.env)) (backToKw pos (keywordEach [] X.env))) := by rfl) :
    PEf X T E (.Call (.Attribute o m apos) (e :: es) [] pos) (fMeth c m n fm fa g) := by
  obtain ⟨⟨fd, ps, F1, b⟩, kp⟩ := F
  refine pe_to (pe_meth ho cl hm F1 (hr.mono hjk) b .nil px ha hst hpl ht) fun w σ H env st Q he r p => ?_
  refine ⟨w, env, st, he, r, p.bind fun w1 y H1 d st1 s1 r1 dx p1 => ?_⟩
  cases q : insOf c d st1 with
  | none => rw [q] at p1; exact p1.elim
  | some kf =>
    obtain ⟨k, fs⟩ := kf
    rw [q] at p1
    dsimp only at p1
    cases q2 : fs.lookup m with
    | some _ => rw [q2] at p1; exact p1.elim
    | none =>
      rw [q2] at p1
      dsimp only at p1
      obtain ⟨a, dx', us, rfl, _, _, hH, hf⟩ := ins_at r1 dx q
      refine ⟨a, dx', us, rfl, hH, (hf.look m).1 q2, w1, env, st1, he.mono s1.le, r1, p1.bind fun w2 vs H2 ds st2 s2 r2 dv p2 => ?_⟩
      by_cases z : ds.length + 1 = n
      · rw [if_pos z] at p2
        rw [List.append_nil]
        exact ⟨by rw [List.length_cons, dv.length, z], w2, d :: ds, st2, .cons (dx.mono s2.le) dv, r2, p2⟩
      · rw [if_neg z] at p2
        exact p2.elim
theorem x_meth0 {pl : Sem Bool} (F : FoP X.prog X.w X.K X.mg X.base T j (c, some m) 1 fm) (hr : Room k X.A) (px : Passes (L2.CX X.prog X.w) X E) (cl : Cls X.K (He.ga X.K c)) (hm : Meth X.K (He.ga X.K c) m (He.ma X.K (He.ga X.K c) m)) (ho : PEf X T E o fa) (hjk : j ≤ k := by decide)
    (ht : eval (.Call (.Attribute o m apos) [] [] pos) X.env = (do
      let ov ← eval o X.env
      standAt apos.atName
      let (f, first) ← holding [ov] (getMethod ov m pl)
      callWith pos f first (backTo pos (starEach [] X.env)) (backToKw pos (keywordEach [] X.env))) := by rfl) :
    PEf X T E (.Call (.Attribute o m apos) [] [] pos) (fMeth c m 1 fm fa fNil) := by
  obtain ⟨⟨fd, ps, F1, b⟩, kp⟩ := F
  refine pe_to (pe_meth0 ho cl hm F1 (hr.mono hjk) b .nil px ht) fun w σ H env st Q he r p => ?_
  refine ⟨w, env, st, he, r, p.bind fun w1 y H1 d st1 s1 r1 dx p1 => ?_⟩
  cases q : insOf c d st1 with
  | none => rw [q] at p1; exact p1.elim
  | some kf =>
    obtain ⟨k, fs⟩ := kf
    rw [q] at p1
    dsimp only at p1
    cases q2 : fs.lookup m with
    | some _ => rw [q2] at p1; exact p1.elim
    | none =>
      rw [q2] at p1
      dsimp only at p1
      obtain ⟨a, dx', us, rfl, _, _, hH, hf⟩ := ins_at r1 dx q
      exact ⟨a, dx', us, rfl, hH, (hf.look m).1 q2, rfl, w1, [d], st1, .one dx, r1, p1⟩
theorem x_make (M : Mk X.K (He.ga X.K c) (He.ma X.K (He.ga X.K c) "__init__")) (F : FoP X.prog X.w X.K X.mg X.base T j (c, some "__init__") n fm) (hr : Room k X.A) (px : Passes (L2.CX X.prog X.w) X E) (hm : X.mg c = some (.ref (He.ga X.K c))) (ha : PAf X T E (e :: es) g) (hjk : j + 1 ≤ k := by decide) (hg : Gl X c := by rfl)
    (hdb : (c == ("__debug__" : Str)) = false := by decide) (he : starEach (e :: es) X.env = (false, eval e X.env) :: starEach es X.env := by rfl) (hpl : (backTo pos (starEach es X.env)).any (·.1) = false := by rfl) :
    PEf X T E (.Call (.Name c p) (e :: es) [] pos) (fMake c n fm g) := by
  obtain ⟨⟨fd, ps, F1, b⟩, kp⟩ := F
  refine pe_to (pe_make M F1 (hr.mono hjk) hg hm b .nil px ha hdb he hpl) fun w σ H env st Q he r p => ?_
  refine ⟨w, env, st, he, r, p.bind fun w1 vs H1 ds st1 s1 r1 dv p1 => ?_⟩
  by_cases z : ds.length + 1 = n
  · rw [if_pos z] at p1
    intro a dxa ha hdx hne
    have hk : ∀ b u, H1 b = some u → upd (upd H1 dxa (.own a)) a (.ins (He.ga X.K c) dxa []) b = some u := fun b u h => by
      rw [upd_ne (fun q => by rw [q, ha] at h; cases h), upd_ne (fun q => by rw [q, hdx] at h; cases h)]
      exact h
    obtain ⟨s2, r2⟩ := r1.grown ha hk (c := .ins c []) ⟨r1.freeF ha, dxa, [], upd_same, rfl, .nil⟩
    have dself : Dat ⟨w1.F, w1.ads ++ [a], w1.S⟩ (.ref a) (.ref st1.length) := .ref (by
      show (w1.ads ++ [a])[st1.length]? = some a
      rw [← r1.len]
      simp)
    refine ⟨by rw [List.append_nil, List.length_cons, dv.length, z], _, .ref st1.length :: ds, _, .cons dself (by rw [List.append_nil]; exact dv.mono s2.le), r2, (Post.pull p1 s2).bind fun w3 v H3 d st3 s3 r3 dvv p3 => ?_⟩
    cases dvv with
    | non => exact ⟨rfl, p3.here r3 (dself.mono s3.le)⟩
    | _ => exact p3.elim
  · rw [if_neg z] at p1
    exact p1.elim
/-! ### raising -/
def fRaise (c : Str) : LS := fun env st => .ex ⟨c, none⟩ env st
theorem s_raise {m : Str} {q : Nat} {p2 : Pos} (ex : PySem.W.excIn X.K (He.ga X.K c) He.veBase "ValueError.__new__" = true ∧ PySem.W.keepIn X.K (.ref (He.ga X.K c)) = true ∧ PySem.W.subIn X.K (.ref (He.ga X.K c)) (.type "BaseException") = some true ∧ PySem.W.typeIn X.K (.ref (He.ga X.K c)) = some (.type "type"))
    (hc : X.calm = true) (tk : Takes X (W0 E)) (hm : X.mg c = some (.ref (He.ga X.K c))) (hg : Gl X c := by rfl) (hdb : (c == ("__debug__" : Str)) = false := by decide) :
    PSf X T (W0 E) (.Raise (some (.Call (.Name c p) [.Constant (.str m) q p2] [] apos)) none pos) (fRaise c) :=
  ps_to (ps_raise hc tk (pmk_own PySem.F.excBase_ValueError ex.1 hm ex.2.1 (raises_own ex.2.2.1 ex.2.2.2) hg hdb)) fun w σ H env st Dn he r p => p w _ none σ H (Stp.refl w H) he r ⟨rfl, rfl⟩
end
/-! ### lists that change -/
def cellL (d : D) (st : Store) : Option (Nat × List D) := match d with
  | .ref k => (match st[k]? with
    | some (.lst xs) => some (k, xs)
    | _ => none)
  | _ => none
section
variable {K : PySem.W.Frag} {T : List (Addr × Str)} {w : Wd} {H : Hp} {st : Store}
theorem cell_at {x : V} {d : D} {k : Nat} {xs : List D} (r : Rel K T w H st) (h : Dat w x d) (e : cellL d st = some (k, xs)) : ∃ p vs, x = .ref p ∧ w.ads[k]? = some p ∧ st[k]? = some (.lst xs) ∧ H p = some (.lst vs) ∧ Dats w vs xs := by
  cases h with
  | @ref p j ha =>
    have e' : (match st[j]? with | some (.lst xs) => some (j, xs) | _ => none) = some (k, xs) := e
    cases q : st[j]? with
    | none => rw [q] at e'; cases e'
    | some cl =>
      rw [q] at e'
      cases cl with
      | lst ys =>
        cases e'
        obtain ⟨p', a', _, vs, hH, hv⟩ := r.addr q
        rw [ha] at a'
        cases a'
        exact ⟨p, vs, rfl, ha, q, hH, hv⟩
      | _ => cases e'
  | _ => cases e
theorem Rel.putLst (r : Rel K T w H st) {k : Nat} {p : Addr} {xs ys : List D} {us : List V} (ha : w.ads[k]? = some p) (hs : st[k]? = some (.lst xs)) (hv : Dats w us ys) :
    Stp w H w (upd H p (.lst us)) ∧ Rel K T w (upd H p (.lst us)) (st.set k (.lst ys)) :=
  r.put hs (by simp) ha ⟨(r.at_ k _ p hs ha).1, us, upd_same, hv⟩
end
/-! ### methods of lists, texts, dicts -/
abbrev OM := D → List D → Store → Res D
def SimM (K : PySem.W.Frag) (T : List (Addr × Str)) (r : V → List V → Hp → VK → Prop) (o : OM) : Prop := ∀ E w H st x xs d ds Q, Rel K T w H st → Dat w x d → Dats w xs ds → Post K T E Dat w H (o d ds st) Q → r x xs H Q
def TyOk (K : PySem.W.Frag) (T : List (Addr × Str)) (ty : String) (t : D → Store → Bool) : Prop := ∀ w H st x d, Rel K T w H st → Dat w x d → t d st = true → tyV K ty x H
def fBM (t : D → Store → Bool) (o : OM) (fa : LE) (g : LA) : LE := fun env st => (fa env st).bind fun d st1 => if t d st1 = true then (g env st1).bind fun ds st2 => o d ds st2 else .stuck
def isL (d : D) (st : Store) : Bool := (rdOf d st).isSome
def isS (d : D) (_ : Store) : Bool := match d with
  | .str _ => true
  | _ => false
theorem ty_list {K : PySem.W.Frag} {T : List (Addr × Str)} : TyOk K T "list" isL := fun w H st x d r dx h => by
  unfold isL at h
  cases q : rdOf d st with
  | none => rw [q] at h; cases h
  | some xs =>
    obtain ⟨p, vs, rfl, h1, _⟩ := rd_at r dx q
    exact .inl ⟨rfl, vs, h1⟩
theorem ty_str {K : PySem.W.Frag} {T : List (Addr × Str)} : TyOk K T "str" isS := fun w H st x d r dx h => by
  cases dx with
  | str s => rfl
  | _ => cases h
section
variable {X : Cx} {T : List (Addr × Str)} {E : XK} {apos cpos : Pos} {o e : Expr} {es : List Expr} {fa : LE} {g : LA} {ty id : String} {name : Str} {r : V → List V → Hp → VK → Prop} {oo : OM} {t : D → Store → Bool}
theorem x_bm (pa : PlainAttrs ty) (slot : Slot ty name id) (hty : typeOf (.builtin id) = pure (.type "method_descriptor")) (hm : MtR X id r) (so : SimM X.K T r oo) (tk : TyOk X.K T ty t) (ho : PEf X T E o fa) (ha : PAf X T E (e :: es) g)
    (hbase : attributeBase o name X.env (eval o X.env) = eval o X.env := by rfl)
    (hfew : ((backTo cpos (starEach (e :: es) X.env)).all (fun x => !x.1) && (backToKw cpos (keywordEach [] X.env)).all (fun x => x.1.isSome)
      && decide ((e :: es).length + ([] : List Keyword).length + (if ([] : List Keyword).isEmpty then 0 else 1) < 30)) = true := by rfl)
    (hline : (apos.endLine == cpos.line) = true := by rfl) (hs : starEach (e :: es) X.env = (false, eval e X.env) :: starEach es X.env := by rfl) (hplain : (backTo cpos (starEach es X.env)).any (·.1) = false := by rfl) :
    PEf X T E (.Call (.Attribute o name apos) (e :: es) [] cpos) (fBM t oo fa g) := pe_to (pe_bm pa slot hty hm ho ha hbase hfew hline hs hplain) fun w σ H env st Q he r p => by
  refine ⟨w, env, st, he, r, p.bind fun w1 x H1 d st1 s1 r1 dx p1 => ?_⟩
  by_cases q : t d st1 = true
  · rw [if_pos q] at p1
    exact ⟨tk w1 H1 st1 x d r1 dx q, w1, env, st1, he.mono s1.le, r1, p1.bind fun w2 xs H2 ds st2 s2 r2 dxs p2 => so E w2 H2 st2 x xs d ds Q r2 (dx.mono s2.le) dxs p2⟩
  · rw [if_neg q] at p1
    exact p1.elim
theorem x_bm0 (pa : PlainAttrs ty) (slot : Slot ty name id) (hty : typeOf (.builtin id) = pure (.type "method_descriptor")) (hm : MtR X id r) (so : SimM X.K T r oo) (tk : TyOk X.K T ty t) (ho : PEf X T E o fa)
    (hbase : attributeBase o name X.env (eval o X.env) = eval o X.env := by rfl) (hline : (apos.endLine == cpos.line) = true := by rfl) : PEf X T E (.Call (.Attribute o name apos) [] [] cpos) (fBM t oo fa fNil) := pe_to (pe_bm0 pa slot hty hm ho hbase hline) fun w σ H env st Q he r p => by
  refine ⟨w, env, st, he, r, p.bind fun w1 x H1 d st1 s1 r1 dx p1 => ?_⟩
  by_cases q : t d st1 = true
  · rw [if_pos q] at p1
    exact ⟨tk w1 H1 st1 x d r1 dx q, so E w1 H1 st1 x [] d [] Q r1 dx .nil p1⟩
  · rw [if_neg q] at p1
    exact p1.elim
/-- xs.append(e) -/
def oApp : OM := fun d ds st => match cellL d st, ds with
  | some (k, xs), [y] => if xs.length < lim then .ok .non (st.set k (.lst (xs ++ [y]))) else .stuck
  | _, _ => .stuck
theorem sim_app {K : PySem.W.Frag} : SimM K T rAppend oApp := fun E w H st x xs d ds Q r dx dxs p => by
  unfold oApp at p
  cases q : cellL d st with
  | none => rw [q] at p; exact p.elim
  | some kx =>
    obtain ⟨k, ys⟩ := kx
    rw [q] at p
    cases dxs with
    | nil => exact p.elim
    | cons d1 dr =>
      cases dr with
      | cons _ _ => exact p.elim
      | nil =>
        rename_i v y
        have p' : Post K T E Dat w H (if ys.length < lim then .ok .non (st.set k (.lst (ys ++ [y]))) else .stuck) Q := p
        by_cases z : ys.length < lim
        · rw [if_pos z] at p'
          obtain ⟨a, us, rfl, ha', hs', hH, hv⟩ := cell_at r dx q
          obtain ⟨s2, r2⟩ := r.putLst ha' hs' (hv.append (.one d1))
          exact ⟨a, us, v, rfl, rfl, hH, by rw [hv.length, lim_eq]; exact z, p' w .non _ s2 r2 .non⟩
        · rw [if_neg z] at p'
          exact p'.elim
end
/-- xs[i] = e -/
def gSubL (fo fi : LE) : LG := fun v env st => (fo env st).go env fun d st1 => (fi env st1).go env fun i st2 => match cellL d st2, i with
  | some (k, xs), .int i => (match ixN xs.length i with
    | some j => .nx env (st2.set k (.lst (xs.set j v)))
    | none => .stuck)
  | _, _ => .stuck
section
variable {X : Cx} {T : List (Addr × Str)} {E : XK} {pos apos : Pos} {o i e : Expr} {fa fi fe : LE}
theorem x_append (ho : PEf X T E o fa) (he : PEf X T E e fe)
    (hbase : attributeBase o "append" X.env (eval o X.env) = eval o X.env := by rfl)
    (hfew : ((backTo pos (starEach [e] X.env)).all (fun x => !x.1) && (backToKw pos (keywordEach [] X.env)).all (fun x => x.1.isSome)
      && decide ([e].length + ([] : List Keyword).length + (if ([] : List Keyword).isEmpty then 0 else 1) < 30)) = true := by rfl)
    (hline : (apos.endLine == pos.line) = true := by rfl) (hs : starEach [e] X.env = (false, eval e X.env) :: starEach [] X.env := by rfl) : PEf X T E (.Call (.Attribute o "append" apos) [e] [] pos) (fBM isL oApp fa (fCons fe fNil)) :=
  x_bm PySem.F.plainAttrs_list PySem.F.slot_list_append PySem.F.type_list_append mt_append sim_app ty_list ho (x_cons he x_nil hs) hbase hfew hline hs
theorem g_sub {vs : Option (List Nat)} (ho : PEf X T E o fa) (hi : PEf X T E i fi)
    (ha : ∀ v, assign (.Subscript o i pos) X.env v = (do
      let ov ← holding [v] (eval o X.env)
      let iv ← holding [v, ov] (eval i X.env)
      standAt pos
      holding [v, ov, iv] (setItem ov iv v)
      release [v, ov, iv] []) := by intro _; rfl) : PGf X T E vs (.Subscript o i pos) (gSubL fa fi) := pg_to (pg_sub ho hi set_list ha) fun v σ H Q hh => by
  obtain ⟨w, d, env, st, he, r, dx, p⟩ := hh
  have p : PostG X.K T E (fun σ' => ∀ us, vs = some us → wipe σ' us = wipe σ us) w H ((fa env st).go env fun d' st1 => (fi env st1).go env fun i st2 => match cellL d' st2, i with
    | some (k, xs), .int i => (match ixN xs.length i with
      | some j => .nx env (st2.set k (.lst (xs.set j d)))
      | none => .stuck)
    | _, _ => .stuck) Q := p
  refine ⟨w, env, st, he, r, ?_⟩
  cases q1 : fa env st with
  | ex x st1 => rw [q1] at p; exact p
  | stuck => rw [q1] at p; exact p.elim
  | ok d1 st1 =>
    rw [q1] at p
    intro w1 o1 H1 s1 r1 do1
    have p1 := PostG.pull p s1 fun _ h => h
    refine ⟨w1, env, st1, he.mono s1.le, r1, ?_⟩
    dsimp only [Res.go] at p1
    cases q2 : fi env st1 with
    | ex x st2 => rw [q2] at p1; exact p1
    | stuck => rw [q2] at p1; exact p1.elim
    | ok d2 st2 =>
      rw [q2] at p1
      dsimp only [Res.go] at p1
      intro w2 i2 H2 s2 r2 di2
      have p2 := PostG.pull p1 s2 fun _ h => h
      cases q3 : cellL d1 st2 with
      | none => rw [q3] at p2; exact p2.elim
      | some kx =>
        obtain ⟨k, xs⟩ := kx
        rw [q3] at p2
        cases di2 with
        | int ii =>
          dsimp only at p2
          cases q4 : ixN xs.length ii with
          | none => rw [q4] at p2; exact p2.elim
          | some j =>
            rw [q4] at p2
            obtain ⟨a, us, rfl, ha', hs', hH, hv⟩ := cell_at r2 (do1.mono s2.le) q3
            obtain ⟨s3, r3⟩ := r2.putLst ha' hs' (hv.set ((dx.mono s1.le).mono s2.le) j)
            exact ⟨a, us, ii, j, rfl, rfl, hH, by rw [hv.length]; exact q4, p2 w2 σ _ s3 ((he.mono s1.le).mono s2.le) r3 fun _ _ => rfl⟩
        | _ => exact p2.elim
theorem gok_sub {fo fi : LE} : GOk (gSubL fo fi) := fun d env st => by
  have key : (∃ e s, gSubL fo fi d env st = .nx e s) ∨ gSubL fo fi d env st = .stuck ∨ ∃ x s, gSubL fo fi d env st = .ex x env s := by
    unfold gSubL
    cases q1 : fo env st with
    | ex x s1 => exact .inr (.inr ⟨x, s1, rfl⟩)
    | stuck => exact .inr (.inl rfl)
    | ok d1 s1 =>
      dsimp only [Res.go]
      cases q2 : fi env s1 with
      | ex x s2 => exact .inr (.inr ⟨x, s2, rfl⟩)
      | stuck => exact .inr (.inl rfl)
      | ok d2 s2 =>
        dsimp only [Res.go]
        cases cellL d1 s2 with
        | none => exact .inr (.inl rfl)
        | some kx =>
          obtain ⟨k, xs⟩ := kx
          cases d2 with
          | int ii =>
            dsimp only
            cases ixN xs.length ii with
            | none => exact .inr (.inl rfl)
            | some j => exact .inl ⟨_, _, rfl⟩
          | _ => exact .inr (.inl rfl)
  rcases key with ⟨e, s, q⟩ | q | ⟨x, s, q⟩
  · rw [q]
    exact ⟨(by intro _ _ _ h; cases h), (by intro _ _; exact ⟨(by intro h; cases h), (by intro h; cases h)⟩), (by intro _ _ h; cases h)⟩
  · rw [q]
    exact ⟨(by intro _ _ _ h; cases h), (by intro _ _; exact ⟨(by intro h; cases h), (by intro h; cases h)⟩), (by intro _ _ h; cases h)⟩
  · rw [q]
    exact ⟨(by intro _ _ _ h; cases h; rfl), (by intro _ _; exact ⟨(by intro h; cases h), (by intro h; cases h)⟩), (by intro _ _ h; cases h)⟩
end
end Fk
/-! FkH: a, *b = e. -/
namespace Fk
open PySem PySem.Spec PyProof.Rows L2 PySem.W
section
variable {prog : Program} {w : World} {A : Around} {E : Value → Shared → Prop} {s : Shared}
/-- what stays when only new things come -/
abbrev Grows (h h' : Heap) : Prop := ∀ b o, h.get? b = some o → h'.get? b = some o
theorem newL {us : List Value} {Q : Value → Shared → Prop} (hz : us.length ≤ sizeLine)
    (hQ : Q (.ref s.heap.objs.size) { s with heap := s.heap.push { cls := .type "list", data := .seq us.toArray } }) : wpAny (model prog w) A (newList us) Q E s := by
  unfold newList
  exact wpAny_newObj_type hQ (by rw [sizeLine_eq] at hz; size_fits)
/-- what is left behind the first draw -/
theorem star_rest {l : Addr} {u : Value} {us : List Value} {T : String} {St : Nat → Heap → Prop} {h1 : Heap} (hT : T = "str_ascii_iterator" ∨ T = "str_iterator" ∨ T = "list_iterator" ∨ T = "tuple_iterator")
    (Wk : Walks prog w A.in1 s.heap.objs.size [s.heap.objs.size, l] [s.heap.objs.size] (u :: us).toArray.size (fun i v => (u :: us).toArray[i]? = some v) St) (hS : ∀ i (x : Shared), St i x.heap → x.TypeIs (.ref s.heap.objs.size) T)
    (st1 : St 1 h1) (g1 : ∀ b o, b ≠ s.heap.objs.size → s.heap.get? b = some o → h1.get? b = some o) (hI : s.heap.objs.size < h1.objs.size) (hl : l < h1.objs.size) (hz : us.length + 1 ≤ 16384) :
    wpAny (model prog w) A (holding [u] (collect (.ref s.heap.objs.size))) (fun rest s' => rest = us ∧ ∃ h2 tk, Grows s.heap h2 ∧ s' = { s with heap := h2, toks := tk }) E { s with heap := h1 } := by
  refine wpAny_holding (kun_collect (s := { s with heap := h1 }) hT Wk hS (k := 1) (by simp) st1 hI hl (fun h2 tk hk => ?_) (by rw [sizeLine_eq]; simp; omega))
  refine ⟨by simp, h2, tk, fun b o hb => ?_, rfl⟩
  have nb : b ≠ s.heap.objs.size := Nat.ne_of_lt (Heap.lt_size hb)
  exact hk b o nb (g1 b o nb hb)
theorem star_tup {l : Addr} {u : Value} {us : List Value} {Q : List Value → Shared → Prop} (hh : A.handled = none) (ht : IsTup s.heap l (u :: us).toArray) (hz : us.length + 1 ≤ 16384)
    (hQ : ∀ h2 tk, Grows s.heap h2 → Q [u, .ref h2.objs.size] { s with heap := h2.push { cls := .type "list", data := .seq us.toArray }, toks := tk }) : wpAny (model prog w) A (unpackItems (.ref l) 2 (some 1)) Q E s := by
  have nl : l ≠ s.heap.objs.size := by
    obtain ⟨o, ho, hc⟩ := ht
    exact Nat.ne_of_lt (Heap.lt_size ho)
  unfold unpackItems notIterableAtAll
  refine wpAny_bind (wpAny_bind (wpAny_specialOf ht.typeIs slot_tuple_iter.lookup (wpAny_pure ?_)))
  rw [if_neg (by simp)]
  refine wpAny_bind (wpAny_holding (iter_tuple ht (wpAny_bind (wpAny_holding (draw_tuple nl 1 0 _ _ ⟨_, Heap.get?_push_size _ rfl, rfl, rfl⟩ (ht.push _) (by simp) fun h1 it1 same => ?_)))))
  have ht1 := (ht.push { cls := Value.type "tuple_iterator", data := .fields #[.ref l, .int 0 0] }).extBut same.extBut nl
  rw [Nat.zero_add] at it1
  have e0 : ((u :: us).toArray.toList.drop 0).take 1 = [u] := by simp
  rw [e0]
  have n0 : ¬ [u].length < 1 := by simp
  rw [if_neg n0]
  obtain ⟨oi, hoi, _⟩ := id it1
  obtain ⟨ol, hol, _⟩ := id ht1
  refine wpAny_bind (thn (star_rest (.inr (.inr (.inr rfl))) (Walks.tuple (A := A.in1) hh s.heap.objs.size l nl (u :: us).toArray) (fun j x st => st.1.typeIs) ⟨it1, ht1⟩ (fun b o nb hb => same.extBut b o nb (Heap.get?_push_of_some _ hb)) (Heap.lt_size hoi) (Heap.lt_size hol) hz) fun rest s' ⟨er, h2, tk, gr, es⟩ => ?_)
  subst er es
  dsimp only
  rw [if_neg (show ¬ rest.length < 2 - 1 - 1 by omega), show rest.length - (2 - 1 - 1) = rest.length by omega, List.take_length, List.drop_length]
  exact wpAny_bind (newL (s := { s with heap := h2, toks := tk }) (by rw [sizeLine_eq]; omega) (wpAny_pure (hQ h2 tk gr)))
theorem star_lst {l : Addr} {u : Value} {us : List Value} {Q : List Value → Shared → Prop} (hh : A.handled = none) (ht : s.heap.IsList l (u :: us).toArray) (hz : us.length + 1 ≤ 16384)
    (hQ : ∀ h2 tk, Grows s.heap h2 → Q [u, .ref h2.objs.size] { s with heap := h2.push { cls := .type "list", data := .seq us.toArray }, toks := tk }) : wpAny (model prog w) A (unpackItems (.ref l) 2 (some 1)) Q E s := by
  have nl : l ≠ s.heap.objs.size := by
    obtain ⟨o, ho, hc⟩ := ht
    exact Nat.ne_of_lt (Heap.lt_size ho)
  unfold unpackItems notIterableAtAll
  refine wpAny_bind (wpAny_bind (wpAny_specialOf ht.typeIs slot_list_iter.lookup (wpAny_pure ?_)))
  rw [if_neg (by simp)]
  refine wpAny_bind (wpAny_holding (wpAny_pyIter_list ht (wpAny_bind (wpAny_holding (kun_draw nl 1 0 _ _ ⟨_, Heap.get?_push_size _ rfl, rfl, rfl⟩ (ht.push _) (by simp) fun h1 it1 same => ?_)))))
  have ht1 : h1.IsList l (u :: us).toArray := (ht.push _).extBut same.extBut nl
  rw [Nat.zero_add] at it1
  have e0 : ((u :: us).toArray.toList.drop 0).take 1 = [u] := by simp
  rw [e0]
  have n0 : ¬ [u].length < 1 := by simp
  rw [if_neg n0]
  obtain ⟨oi, hoi, _⟩ := id it1
  obtain ⟨ol, hol, _⟩ := id ht1
  refine wpAny_bind (thn (star_rest (.inr (.inr (.inl rfl))) (Walks.list (A := A.in1) hh s.heap.objs.size l nl (u :: us).toArray) (fun j x st => st.1.typeIs) ⟨it1, ht1⟩ (fun b o nb hb => same.extBut b o nb (Heap.get?_push_of_some _ hb)) (Heap.lt_size hoi) (Heap.lt_size hol) hz) fun rest s' ⟨er, h2, tk, gr, es⟩ => ?_)
  subst er es
  dsimp only
  rw [if_neg (show ¬ rest.length < 2 - 1 - 1 by omega), show rest.length - (2 - 1 - 1) = rest.length by omega, List.take_length, List.drop_length]
  exact wpAny_bind (newL (s := { s with heap := h2, toks := tk }) (by rw [sizeLine_eq]; omega) (wpAny_pure (hQ h2 tk gr)))
end
def gStar (K : PySem.W.Frag) (g1 g2 : TG) : TG := fun v σ H Q => ∃ a x xs, v = .ref a ∧ (SqT K H a (x :: xs) ∨ SqL K H a (x :: xs)) ∧ xs.length + 1 ≤ 16384 ∧ ∀ L, H L = none → g1 x σ (upd H L (.lst xs)) fun σ1 H1 => g2 (.ref L) σ1 H1 Q
section
variable {X : Cx} {pos : Pos}
theorem pg_star {e1 e2 : Expr} {g1 g2 : TG} {p2 : Pos} {k : Nat} (hc : X.calm = true) (h1 : PG X e1 g1) (h2 : PG X e2 g2)
    (he : assignEach [e1, .Starred e2 p2] X.env = [(false, assign e1 X.env), (true, assign e2 X.env)] := by rfl) : PG X (.Tuple [e1, .Starred e2 p2] k pos) (gStar X.K g1 g2) := by
  refine ⟨fun pins s σ H v u Q I r hw => ?_⟩
  obtain ⟨a, x, xs, rfl, hq, hl, hw⟩ := hw
  cases r
  rw [assign_Tuple, he]
  refine wpAny_bind (wpAny_standAt ?_)
  unfold unpack
  have fin : ∀ (us : List Value) (ux : Value), Vals (x :: xs) (ux :: us) → ∀ h2' tk, Grows s.heap h2' →
      wpAny (model X.prog X.w) X.A (assignInOrder [assign e1 X.env, assign e2 X.env] [ux, .ref h2'.objs.size]) (fun _ s' => ∃ σ' H', Inv X pins σ' H' s' ∧ Q σ' H') X.xe { s with heap := h2'.push { cls := .type "list", data := .seq us.toArray }, toks := tk } := fun us ux rv h2' tk gr => by
    cases rv with
    | cons ru rr =>
      have I1 : Inv X pins σ H { s with heap := h2', toks := tk } := I.kept gr
      have hz : xs.length ≤ sizeLine := by rw [sizeLine_eq]; omega
      have I2 := I1.lnew (t' := tk) rr hz
      refine assignInOrder_cons (thn (h1.run pins _ σ _ x ux _ I2 ru (hw _ I1.fresh)) fun _ s3 ⟨σ3, H3, I3, q3⟩ => ?_)
      refine assignInOrder_cons (thn (h2.run pins s3 σ3 H3 _ _ _ I3 (show RelV (.ref h2'.objs.size) (.ref h2'.objs.size) from rfl) q3) fun _ s4 q4 => ?_)
      exact assignInOrder_nil q4
  rcases hq with hq | hq
  · obtain ⟨its, rv, ht, hz⟩ := I.tuple hq
    cases its with
    | nil => cases rv
    | cons ux us =>
      have hl2 : us.length + 1 ≤ 16384 := by
        have := rv.length
        simp at this
        omega
      exact wpAny_bind (wpAny_holding (star_tup (I.ok.hd hc) ht hl2 fun h2' tk gr => fin us ux rv h2' tk gr))
  · obtain ⟨its, rv, ht, hz⟩ := I.list hq
    cases its with
    | nil => cases rv
    | cons ux us =>
      have hl2 : us.length + 1 ≤ 16384 := by
        have := rv.length
        simp at this
        omega
      exact wpAny_bind (wpAny_holding (star_lst (I.ok.hd hc) ht.isList hl2 fun h2' tk gr => fin us ux rv h2' tk gr))
/-- the rest a list that stays -/
def gSt (g1 g2 : LG) : LG := fun d env st => match (match d with
    | .tup ds => some ds
    | d => rdOf d st) with
  | some (x :: xs) => if xs.length + 1 ≤ 16384 then (match g1 x env st with
    | .nx e s => g2 (.lst xs) e s
    | r => r) else .stuck
  | _ => .stuck
theorem g_star {T : List (Addr × Str)} {E : XK} {vs : Option (List Nat)} {e1 e2 : Expr} {f1 f2 : LG} {p2 : Pos} {k : Nat} (hc : X.calm = true) (h1 : PGf X T E vs e1 f1) (h2 : PGf X T E vs e2 f2)
    (he : assignEach [e1, .Starred e2 p2] X.env = [(false, assign e1 X.env), (true, assign e2 X.env)] := by rfl) : PGf X T E vs (.Tuple [e1, .Starred e2 p2] k pos) (gSt f1 f2) := pg_to (pg_star hc h1 h2 he) fun v σ H Q hh => by
  obtain ⟨w, d, env, st, e, r, dx, p⟩ := hh
  have key : ∀ ds, (match d with | .tup ds => some ds | d => rdOf d st) = some ds → ∃ a us, v = .ref a ∧ (SqT X.K H a us ∨ SqL X.K H a us) ∧ Dats w us ds := fun ds hd => by
    have rd : rdOf d st = some ds → ∃ a us, v = .ref a ∧ (SqT X.K H a us ∨ SqL X.K H a us) ∧ Dats w us ds := fun hd => by
      obtain ⟨a, us, e1, h1, h2⟩ := rd_at r dx hd
      exact ⟨a, us, e1, .inr h1, h2⟩
    cases dx with
    | @tup a us es hF hv =>
      cases hd
      exact ⟨a, us, rfl, .inl (SqT.of (r.fr _ _ hF)), hv⟩
    | _ => exact rd hd
  unfold gSt at p
  cases q : (match d with | .tup ds => some ds | d => rdOf d st) with
  | none => rw [q] at p; exact p.elim
  | some ds =>
    rw [q] at p
    cases ds with
    | nil => exact p.elim
    | cons x xs =>
      obtain ⟨a, us, e1, hq, hv⟩ := key _ q
      cases hv with
      | cons hx hr =>
        dsimp only at p
        by_cases hl : xs.length + 1 ≤ 16384
        · rw [if_pos hl] at p
          refine ⟨a, _, _, e1, hq, by rw [hr.length]; exact hl, fun L hL => ?_⟩
          obtain ⟨s1, r1⟩ := r.laid hL (.lst _)
          refine ⟨_, x, env, st, e.mono s1.le, r1, hx.mono s1.le, ?_⟩
          have p1 := PostG.pull p s1 fun _ h => h
          cases q2 : f1 x env st with
          | nx e2' st2 =>
            rw [q2] at p1
            refine fun w2 σ2 H2 s2 e2 r2 hR => ⟨w2, .lst xs, e2', st2, e2, r2, (Dat.lst upd_same (hr.mono s1.le)).mono s2.le, ?_⟩
            exact PostG.pull p1 s2 fun σ'' hh us hu => (hh us hu).trans (hR us hu)
          | ex x e2' st2 => rw [q2] at p1; exact p1
          | bk _ _ => rw [q2] at p1; exact p1.elim
          | ct _ _ => rw [q2] at p1; exact p1.elim
          | rt _ _ => rw [q2] at p1; exact p1.elim
          | stuck => rw [q2] at p1; exact p1.elim
        · rw [if_neg hl] at p
          exact p.elim
theorem gp_star {g1 g2 : LG} (h1 : GPure g1) (h2 : GPure g2) : GPure (gSt g1 g2) := fun d env st => by
  unfold gSt
  cases (match d with | .tup ds => some ds | d => rdOf d st) with
  | none => exact .inr rfl
  | some ds =>
    cases ds with
    | nil => exact .inr rfl
    | cons x xs =>
      dsimp only
      by_cases hl : xs.length + 1 ≤ 16384
      · rw [if_pos hl]
        rcases h1 x env st with ⟨e, s, q⟩ | q
        · rw [q]
          exact h2 _ e s
        · rw [q]
          exact .inr rfl
      · rw [if_neg hl]
        exact .inr rfl
end
end Fk
/-! FkI: isinstance, all, any, tuple, str, int, join, split, pairs, tables, what is not reached. -/
namespace Fk
open PySem PySem.Spec PyProof.Rows L2
/-! ### what is not reached -/
def fStuck : LS := fun _ _ => .stuck
def fStuckE : LE := fun _ _ => .stuck
section
variable {X : Cx} {T : List (Addr × Str)} {E : XK} {W : WX}
theorem s_never {s : Stmt} : PSf X T W s fStuck := ps_to ps_never fun w σ H env st Dn e r p => p.elim
theorem ss_never {s : List Stmt} : PSsf X T W s fStuck := pss_to pss_never fun w σ H env st Dn e r p => p.elim
end
/-! ### isinstance -/
inductive Kd where
  | non | bl | int | str | tup | lst
def Kd.nm : Kd → String
  | .non => "NoneType" | .bl => "bool" | .int => "int" | .str => "str" | .tup => "tuple" | .lst => "list"
def Kd.isa : Kd → Kd → Bool
  | .non, .non | .bl, .bl | .bl, .int | .int, .int | .str, .str | .tup, .tup | .lst, .lst => true
  | _, _ => false
/-- one that may be asked for -/
def Kd.ask : Kd → Bool
  | .non => false
  | _ => true
theorem kd_kit {K : PySem.W.Frag} : ∀ a b : Kd, b.ask = true → PySem.W.kitOne K (.type a.nm) (.type b.nm) = some (a.isa b) := fun a b hb => by
  cases b <;> first | exact absurd hb (by decide) | (cases a <;> exact kit_ty (by decide +kernel))
def kdOf (d : D) (st : Store) : Option Kd := match d with
  | .non => some .non
  | .bl _ => some .bl
  | .int _ => some .int
  | .str _ => some .str
  | .tup _ => some .tup
  | d => (match rdOf d st with
    | some _ => some .lst
    | none => none)
def fIsi (c : Kd) (f : LE) : LE := fun env st => (f env st).bind fun d st1 => match kdOf d st1 with
  | some k => .ok (.bl (k.isa c)) st1
  | none => .stuck
def fIsiT (cs : List Kd) (f : LE) : LE := fun env st => (f env st).bind fun d st1 => match kdOf d st1 with
  | some k => .ok (.bl (cs.any fun c => k.isa c)) st1
  | none => .stuck
section
variable {K : PySem.W.Frag} {T : List (Addr × Str)}
theorem kd_at {w : Wd} {H : Hp} {st : Store} {x : V} {d : D} {k : Kd} (r : Rel K T w H st) (dx : Dat w x d) (e : kdOf d st = some k) : TyX K H x (.type k.nm) := by
  have gen : (match rdOf d st with | some _ => some Kd.lst | none => none) = some k → Dat w x d → TyX K H x (.type k.nm) := fun e dx => by
    cases q : rdOf d st with
    | none => rw [q] at e; cases e
    | some ds =>
      rw [q] at e
      cases e
      obtain ⟨p, vs, rfl, h1, _⟩ := rd_at r dx q
      rcases h1 with (h1 | ⟨o, h1⟩) | h1
      · exact .base (.lst h1)
      · exact .base (.frz h1)
      · obtain ⟨o, its, n, e1, e2, _⟩ := h1
        exact .kList e1 e2
  cases dx with
  | non => cases e; exact .base .non
  | bl b => cases e; exact .base (.bl b)
  | int b => cases e; exact .base (.int b)
  | str b => cases e; exact .base (.str b)
  | tup h1 h2 => cases e; exact .base (.tup (r.fr _ _ h1))
  | lst h1 h2 => exact gen e (.lst h1 h2)
  | lck h1 h2 => exact gen e (.lck h1 h2)
  | ref h1 => exact gen e (.ref h1)
theorem kd_any {K : PySem.W.Frag} {k : Kd} : ∀ {cs : List Kd}, (cs.all Kd.ask) = true → PySem.W.kitAny K (.type k.nm) (cs.map fun c => Value.type c.nm) = some (cs.any fun c => k.isa c)
  | [], _ => kitAny_nil
  | c :: cs, h => by
    rw [List.all_cons, Bool.and_eq_true] at h
    rw [List.map_cons, List.any_cons]
    refine kitAny_cons (kd_kit k c h.1) (fun z => ?_) fun z => ?_
    · rw [z, Bool.false_or]
      exact kd_any h.2
    · rw [z, Bool.true_or]
end
section
variable {X : Cx} {T : List (Addr × Str)} {E : XK} {a : Expr} {fa : LE} {pos q q2 : Pos}
theorem sim_isi {K : PySem.W.Frag} {c : Kd} (hc : c.ask = true) : Sim K T E Dat (tCB (rIsi K) (tCons (tOf K T E Dat fa) (tCons (tC (.ty c.nm)) tNil))) (fIsi c fa) := fun w σ H env st Q e r p => by
  refine ⟨w, env, st, e, r, p.bind fun w1 x H1 d st1 s1 r1 dx p1 => ?_⟩
  cases z : kdOf d st1 with
  | none => rw [z] at p1; exact p1.elim
  | some k =>
    rw [z] at p1
    exact ⟨x, .ty c.nm, _, _, _, rfl, .ty _, kd_at r1 dx z, kd_kit k c hc, p1.here r1 (.bl _)⟩
theorem x_isi {x : Str} (c : Kd) (hm : X.mg "isinstance" = none) (hm2 : X.mg x = none) (ha : PEf X T E a fa) (hv2 : bootBuiltins x = some (.type c.nm) := by decide +kernel) (hg : Gl X "isinstance" := by rfl) (hg2 : Gl X x := by rfl) (hc : c.ask = true := by rfl)
    (hn2 : x ≠ "__name__" := by decide) (hdb2 : (x == ("__debug__" : Str)) = false := by decide)
    (he : starEach [a, .Name x q2] X.env = (false, eval a X.env) :: starEach [.Name x q2] X.env := by rfl) (he2 : starEach [.Name x q2] X.env = (false, eval (.Name x q2) X.env) :: starEach [] X.env := by rfl) (hpl : (backTo pos (starEach [.Name x q2] X.env)).any (·.1) = false := by rfl) :
    PEf X T E (.Call (.Name "isinstance" q) [a, .Name x q2] [] pos) (fIsi c fa) :=
  pe_to (pe_callB call_isi hg hm (by decide +kernel) (pa_cons ha (pa_cons (pe_bltn (v := .ty c.nm) hg2 hm2 hv2 rfl hn2 hdb2) pa_nil he2) he) (by decide) (by decide) he hpl) (sim_isi hc)
/-- names of types -/
inductive TyNs (X : Cx) : List Expr → List Kd → Prop
  | nil : TyNs X [] []
  | cons {x : Str} {q2 : Pos} {c : Kd} {es : List Expr} {cs : List Kd} (hm : X.mg x = none) (h : TyNs X es cs) (hv : bootBuiltins x = some (.type c.nm) := by decide +kernel) (hg : Gl X x := by rfl) (hn : x ≠ "__name__" := by decide) (hdb : (x == ("__debug__" : Str)) = false := by decide)
      (he : starEach (.Name x q2 :: es) X.env = (false, eval (.Name x q2) X.env) :: starEach es X.env := by rfl) : TyNs X (.Name x q2 :: es) (c :: cs)
def tTys (cs : List Kd) : TA := fun _ H Q => Q (cs.map fun c => V.ty c.nm) H
theorem TyNs.pa {es : List Expr} {cs : List Kd} (h : TyNs X es cs) : PA X es (tTys cs) := by
  induction h with
  | nil => exact pa_nil
  | @cons x q2 c es cs hm h hv hg hn hdb he ih => exact pa_cons (pe_bltn (v := .ty c.nm) hg hm hv rfl hn hdb) ih he
theorem paired_tys : ∀ cs : List Kd, Paired ClsV (cs.map fun c => V.ty c.nm) (cs.map fun c => Value.type c.nm)
  | [] => .nil
  | c :: cs => .cons (.ty _) (paired_tys cs)
theorem sim_isiT {K : PySem.W.Frag} {cs : List Kd} (hc : cs.all Kd.ask = true) (hl : cs.length ≤ lim) : Sim K T E Dat (tCB (rIsiT K) (tCons (tOf K T E Dat fa) (tCons (tTup (tTys cs)) tNil))) (fIsiT cs fa) := fun w σ H env st Q e r p => by
  refine ⟨w, env, st, e, r, p.bind fun w1 x H1 d st1 s1 r1 dx p1 => ?_⟩
  refine ⟨by rw [List.length_map, lim_eq]; exact hl, fun l hl => ?_⟩
  cases z : kdOf d st1 with
  | none => rw [z] at p1; exact p1.elim
  | some k =>
    rw [z] at p1
    obtain ⟨s2, r2⟩ := r1.laid hl (.tup (cs.map fun c => V.ty c.nm))
    have kd2 := kd_at r2 (dx.mono s2.le) z
    exact ⟨x, l, _, _, _, _, rfl, upd_same, paired_tys cs, kd2, kd_any hc, p1 _ _ _ s2 r2 (.bl _)⟩
theorem x_isiT {es : List Expr} {cs : List Kd} {j : Nat} {p2 : Pos} (hm : X.mg "isinstance" = none) (ht : TyNs X es cs) (ha : PEf X T E a fa) (hg : Gl X "isinstance" := by rfl) (hc : cs.all Kd.ask = true := by rfl) (hl : cs.length ≤ lim := by decide)
    (he : starEach [a, .Tuple es j p2] X.env = (false, eval a X.env) :: starEach [.Tuple es j p2] X.env := by rfl) (he2 : starEach [.Tuple es j p2] X.env = (false, eval (.Tuple es j p2) X.env) :: starEach [] X.env := by rfl) (hpl : (backTo pos (starEach [.Tuple es j p2] X.env)).any (·.1) = false := by rfl) :
    PEf X T E (.Call (.Name "isinstance" q) [a, .Tuple es j p2] [] pos) (fIsiT cs fa) :=
  pe_to (pe_callB call_isiT hg hm (by decide +kernel) (pa_cons ha (pa_cons (pe_tup ht.pa) pa_nil he2) he) (by decide) (by decide) he hpl) (sim_isiT hc hl)
end
/-! ### all, any -/
def blsOf : List D → Option (List Bool)
  | [] => some []
  | .bl b :: ds => (blsOf ds).map (b :: ·)
  | _ => none
theorem bls_at : ∀ {ds : List D} {bs : List Bool}, blsOf ds = some bs → ds = bs.map D.bl
  | [], bs, h => by cases h; rfl
  | .bl b :: ds, bs, h => by
    have h' : (blsOf ds).map (b :: ·) = some bs := h
    cases q : blsOf ds with
    | none => rw [q] at h'; cases h'
    | some cs =>
      rw [q] at h'
      cases h'
      rw [bls_at q, List.map_cons]
  | .non :: _, bs, h => by cases h
  | .int _ :: _, bs, h => by cases h
  | .str _ :: _, bs, h => by cases h
  | .tup _ :: _, bs, h => by cases h
  | .lst _ :: _, bs, h => by cases h
  | .lck _ :: _, bs, h => by cases h
  | .ref _ :: _, bs, h => by cases h
/-- one list -/
def o1L (g : List D → Store → Res D) : OA := fun ds st => match ds with
  | [d] => (match rdOf d st with
    | some xs => g xs st
    | none => .stuck)
  | _ => .stuck
theorem o1L_at {K : PySem.W.Frag} {T : List (Addr × Str)} {E : XK} {w : Wd} {H : Hp} {st : Store} {vs : List V} {ds : List D} {Q : VK} {g : List D → Store → Res D} (r : Rel K T w H st) (dv : Dats w vs ds) (p : Post K T E Dat w H (o1L g ds st) Q) :
    ∃ a us xs, vs = [.ref a] ∧ SqL K H a us ∧ Dats w us xs ∧ Post K T E Dat w H (g xs st) Q := by
  cases dv with
  | nil => exact p.elim
  | cons dx rest =>
    cases rest with
    | cons _ _ => exact p.elim
    | nil =>
      rename_i v d
      have p' : Post K T E Dat w H (match rdOf d st with | some xs => g xs st | none => .stuck) Q := p
      cases q : rdOf d st with
      | none => rw [q] at p'; exact p'.elim
      | some xs =>
        rw [q] at p'
        obtain ⟨a, us, e1, h1, h2⟩ := rd_at r dx q
        exact ⟨a, us, xs, by rw [e1], h1, h2, p'⟩
def oAll : OA := o1L fun xs st => match blsOf xs with
  | some bs => .ok (.bl (bs.all id)) st
  | none => .stuck
def oAny : OA := o1L fun xs st => match blsOf xs with
  | some bs => .ok (.bl (bs.any id)) st
  | none => .stuck
theorem sim_all {K : PySem.W.Frag} {T : List (Addr × Str)} : SimRA K T (rAll K) oAll := fun E w H st vs ds Q r dv p => by
  obtain ⟨a, us, xs, rfl, h1, h2, p⟩ := o1L_at r dv p
  cases q : blsOf xs with
  | none => rw [q] at p; exact p.elim
  | some bs =>
    rw [q] at p
    have e := bls_at q
    subst e
    have e2 := h2.bls
    subst e2
    exact ⟨a, bs, rfl, h1, p.here r (.bl _)⟩
theorem sim_any {K : PySem.W.Frag} {T : List (Addr × Str)} : SimRA K T (rAny K) oAny := fun E w H st vs ds Q r dv p => by
  obtain ⟨a, us, xs, rfl, h1, h2, p⟩ := o1L_at r dv p
  cases q : blsOf xs with
  | none => rw [q] at p; exact p.elim
  | some bs =>
    rw [q] at p
    have e := bls_at q
    subst e
    have e2 := h2.bls
    subst e2
    exact ⟨a, bs, rfl, h1, p.here r (.bl _)⟩
end Fk
/-! FkJ: tuple, list, str, int, join, split, min, max, pairs at once, texts and ranges walked, tables. -/
namespace Fk
open PySem PySem.Spec PyProof.Rows L2
/-! ### strings of data -/
def strsOf : List D → Option (List Str)
  | [] => some []
  | .str b :: ds => (strsOf ds).map (b :: ·)
  | _ => none
theorem strs_at : ∀ {ds : List D} {bs : List Str}, strsOf ds = some bs → ds = bs.map D.str
  | [], bs, h => by cases h; rfl
  | .str b :: ds, bs, h => by
    have h' : (strsOf ds).map (b :: ·) = some bs := h
    cases q : strsOf ds with
    | none => rw [q] at h'; cases h'
    | some cs =>
      rw [q] at h'
      cases h'
      rw [strs_at q, List.map_cons]
  | .non :: _, bs, h => by cases h
  | .int _ :: _, bs, h => by cases h
  | .bl _ :: _, bs, h => by cases h
  | .tup _ :: _, bs, h => by cases h
  | .lst _ :: _, bs, h => by cases h
  | .lck _ :: _, bs, h => by cases h
  | .ref _ :: _, bs, h => by cases h
theorem strsOf_map : ∀ bs : List Str, strsOf (bs.map D.str) = some bs
  | [] => rfl
  | b :: bs => by
    show (strsOf (bs.map D.str)).map (b :: ·) = _
    rw [strsOf_map bs] <;> rfl
theorem blsOf_map : ∀ bs : List Bool, blsOf (bs.map D.bl) = some bs
  | [] => rfl
  | b :: bs => by
    show (blsOf (bs.map D.bl)).map (b :: ·) = _
    rw [blsOf_map bs] <;> rfl
def intsOf : List D → Option (List Int)
  | [] => some []
  | .int b :: ds => (intsOf ds).map (b :: ·)
  | _ => none
theorem ints_at : ∀ {ds : List D} {bs : List Int}, intsOf ds = some bs → ds = bs.map D.int
  | [], bs, h => by cases h; rfl
  | .int b :: ds, bs, h => by
    have h' : (intsOf ds).map (b :: ·) = some bs := h
    cases q : intsOf ds with
    | none => rw [q] at h'; cases h'
    | some cs =>
      rw [q] at h'
      cases h'
      rw [ints_at q, List.map_cons]
  | .non :: _, bs, h => by cases h
  | .str _ :: _, bs, h => by cases h
  | .bl _ :: _, bs, h => by cases h
  | .tup _ :: _, bs, h => by cases h
  | .lst _ :: _, bs, h => by cases h
  | .lck _ :: _, bs, h => by cases h
  | .ref _ :: _, bs, h => by cases h
theorem intsOf_map : ∀ bs : List Int, intsOf (bs.map D.int) = some bs
  | [] => rfl
  | b :: bs => by
    show (intsOf (bs.map D.int)).map (b :: ·) = _
    rw [intsOf_map bs] <;> rfl
section
variable {K : PySem.W.Frag} {T : List (Addr × Str)}
/-! ### tuple(), list() -/
def oTupOf : OA := fun ds st => match ds with
  | [.tup xs] => .ok (.tup xs) st
  | [d] => (match rdOf d st with
    | some xs => .ok (.tup xs) st
    | none => .stuck)
  | _ => .stuck
theorem sim_tupOf : SimRA K T (fun xs H Q => ∃ p ys, xs = [.ref p] ∧ ((SqL K H p ys ∧ ∀ l, H l = none → Q (.ref l) (upd H l (.tup ys))) ∨ (SqT K H p ys ∧ Q (.ref p) H))) oTupOf := fun E w H st vs ds Q r dv p => by
  cases dv with
  | nil => exact p.elim
  | cons dx rest =>
    rename_i x d _ _
    cases rest with
    | cons _ _ => cases dx <;> exact p.elim
    | nil =>
      have gen : Post K T E Dat w H (match rdOf d st with | some xs => .ok (.tup xs) st | none => .stuck) Q → ∃ p ys, [x] = [.ref p] ∧ ((SqL K H p ys ∧ ∀ l, H l = none → Q (.ref l) (upd H l (.tup ys))) ∨ (SqT K H p ys ∧ Q (.ref p) H)) := fun p => by
        cases q : rdOf d st with
        | none => rw [q] at p; exact p.elim
        | some xs =>
          rw [q] at p
          obtain ⟨l, us, rfl, h1, h2⟩ := rd_at r dx q
          exact ⟨l, us, rfl, .inl ⟨h1, p.newT r h2⟩⟩
      cases dx with
      | tup hF hd => exact ⟨_, _, rfl, .inr ⟨SqT.of (r.fr _ _ hF), p.here r (.tup hF hd)⟩⟩
      | non => exact p.elim
      | bl b => exact p.elim
      | int b => exact p.elim
      | str b => exact p.elim
      | lst h1 h2 => exact gen p
      | lck h1 h2 => exact gen p
      | ref h1 => exact gen p
/-- list(xs): one that stays; a cell -/
def sqOf (d : D) (st : Store) : Option (List D) := match d with
  | .tup xs => some xs
  | d => rdOf d st
theorem sq_at {w : Wd} {H : Hp} {st : Store} {x : V} {d : D} {xs : List D} (r : Rel K T w H st) (h : Dat w x d) (e : sqOf d st = some xs) : ∃ p vs, x = .ref p ∧ (SqL K H p vs ∨ SqT K H p vs) ∧ Dats w vs xs := by
  have gen : rdOf d st = some xs → ∃ p vs, x = .ref p ∧ (SqL K H p vs ∨ SqT K H p vs) ∧ Dats w vs xs := fun e => by
    obtain ⟨l, us, e1, h1, h2⟩ := rd_at r h e
    exact ⟨l, us, e1, .inl h1, h2⟩
  cases h with
  | tup hF hd =>
    cases e
    exact ⟨_, _, rfl, .inr (SqT.of (r.fr _ _ hF)), hd⟩
  | _ => exact gen e
def oLstOf : OA := fun ds st => match ds with
  | [d] => (match sqOf d st with
    | some xs => .ok (.lst xs) st
    | none => .stuck)
  | _ => .stuck
def oLstOfC : OA := fun ds st => match ds with
  | [d] => (match sqOf d st with
    | some xs => .ok (.ref st.length) (st ++ [.lst xs])
    | none => .stuck)
  | _ => .stuck
abbrev rLstOf (K : PySem.W.Frag) : List V → Hp → VK → Prop := fun xs H Q => ∃ p ys, xs = [.ref p] ∧ (SqL K H p ys ∨ SqT K H p ys) ∧ ∀ l, H l = none → Q (.ref l) (upd H l (.lst ys))
theorem sim_lstOf : SimRA K T (rLstOf K) oLstOf := fun E w H st vs ds Q r dv p => by
  cases dv with
  | nil => exact p.elim
  | cons dx rest =>
    rename_i x d _ _
    cases rest with
    | cons _ _ => exact p.elim
    | nil =>
      have p' : Post K T E Dat w H (match sqOf d st with | some xs => .ok (.lst xs) st | none => .stuck) Q := p
      cases q : sqOf d st with
      | none => rw [q] at p'; exact p'.elim
      | some xs =>
        rw [q] at p'
        obtain ⟨l, us, rfl, h1, h2⟩ := sq_at r dx q
        exact ⟨l, us, rfl, h1, p'.newL r h2⟩
theorem sim_lstOfC : SimRA K T (rLstOf K) oLstOfC := fun E w H st vs ds Q r dv p => by
  cases dv with
  | nil => exact p.elim
  | cons dx rest =>
    rename_i x d _ _
    cases rest with
    | cons _ _ => exact p.elim
    | nil =>
      have p' : Post K T E Dat w H (match sqOf d st with | some xs => .ok (.ref st.length) (st ++ [.lst xs]) | none => .stuck) Q := p
      cases q : sqOf d st with
      | none => rw [q] at p'; exact p'.elim
      | some xs =>
        rw [q] at p'
        obtain ⟨l, us, rfl, h1, h2⟩ := sq_at r dx q
        exact ⟨l, us, rfl, h1, p'.newC r h2⟩
/-! ### str(), int() -/
def oStr : OA := fun ds st => match ds with
  | [.int i] => if i.natAbs.log2 < 1920 then .ok (.str (toString i)) st else .stuck
  | [.str s] => .ok (.str s) st
  | _ => .stuck
abbrev rStr : List V → Hp → VK → Prop := fun xs H Q => (∃ i, xs = [.int i] ∧ i.natAbs.log2 < 1920 ∧ Q (.str (toString i)) H) ∨ ∃ a, xs = [.str a] ∧ Q (.str a) H
theorem sim_str : SimRA K T rStr oStr := fun E w H st vs ds Q r dv p => by
  cases dv with
  | nil => exact p.elim
  | cons dx rest =>
    cases rest with
    | cons _ _ => cases dx <;> exact p.elim
    | nil =>
      cases dx with
      | int i =>
        have p' : Post K T E Dat w H (if i.natAbs.log2 < 1920 then .ok (.str (toString i)) st else .stuck) Q := p
        by_cases c : i.natAbs.log2 < 1920
        · rw [if_pos c] at p'
          exact .inl ⟨i, rfl, c, p'.here r (.str _)⟩
        · rw [if_neg c] at p'
          exact p'.elim
      | str s => exact .inr ⟨s, rfl, p.here r (.str _)⟩
      | _ => exact p.elim
def oInt : OA := fun ds st => match ds with
  | [.int i] => .ok (.int i) st
  | [.bl b] => .ok (.int (if b then 1 else 0)) st
  | [.str s] => (match PySem.intText? s with
    | some n => if s.length ≤ 640 then .ok (.int n) st else .stuck
    | none => .stuck)
  | _ => .stuck
abbrev rInt : List V → Hp → VK → Prop := fun xs H Q => ((∃ i, xs = [.int i] ∧ Q (.int i) H) ∨ ∃ k, xs = [.bl k] ∧ Q (.int (if k then 1 else 0)) H) ∨ ∃ a n, xs = [.str a] ∧ PySem.intText? a = some n ∧ a.length ≤ 640 ∧ Q (.int n) H
theorem sim_int : SimRA K T rInt oInt := fun E w H st vs ds Q r dv p => by
  cases dv with
  | nil => exact p.elim
  | cons dx rest =>
    cases rest with
    | cons _ _ => cases dx <;> exact p.elim
    | nil =>
      cases dx with
      | int i => exact .inl (.inl ⟨i, rfl, p.here r (.int _)⟩)
      | bl b => exact .inl (.inr ⟨b, rfl, p.here r (.int _)⟩)
      | str s =>
        have p' : Post K T E Dat w H (match PySem.intText? s with | some n => if s.length ≤ 640 then .ok (.int n) st else .stuck | none => .stuck) Q := p
        cases q : PySem.intText? s with
        | none => rw [q] at p'; exact p'.elim
        | some n =>
          rw [q] at p'
          have p2 : Post K T E Dat w H (if s.length ≤ 640 then .ok (.int n) st else .stuck) Q := p'
          by_cases c : s.length ≤ 640
          · rw [if_pos c] at p2
            exact .inr ⟨s, n, rfl, q, c, p2.here r (.int _)⟩
          · rw [if_neg c] at p2
            exact p2.elim
      | _ => exact p.elim
/-! ### min, max -/
def oMax2 : OA := fun ds st => match ds with
  | [.int i, .int j] => .ok (.int (if j > i then j else i)) st
  | _ => .stuck
def oMin2 : OA := fun ds st => match ds with
  | [.int i, .int j] => .ok (.int (if j < i then j else i)) st
  | _ => .stuck
theorem sim_max2 : SimRA K T (fun xs H Q => ∃ i j, xs = [.int i, .int j] ∧ Q (.int (if j > i then j else i)) H) oMax2 := fun E w H st vs ds Q r dv p => by
  cases dv with
  | nil => exact p.elim
  | cons dx rest =>
    cases rest with
    | nil => cases dx <;> exact p.elim
    | cons dy rest =>
      cases rest with
      | cons _ _ => cases dx <;> cases dy <;> exact p.elim
      | nil =>
        cases dx with
        | int i =>
          cases dy with
          | int j => exact ⟨i, j, rfl, p.here r (.int _)⟩
          | _ => exact p.elim
        | _ => exact p.elim
theorem sim_min2 : SimRA K T (fun xs H Q => ∃ i j, xs = [.int i, .int j] ∧ Q (.int (if j < i then j else i)) H) oMin2 := fun E w H st vs ds Q r dv p => by
  cases dv with
  | nil => exact p.elim
  | cons dx rest =>
    cases rest with
    | nil => cases dx <;> exact p.elim
    | cons dy rest =>
      cases rest with
      | cons _ _ => cases dx <;> cases dy <;> exact p.elim
      | nil =>
        cases dx with
        | int i =>
          cases dy with
          | int j => exact ⟨i, j, rfl, p.here r (.int _)⟩
          | _ => exact p.elim
        | _ => exact p.elim
def maxI : List Int → Int
  | [] => 0
  | [a] => a
  | a :: l => (let m := maxI l; if m ≤ a then a else m)
def minI : List Int → Int
  | [] => 0
  | [a] => a
  | a :: l => (let m := minI l; if a ≤ m then a else m)
theorem maxI_spec : ∀ {l : List Int}, l ≠ [] → maxI l ∈ l ∧ ∀ y, y ∈ l → y ≤ maxI l
  | [], h => absurd rfl h
  | [a], _ => ⟨List.mem_singleton.mpr rfl, fun y h => by rw [List.mem_singleton.mp h]; exact Int.le_refl a⟩
  | a :: b :: l, _ => by
    obtain ⟨h1, h2⟩ := maxI_spec (l := b :: l) (by simp)
    have e : maxI (a :: b :: l) = if maxI (b :: l) ≤ a then a else maxI (b :: l) := rfl
    rw [e]
    by_cases c : maxI (b :: l) ≤ a
    · rw [if_pos c]
      refine ⟨List.mem_cons_self, fun y hy => ?_⟩
      rcases List.mem_cons.mp hy with hy | hy
      · rw [hy]; exact Int.le_refl a
      · exact Int.le_trans (h2 y hy) c
    · rw [if_neg c]
      refine ⟨List.mem_cons_of_mem _ h1, fun y hy => ?_⟩
      rcases List.mem_cons.mp hy with hy | hy
      · rw [hy]; omega
      · exact h2 y hy
theorem minI_spec : ∀ {l : List Int}, l ≠ [] → minI l ∈ l ∧ ∀ y, y ∈ l → minI l ≤ y
  | [], h => absurd rfl h
  | [a], _ => ⟨List.mem_singleton.mpr rfl, fun y h => by rw [List.mem_singleton.mp h]; exact Int.le_refl a⟩
  | a :: b :: l, _ => by
    obtain ⟨h1, h2⟩ := minI_spec (l := b :: l) (by simp)
    have e : minI (a :: b :: l) = if a ≤ minI (b :: l) then a else minI (b :: l) := rfl
    rw [e]
    by_cases c : a ≤ minI (b :: l)
    · rw [if_pos c]
      refine ⟨List.mem_cons_self, fun y hy => ?_⟩
      rcases List.mem_cons.mp hy with hy | hy
      · rw [hy]; exact Int.le_refl a
      · exact Int.le_trans c (h2 y hy)
    · rw [if_neg c]
      refine ⟨List.mem_cons_of_mem _ h1, fun y hy => ?_⟩
      rcases List.mem_cons.mp hy with hy | hy
      · rw [hy]; omega
      · exact h2 y hy
def oMaxL : OA := o1L fun xs st => match intsOf xs with
  | some (n :: ns) => .ok (.int (maxI (n :: ns))) st
  | _ => .stuck
def oMinL : OA := o1L fun xs st => match intsOf xs with
  | some (n :: ns) => .ok (.int (minI (n :: ns))) st
  | _ => .stuck
def oSum : OA := o1L fun xs st => match intsOf xs with
  | some ns => .ok (.int ns.sum) st
  | _ => .stuck
theorem sim_maxL : SimRA K T (rMax K) oMaxL := fun E w H st vs ds Q r dv p => by
  obtain ⟨a, us, xs, rfl, h1, h2, p⟩ := o1L_at r dv p
  cases q : intsOf xs with
  | none => rw [q] at p; exact p.elim
  | some bs =>
    rw [q] at p
    have e := ints_at q
    subst e
    have e2 := h2.ints
    subst e2
    cases bs with
    | nil => exact p.elim
    | cons b bs =>
      refine ⟨a, b :: bs, rfl, h1, by simp, fun m hm hmax => ?_⟩
      obtain ⟨h3, h4⟩ := maxI_spec (l := b :: bs) (by simp)
      have e3 : m = maxI (b :: bs) := Int.le_antisymm (h4 m hm) (hmax _ h3)
      rw [e3]
      exact p.here r (.int _)
theorem sim_minL : SimRA K T (rMin K) oMinL := fun E w H st vs ds Q r dv p => by
  obtain ⟨a, us, xs, rfl, h1, h2, p⟩ := o1L_at r dv p
  cases q : intsOf xs with
  | none => rw [q] at p; exact p.elim
  | some bs =>
    rw [q] at p
    have e := ints_at q
    subst e
    have e2 := h2.ints
    subst e2
    cases bs with
    | nil => exact p.elim
    | cons b bs =>
      refine ⟨a, b :: bs, rfl, h1, by simp, fun m hm hmax => ?_⟩
      obtain ⟨h3, h4⟩ := minI_spec (l := b :: bs) (by simp)
      have e3 : m = minI (b :: bs) := Int.le_antisymm (hmax _ h3) (h4 m hm)
      rw [e3]
      exact p.here r (.int _)
theorem sim_sum : SimRA K T (rSum K) oSum := fun E w H st vs ds Q r dv p => by
  obtain ⟨a, us, xs, rfl, h1, h2, p⟩ := o1L_at r dv p
  cases q : intsOf xs with
  | none => rw [q] at p; exact p.elim
  | some bs =>
    rw [q] at p
    have e := ints_at q
    subst e
    have e2 := h2.ints
    subst e2
    exact ⟨a, bs, rfl, h1, p.here r (.int _)⟩
/-! ### join, split -/
def oJoin : OM := fun d ds st => match d, ds with
  | .str a, [e] => (match rdOf e st with
    | some xs => (match strsOf xs with
      | some ys => if (ys.map (·.length)).sum + ys.length * a.length ≤ 16777216 then .ok (.str (Txt.join a ys)) st else .stuck
      | none => .stuck)
    | none => .stuck)
  | _, _ => .stuck
def oSplit : OM := fun d ds st => match d, ds with
  | .str a, [.str b] => if (b.length == 0) = false ∧ a.length + 2 ≤ lim then .ok (.lst ((Txt.split a b).map D.str)) st else .stuck
  | _, _ => .stuck
theorem sim_join : SimM K T (fun x xs H Q => ∃ a p, ∃ ys : List Str, x = .str a ∧ xs = [.ref p] ∧ (SqL K H p (ys.map V.str) ∨ SqT K H p (ys.map V.str)) ∧ (ys.map (·.length)).sum + ys.length * a.length ≤ 16777216 ∧ Q (.str (Txt.join a ys)) H) oJoin := fun E w H st x xs d ds Q r dx dxs p => by
  cases dx with
  | str a =>
    cases dxs with
    | nil => exact p.elim
    | cons d1 dr =>
      cases dr with
      | cons _ _ => exact p.elim
      | nil =>
        rename_i v e
        have p' : Post K T E Dat w H (match rdOf e st with
          | some xs => (match strsOf xs with
            | some ys => if (ys.map (·.length)).sum + ys.length * a.length ≤ 16777216 then .ok (.str (Txt.join a ys)) st else .stuck
            | none => .stuck)
          | none => .stuck) Q := p
        cases q : rdOf e st with
        | none => rw [q] at p'; exact p'.elim
        | some zs =>
          rw [q] at p'
          have p2 : Post K T E Dat w H (match strsOf zs with
            | some ys => if (ys.map (·.length)).sum + ys.length * a.length ≤ 16777216 then .ok (.str (Txt.join a ys)) st else .stuck
            | none => .stuck) Q := p'
          obtain ⟨l, us, rfl, h1, h2⟩ := rd_at r d1 q
          cases q2 : strsOf zs with
          | none => rw [q2] at p2; exact p2.elim
          | some ys =>
            rw [q2] at p2
            have e1 := strs_at q2
            subst e1
            have e2 := h2.strs
            subst e2
            have p3 : Post K T E Dat w H (if (ys.map (·.length)).sum + ys.length * a.length ≤ 16777216 then .ok (.str (Txt.join a ys)) st else .stuck) Q := p2
            by_cases c : (ys.map (·.length)).sum + ys.length * a.length ≤ 16777216
            · rw [if_pos c] at p3
              exact ⟨a, l, ys, rfl, rfl, .inl h1, c, p3.here r (.str _)⟩
            · rw [if_neg c] at p3
              exact p3.elim
  | _ => exact p.elim
theorem sim_split : SimM K T (fun x xs H Q => ∃ a b, x = .str a ∧ xs = [.str b] ∧ (b.length == 0) = false ∧ a.length + 2 ≤ sizeLine ∧ rNewStrs (Txt.split a b) H Q) oSplit := fun E w H st x xs d ds Q r dx dxs p => by
  cases dx with
  | str a =>
    cases dxs with
    | nil => exact p.elim
    | cons d1 dr =>
      cases dr with
      | cons _ _ => cases d1 <;> exact p.elim
      | nil =>
        cases d1 with
        | str b =>
          have p' : Post K T E Dat w H (if (b.length == 0) = false ∧ a.length + 2 ≤ lim then .ok (.lst ((Txt.split a b).map D.str)) st else .stuck) Q := p
          by_cases c : (b.length == 0) = false ∧ a.length + 2 ≤ lim
          · rw [if_pos c] at p'
            exact ⟨a, b, rfl, rfl, c.1, by rw [lim_eq]; exact c.2, p'.newL r (Dats.of_strs _)⟩
          · rw [if_neg c] at p'
            exact p'.elim
        | _ => exact p.elim
  | _ => exact p.elim
end
end Fk
/-! FkK: pairs at once, texts and ranges walked, tables. -/
namespace Fk
open PySem PySem.Spec PyProof.Rows L2
/-! ### a, b = x, y with plain names -/
def fPar (i j : Nat) (g : LA) : LS := fun env st => (g env st).go env fun ds st1 => match ds with
  | [d, e] => .nx ((env.set i (some d)).set j (some e)) st1
  | _ => .stuck
def fPar3 (i j l : Nat) (g : LA) : LS := fun env st => (g env st).go env fun ds st1 => match ds with
  | [d, e, f] => .nx (((env.set i (some d)).set j (some e)).set l (some f)) st1
  | _ => .stuck
section
variable {X : Cx} {T : List (Addr × Str)} {E : XK} {pos : Pos}
theorem s_par {i j : Nat} {x y : Str} {a b : Expr} {g : LA} {px py pt : Pos} {kt k2 pt2} (hc : X.calm = true) (hN : X.N.Nodup) (ha : PAf X T E [a, b] g) (hi : X.N[i]? = some x := by rfl) (hj : X.N[j]? = some y := by rfl) (hij : i ≠ j := by decide)
    (hx : X.env.scope.names.lookup x = some .local := by rfl) (hy : X.env.scope.names.lookup y = some .local := by rfl)
    (hw : swappedStores [.Tuple [.Name x px, .Name y py] kt pt] (.Tuple [a, b] k2 pt2) X.env = pure (some [x, y]) := by rfl)
    (hs : swapsWithSole [.Tuple [.Name x px, .Name y py] kt pt] (.Tuple [a, b] k2 pt2) pos.line X.env = pure false := by rfl) :
    PSf X T (W0 E) (.Assign [.Tuple [.Name x px, .Name y py] kt pt] (.Tuple [a, b] k2 pt2) pos) (fPar i j g) := ps_to (ps_par hc hN hi hj hij hx hy ha hw hs) fun w σ H env st Dn he r p => by
  refine ⟨w, env, st, he, r, PostS.go (rel := Dats) (fun _ _ _ h => h) he p fun w1 vs H1 ds st1 s1 r1 dv p1 => ?_⟩
  cases dv with
  | nil => exact p1.elim
  | cons d1 dr =>
    cases dr with
    | nil => exact p1.elim
    | cons d2 dr =>
      cases dr with
      | cons _ _ => exact p1.elim
      | nil => exact ⟨_, _, rfl, p1 w1 _ H1 (Stp.refl w1 H1) (((he.mono s1.le).set i d1).set j d2) r1⟩
theorem s_par3 {i j l : Nat} {x y z : Str} {a b c : Expr} {g : LA} {px py pz pt : Pos} {kt k2 pt2} (hc : X.calm = true) (hN : X.N.Nodup) (ha : PAf X T E [a, b, c] g) (hi : X.N[i]? = some x := by rfl) (hj : X.N[j]? = some y := by rfl) (hl : X.N[l]? = some z := by rfl) (hij : i ≠ j := by decide) (hil : i ≠ l := by decide) (hjl : j ≠ l := by decide)
    (hx : X.env.scope.names.lookup x = some .local := by rfl) (hy : X.env.scope.names.lookup y = some .local := by rfl) (hz : X.env.scope.names.lookup z = some .local := by rfl)
    (hw : swappedStores [.Tuple [.Name x px, .Name y py, .Name z pz] kt pt] (.Tuple [a, b, c] k2 pt2) X.env = pure (some [x, y, z]) := by rfl)
    (hs : swapsWithSole [.Tuple [.Name x px, .Name y py, .Name z pz] kt pt] (.Tuple [a, b, c] k2 pt2) pos.line X.env = pure false := by rfl) :
    PSf X T (W0 E) (.Assign [.Tuple [.Name x px, .Name y py, .Name z pz] kt pt] (.Tuple [a, b, c] k2 pt2) pos) (fPar3 i j l g) := ps_to (ps_par3 hc hN hi hj hl hij hil hjl hx hy hz ha hw hs) fun w σ H env st Dn he r p => by
  refine ⟨w, env, st, he, r, PostS.go (rel := Dats) (fun _ _ _ h => h) he p fun w1 vs H1 ds st1 s1 r1 dv p1 => ?_⟩
  cases dv with
  | nil => exact p1.elim
  | cons d1 dr =>
    cases dr with
    | nil => exact p1.elim
    | cons d2 dr =>
      cases dr with
      | nil => exact p1.elim
      | cons d3 dr =>
        cases dr with
        | cons _ _ => exact p1.elim
        | nil => exact ⟨_, _, _, rfl, p1 w1 _ H1 (Stp.refl w1 H1) ((((he.mono s1.le).set i d1).set j d2).set l d3) r1⟩
/-! ### walks -/
/-- a text's letters -/
def iS (f : LE) : LI := fun env st => (f env st).bind fun d st1 => match d with
  | .str s => .ok (s.cps.toList.map fun c => .str ⟨#[c]⟩, fun _ => true) st1
  | _ => .stuck
theorem sim_iS {K : PySem.W.Frag} {f : LE} : Sim K T E (WalkR K T) (iStr (tOf K T E Dat f)) (iS f) := fun w σ H env st Q he r p => by
  refine ⟨w, env, st, he, r, Post.bind (rel := Dat) p fun w1 x H1 d st1 s1 r1 dx p1 => ?_⟩
  cases dx with
  | str s =>
    refine ⟨s, rfl, p1.here r1 ⟨fun w H st l r _ => ?_, fun i d w H st l r _ e => ?_, fun i d w H st x H' l r _ e y => ?_⟩⟩
    · show s.cps.size ≤ _
      simp
    · have := (List.getElem?_eq_some_iff.mp e).1
      show i < s.cps.size
      simpa using this
    · obtain ⟨rfl, c, h1, rfl⟩ := y
      rw [List.getElem?_map, Array.getElem?_toList, h1] at e
      cases e
      exact ⟨w, Stp.refl w _, r, .str _⟩
  | _ => exact p1.elim
theorem i_str {tg l : Expr} {f : LE} (h : PEf X T E l f) : PIf X T E tg l (iS f) := pi_to (pi_str h) sim_iS
theorem small_of {i j c : Int} (hc : c ≠ 0) (hc2 : c.natAbs < 1073741824) (hi : i.natAbs < 2 ^ 60) (hj : j.natAbs < 2 ^ 60) : Builtin.Range.small i j c = true := by
  have h1 := PyProof.Rows.rangeSize_toNat i j c
  have h2 := PyProof.Rows.rangeSize_toNat_le i j c
  unfold Builtin.Range.small
  simp only [Builtin.Range.rangeFitsLong, Bool.and_eq_true, Bool.or_eq_true, decide_eq_true_eq, beq_iff_eq]
  refine ⟨by omega, .inr ?_⟩
  split <;> (simp only [Bool.and_eq_true, decide_eq_true_eq] ; omega)
/-- range(a, b, c) -/
def iR3 (g : LA) : LI := fun env st => (g env st).bind fun ds st1 => match ds with
  | [.int i, .int j, .int c] => if c ≠ 0 ∧ c.natAbs < 1073741824 ∧ i.natAbs < 2 ^ 60 ∧ j.natAbs < 2 ^ 60 then .ok (rgD i c (Builtin.Range.rangeSize i j c).toNat, fun _ => true) st1 else .stuck
  | _ => .stuck
theorem walk_rc {K : PySem.W.Frag} {w0 : Wd} {lo c : Int} {n : Nat} : Walk K T (Itc lo c n) (rgD lo c n) (fun _ => true) w0 where
  stop := fun w H st l r _ => by
    show n ≤ (rgD lo c n).length
    simp [rgD]
  go := fun i d w H st l r _ e => (rgD_get e).1
  yld := fun i d w H st x H' l r _ e y => by
    obtain ⟨rfl, rfl⟩ := y
    rw [(rgD_get e).2]
    exact ⟨w, Stp.refl w _, r, .int _⟩
theorem i_range3 {tg a b c : Expr} {g : LA} {p pos : Pos} (hm : X.mg "range" = none) (ha : PAf X T E [a, b, c] g) (hg : Gl X "range" := by rfl) (hs : starEach [a, b, c] X.env = (false, eval a X.env) :: starEach [b, c] X.env := by rfl) (hpl : (backTo pos (starEach [b, c] X.env)).any (·.1) = false := by rfl) : PIf X T E tg (.Call (.Name "range" p) [a, b, c] [] pos) (iR3 g) := pi_to (pi_range3 hg hm ha hs hpl) fun w σ H env st Q he r p => by
  refine ⟨w, env, st, he, r, Post.bind (rel := Dats) p fun w1 x H1 ds st1 s1 r1 dx p1 => ?_⟩
  cases dx with
  | nil => exact p1.elim
  | cons d1 dr =>
    cases d1 with
    | int i =>
      cases dr with
      | nil => exact p1.elim
      | cons d2 dr =>
        cases d2 with
        | int j =>
          cases dr with
          | nil => exact p1.elim
          | cons d3 dr =>
            cases d3 with
            | int k =>
              cases dr with
              | nil =>
                have p2 : Post X.K T E (WalkR X.K T) w1 H1 (if k ≠ 0 ∧ k.natAbs < 1073741824 ∧ i.natAbs < 2 ^ 60 ∧ j.natAbs < 2 ^ 60 then .ok (rgD i k (Builtin.Range.rangeSize i j k).toNat, fun _ => true) st1 else .stuck) Q := p1
                by_cases q : k ≠ 0 ∧ k.natAbs < 1073741824 ∧ i.natAbs < 2 ^ 60 ∧ j.natAbs < 2 ^ 60
                · rw [if_pos q] at p2
                  exact ⟨i, j, k, _, rfl, ⟨q.1, q.2.1, small_of q.1 q.2.1 q.2.2.1 q.2.2.2, PyProof.Rows.rangeSize_toNat i j k⟩, p2.here r1 walk_rc⟩
                · rw [if_neg q] at p2
                  exact p2.elim
              | cons _ _ => exact p1.elim
            | _ => exact p1.elim
        | _ => exact p1.elim
    | _ => exact p1.elim
end
/-! ### a table of the module: texts to ints, read with get -/
def valI (e : DictEntry) : Option Int := match e.val with
  | .int i _ => some i
  | _ => none
/-- the table at a has these keys, in turn, and these ints -/
structure TabI (K : PySem.W.Frag) (w : World) (a : Addr) (kvs : List (Str × Int)) : Prop where
  ex : ∃ es n, KDict K w a es n ∧ es.toList.map He.keyOf = He.keysIn w.params (kvs.map (·.1)) ∧ es.toList.map valI = kvs.map fun q => some q.2
theorem tab_find {P : Params} : ∀ {es : List DictEntry} {kvs : List (Str × Int)} (z : Str), es.map He.keyOf = He.keysIn P (kvs.map (·.1)) → es.map valI = kvs.map (fun q => some q.2) →
    (match kvs.lookup z with
    | some i => ∃ t, (es.find? (·.key.isStr z)).map (·.val) = some (.int i t)
    | none => es.find? (·.key.isStr z) = none ∧ es.any (·.refKey) = false)
  | [], [], z, _, _ => ⟨rfl, rfl⟩
  | [], _ :: _, z, h, _ => by cases h
  | _ :: _, [], z, h, _ => by cases h
  | e :: es, (k, i) :: kvs, z, h1, h2 => by
    have h3 : He.keyOf e :: es.map He.keyOf = some (k, PyData.keyHash P k) :: He.keysIn P (kvs.map (·.1)) := h1
    have h4 : valI e :: es.map valI = some i :: kvs.map (fun q => some q.2) := h2
    injection h3 with h5 h6
    injection h4 with h7 h8
    have ih := tab_find z h6 h8
    obtain ⟨t, ek⟩ : ∃ t, e.key = .str k t := by
      unfold He.keyOf at h5
      split at h5
      · rename_i x t q
        have h9 := Option.some.inj h5
        obtain ⟨h10, _⟩ := Prod.mk.inj h9
        exact ⟨t, by rw [q, h10]⟩
      · cases h5
    obtain ⟨u, ev⟩ : ∃ u, e.val = .int i u := by
      unfold valI at h7
      split at h7
      · rename_i x t q
        exact ⟨t, by rw [q, Option.some.inj h7]⟩
      · cases h7
    have ei : e.key.isStr z = (k == z) := by rw [ek]; rfl
    have er : e.refKey = false := by unfold DictEntry.refKey; rw [ek] <;> rfl
    by_cases c : z = k
    · subst c
      have el : List.lookup z ((z, i) :: kvs) = some i := by simp
      rw [el]
      refine ⟨u, ?_⟩
      rw [List.find?_cons, ei]
      simp [ev]
    · have el : List.lookup z ((k, i) :: kvs) = kvs.lookup z := by
        rw [List.lookup_cons, beq_false_of_ne c]
      have ei2 : e.key.isStr z = false := by rw [ei]; exact beq_false_of_ne fun y => c y.symm
      rw [el]
      cases q : kvs.lookup z with
      | some i' =>
        rw [q] at ih
        obtain ⟨t', h⟩ := ih
        refine ⟨t', ?_⟩
        rw [List.find?_cons, ei2]
        exact h
      | none =>
        rw [q] at ih
        refine ⟨?_, ?_⟩
        · rw [List.find?_cons, ei2]
          exact ih.1
        · rw [List.any_cons, er, ih.2, Bool.or_self]
theorem TabI.get {K : PySem.W.Frag} {w : World} {a : Addr} {kvs : List (Str × Int)} (h : TabI K w a kvs) (z : Str) : ∃ es n, KDict K w a es n ∧ (match kvs.lookup z with
    | some i => ∃ t, PySem.W.nsIn K a z = some (some (.int i t))
    | none => PySem.W.nsIn K a z = some none) := by
  obtain ⟨es, n, D, h1, h2⟩ := h
  refine ⟨es, n, D, ?_⟩
  have f := tab_find z h1 h2
  unfold PySem.W.nsIn
  rw [D.at_]
  dsimp only
  cases q : kvs.lookup z with
  | some i =>
    rw [q] at f
    obtain ⟨t, f⟩ := f
    refine ⟨t, ?_⟩
    cases q2 : es.toList.find? (·.key.isStr z) with
    | none => rw [q2] at f; cases f
    | some e =>
      rw [q2] at f
      have f2 : some e.val = some (.int i t) := f
      dsimp only
      rw [f2]
  | none =>
    rw [q] at f
    rw [f.1]
    dsimp only
    rw [f.2]
    rfl
def fGetI (kvs : List (Str × Int)) (fk : LE) (dflt : Int) : LE := fun env st => (fk env st).bind fun d st1 => match d with
  | .str z => .ok (.int ((kvs.lookup z).getD dflt)) st1
  | _ => .stuck
section
variable {X : Cx} {T : List (Addr × Str)} {E : XK}
theorem x_getI {x : Str} {e : Expr} {fk : LE} {kvs : List (Str × Int)} {dflt : Int} {j : Nat} {p q apos cpos : Pos} (D : TabI X.K X.w (He.ga X.K x) kvs) (hm : X.mg x = some (.ref (He.ga X.K x))) (he : PEf X T E e fk) (hg : Gl X x := by rfl) (hdb : (x == ("__debug__" : Str)) = false := by decide)
    (m : M2 X (.Name x p) "get" apos e (.Constant (.int dflt) j q) cpos := by exact ⟨rfl, rfl, rfl, rfl⟩) : PEf X T E (.Call (.Attribute (.Name x p) "get" apos) [e, .Constant (.int dflt) j q] [] cpos) (fGetI kvs fk dflt) := by
  refine ⟨fun pins s σ H Q I h => ?_⟩
  obtain ⟨w, env, st, he0, r, pp⟩ := h
  refine wpAny_Call_method m.base m.few m.line PySem.F.plainAttrs_dict PySem.F.slot_dict_get PySem.F.type_dict_get (ld_glob I hg hm ?_ hdb)
  obtain ⟨es0, n0, D0, _⟩ := D.get x
  have hm0 := PySem.W.mapOf_K (prog := X.prog) (w := X.w) I.kIn D0.at_ D0.lit
  refine ⟨hm0.typeIs, fun b y => ?_, ?_⟩
  · cases y
    exact ⟨_, I.kIn _ _ D0.at_, rfl⟩
  rw [m.trees]
  refine Calls.callWith_builtin rfl (Calls.evalArgs_plain (Calls.spliced_cons (thn (he.run pins s σ H (fun v H => ∃ w1 d st1, Rel X.K T w1 H st1 ∧ Dat w1 v d ∧ Post X.K T E Dat w1 H (match d with
      | .str z => .ok (.int ((kvs.lookup z).getD dflt)) st1
      | _ => .stuck) Q) I ⟨w, env, st, he0, r, Post.bind pp fun w1 x H1 d st1 s1 r1 dx p1 => ⟨w1, d, st1, r1, dx, p1⟩⟩) fun u s2 ⟨y, H2, I2, ry, w1, d, st1, r1, dx, p1⟩ => ?_)))
  refine Calls.spliced_cons (thn (pe_int.run pins s2 σ H2 (fun v H' => v = .int dflt ∧ H' = H2) I2 ⟨rfl, rfl⟩) fun fv s3 ⟨z3, H3, I3, rz, ez, eH⟩ => Calls.spliced_nil ?_)
  subst ez eH
  cases dx with
  | str z =>
    have p1 : Post X.K T E Dat w1 H3 (.ok (.int ((kvs.lookup z).getD dflt)) st1) Q := p1
    obtain ⟨t, rfl⟩ := ry
    obtain ⟨es, n, D1, hz⟩ := D.get z
    have hm1 := PySem.W.mapOf_K (prog := X.prog) (w := X.w) I3.kIn D1.at_ D1.lit
    refine PySem.call_meetsIn PySem.F.slot_dict_get hm1.typeIs PySem.F.entry_dict_get (PySem.F.args_dict_get_3 _ _ _) (meets_dict_get_default (strKind X.prog X.w) _ (PySem.strKind_is X.prog X.w z t) D1.low fv) ⟨_, hm1, ?_⟩
    cases q3 : kvs.lookup z with
    | some i =>
      rw [q3] at hz
      obtain ⟨t', hz⟩ := hz
      rw [PySem.W.find_K D1.at_ hz]
      rw [q3] at p1
      exact ⟨.int i, H3, I3.tok _, ⟨t', rfl⟩, p1.here r1 (.int _)⟩
    | none =>
      rw [q3] at hz
      rw [PySem.W.find_K D1.at_ hz]
      rw [q3] at p1
      exact ⟨.int dflt, H3, I3.tok _, rz, p1.here r1 (.int _)⟩
  | _ => exact p1.elim
end
end Fk
/-! FkL: operators in place; walks of any kind. -/
namespace Fk
open PySem PySem.Spec PyProof.Rows L2
section
variable {X : Cx} {T : List (Addr × Str)}
theorem ip_mul : PIp X .Mult (rI CMul fun i j => .int (i * j)) := by
  intro pins s σ H x y v u Q I r1 r2 h
  obtain ⟨i, j, e1, e2, hc, q⟩ := h
  subst e1; subst e2
  obtain ⟨t, rfl⟩ := r1
  obtain ⟨t', rfl⟩ := r2
  exact PyProof.Rows.imul_int ⟨.int _, H, I.tok _, ⟨_, rfl⟩, q⟩ hc.ok
theorem ip_fdiv : PIp X .FloorDiv (rI CDiv fun i j => .int (i / j)) := by
  intro pins s σ H x y v u Q I r1 r2 h
  obtain ⟨i, j, e1, e2, hc, q⟩ := h
  subst e1; subst e2
  obtain ⟨t, rfl⟩ := r1
  obtain ⟨t', rfl⟩ := r2
  have h1 : (0 : Int) < j := hc.1
  have h2 : j < 1073741824 := hc.2
  have e : i.fdiv j = i / j := Int.fdiv_eq_ediv_of_nonneg i (by omega)
  exact PyProof.Rows.ifloordiv_int (by omega) ⟨.int _, H, I.tok _, ⟨_, by rw [e]⟩, q⟩ (.inl (PyProof.noPylong_small (by omega)))
theorem sim_mulI {K : PySem.W.Frag} : SimR2 K T (rI CMul fun i j => .int (i * j)) oMulI := sim_I (fun i j h => by unfold cMul at h; have h2 := of_decide_eq_true h; exact h2) fun _ _ _ => .int _
theorem sim_divI {K : PySem.W.Frag} : SimR2 K T (rI CDiv fun i j => .int (i / j)) oDiv := sim_I (fun i j h => by have h2 := of_decide_eq_true h; exact h2) fun _ _ _ => .int _
abbrev oAddI : O2 := oI fun i j => .int (i + j)
theorem sim_addI {K : PySem.W.Frag} : SimR2 K T (ipI fun i j => i + j) oAddI := sim_I0 (g := fun i j => .int (i + j)) (g' := fun i j => .int (i + j)) fun _ _ _ => .int _
theorem sim_subI {K : PySem.W.Frag} : SimR2 K T (ipI fun i j => i - j) oSub := sim_I0 (g := fun i j => .int (i - j)) (g' := fun i j => .int (i - j)) fun _ _ _ => .int _
theorem sim_addF {K : PySem.W.Frag} : SimR2 K T rAdd oAddI := sim_I0 (g := fun i j => .int (i + j)) (g' := fun i j => .int (i + j)) fun _ _ _ => .int _
end
/-! ### a walk of what it is -/
/-- the cell stays the same meanwhile -/
noncomputable def gC (k : Nat) (xs : List D) : Store → Bool := fun st => @decide (st[k]? = some (.lst xs)) (Classical.propDecidable _)
theorem gC_iff {k : Nat} {xs : List D} {st : Store} : gC k xs st = true ↔ st[k]? = some (.lst xs) := by
  unfold gC
  exact @decide_eq_true_iff _ (Classical.propDecidable _)
/-- what is walked: its things, and what must stay -/
noncomputable def wkOf (d : D) (st : Store) : Option IT := match d with
  | .lst xs => some (xs, fun _ => true)
  | .lck xs => some (xs, fun _ => true)
  | .tup xs => some (xs, fun _ => true)
  | .str s => some (s.cps.toList.map fun c => .str ⟨#[c]⟩, fun _ => true)
  | .ref k => (match st[k]? with
    | some (.lst xs) => some (xs, gC k xs)
    | _ => none)
  | _ => none
noncomputable def iA (f : LE) : LI := fun env st => (f env st).bind fun d st1 => match wkOf d st1 with
  | some it => .ok it st1
  | none => .stuck
abbrev iAnyI (K : PySem.W.Frag) (tl : TE) : TI := fun σ H R => tl σ H fun x H1 => (∃ a, x = .ref a ∧ (∃ xs, SqL K H1 a xs) ∧ R (Itl K a) H1) ∨ (∃ a, x = .ref a ∧ (∃ xs, SqT K H1 a xs) ∧ R (Itt K a) H1) ∨ ∃ s, x = .str s ∧ R (Its s) H1
section
variable {X : Cx} {T : List (Addr × Str)} {E : XK} {K : PySem.W.Frag}
theorem pi_any {tg l : Expr} {tl : TE} (hl : PE X l tl) : PI X tg l (iAnyI X.K tl) := by
  constructor
  intro ps s0 sg H R I hh
  refine thn (hl.run ps s0 sg H _ I hh) fun v s1 ⟨x, H1, J, rx, q0⟩ => ?_
  rcases q0 with ⟨a, rfl, ⟨xs, hx⟩, q⟩ | ⟨a, rfl, ⟨xs, hx⟩, q⟩ | ⟨z, rfl, q⟩
  · cases rx
    obtain ⟨us, ru, pl, _⟩ := J.list hx
    exact wpAny_pyIter_list pl.isList (pi_one (tk := s1.toks) J _ (turn_list a _) ⟨_, Heap.get?_push_size _ rfl, rfl, rfl⟩ q)
  · cases rx
    obtain ⟨us, ru, pt, _⟩ := J.tuple hx
    exact wpAny_pyIter_tuple (show s1.heap.IsTuple a us.toArray from pt) (pi_one (tk := s1.toks) J _ (turn_tuple a _) ⟨_, Heap.get?_push_size _ rfl, rfl, rfl⟩ q)
  · obtain ⟨t, rfl⟩ := rx
    cases hz : z.cps.all (· < 128) with
    | false => exact wpAny_pyIter_wide hz (pi_one (tk := s1.toks) J _ (turn_str _ z t "str_iterator" (.inr rfl)) ⟨_, Heap.get?_push_size _ rfl, rfl, rfl⟩ q)
    | true => exact wpAny_pyIter_ascii hz (pi_one (tk := s1.toks) J _ (turn_str _ z t "str_ascii_iterator" (.inl rfl)) ⟨_, Heap.get?_push_size _ rfl, rfl, rfl⟩ q)
/-- a list's walk while g holds -/
theorem walk_lg {w0 : Wd} {a : Addr} {ds : List D} {g : Store → Bool} (h : ∀ w H st, Le w0 w → Rel K T w H st → g st = true → ∃ vs, SqL K H a vs ∧ Dats w vs ds) : Walk K T (Itl K a) ds g w0 where
  stop := fun w H st l r q => by
    obtain ⟨vs, h1, h2⟩ := h w H st l r q
    exact ⟨vs, h1, by rw [h2.length]; exact Nat.le_refl _⟩
  go := fun i d w H st l r q e => by
    obtain ⟨vs, h1, h2⟩ := h w H st l r q
    obtain ⟨v, h3, _⟩ := h2.get e
    exact ⟨vs, v, h1, h3⟩
  yld := fun i d w H st x H' l r q e y => by
    obtain ⟨rfl, y⟩ := y
    obtain ⟨vs, h1, h2⟩ := h w H' st l r q
    obtain ⟨v, h3, h4⟩ := h2.get e
    have z := y vs h1
    rw [h3] at z
    cases z
    exact ⟨w, Stp.refl w _, r, h4⟩
/-- a list, as it stands, under gC -/
theorem cell_sq {w0 w : Wd} {H : Hp} {st : Store} {k : Nat} {a : Addr} {xs : List D} (l : Le w0 w) (r : Rel K T w H st) (ha : w0.ads[k]? = some a) (g : gC k xs st = true) : ∃ vs, SqL K H a vs ∧ Dats w vs xs := by
  obtain ⟨p, e1, _, vs, h1, h2⟩ := r.addr (gC_iff.mp g)
  rw [l.ads _ _ ha] at e1
  cases e1
  exact ⟨vs, SqL.of h1, h2⟩
theorem sim_iA {f : LE} : Sim K T E (WalkR K T) (iAnyI K (tOf K T E Dat f)) (iA f) := fun w σ H env st Q he r p => by
  refine ⟨w, env, st, he, r, Post.bind (rel := Dat) p fun w1 x H1 d st1 s1 r1 dx p1 => ?_⟩
  cases dx with
  | @lst a vs ds hF hd => exact .inl ⟨a, rfl, ⟨vs, SqL.of (r1.fr _ _ hF)⟩, p1.here r1 (walk_lg fun w H st l r _ => ⟨vs, SqL.of (r.fr _ _ (l.fr _ _ hF)), hd.mono l⟩)⟩
  | @lck a vs ds hF hd => exact .inl ⟨a, rfl, ⟨vs, r1.sc hF⟩, p1.here r1 (walk_lg fun w H st l r _ => ⟨vs, r.sc (by rw [l.scr]; exact hF), hd.mono l⟩)⟩
  | @tup a vs ds hF hd =>
    refine .inr (.inl ⟨a, rfl, ⟨vs, SqT.of (r1.fr _ _ hF)⟩, p1.here r1 ⟨fun w H st l r _ => ⟨vs, SqT.of (r.fr _ _ (l.fr _ _ hF)), by rw [hd.length]; exact Nat.le_refl _⟩, fun i d w H st l r _ e => ?_, fun i d w H st x H' l r _ e y => ?_⟩⟩)
    · obtain ⟨v, h1, _⟩ := hd.get e
      exact ⟨vs, v, SqT.of (r.fr _ _ (l.fr _ _ hF)), h1⟩
    · obtain ⟨rfl, y⟩ := y
      obtain ⟨v, h1, h2⟩ := hd.get e
      have z := y vs (SqT.of (r.fr _ _ (l.fr _ _ hF)))
      rw [h1] at z
      cases z
      exact ⟨w, Stp.refl w _, r, h2.mono l⟩
  | str s =>
    refine .inr (.inr ⟨s, rfl, p1.here r1 ⟨fun w H st l r _ => ?_, fun i d w H st l r _ e => ?_, fun i d w H st x H' l r _ e y => ?_⟩⟩)
    · show s.cps.size ≤ _
      simp
    · have := (List.getElem?_eq_some_iff.mp e).1
      show i < s.cps.size
      simpa using this
    · obtain ⟨rfl, c, h1, rfl⟩ := y
      rw [List.getElem?_map, Array.getElem?_toList, h1] at e
      cases e
      exact ⟨w, Stp.refl w _, r, .str _⟩
  | @ref a k ha =>
    have p2 : Post K T E (WalkR K T) w1 H1 (match (match st1[k]? with | some (.lst xs) => some (xs, gC k xs) | _ => none) with | some it => .ok it st1 | none => .stuck) Q := p1
    cases q : st1[k]? with
    | none => rw [q] at p2; exact p2.elim
    | some c =>
      rw [q] at p2
      cases c with
      | lst xs =>
        obtain ⟨vs, h1, _⟩ := cell_sq (Le.refl w1) r1 ha (gC_iff.mpr q)
        exact .inl ⟨a, rfl, ⟨vs, h1⟩, p2.here r1 (walk_lg fun w H st l r g => cell_sq l r ha g)⟩
      | _ => exact p2.elim
  | _ => exact p1.elim
theorem i_any {tg l : Expr} {f : LE} (h : PEf X T E l f) : PIf X T E tg l (iA f) := pi_to (pi_any h) sim_iA
/-- a list only -/
noncomputable def wkL (d : D) (st : Store) : Option IT := match d with
  | .lst xs => some (xs, fun _ => true)
  | .lck xs => some (xs, fun _ => true)
  | .ref k => (match st[k]? with
    | some (.lst xs) => some (xs, gC k xs)
    | _ => none)
  | _ => none
theorem wkL_at {w : Wd} {H : Hp} {st : Store} {x : V} {d : D} {xs : List D} {g : Store → Bool} (r : Rel K T w H st) (dx : Dat w x d) (e : wkL d st = some (xs, g)) : ∃ a vs, x = .ref a ∧ SqL K H a vs ∧ vs.length = xs.length ∧ ∀ w' H' st', Le w w' → Rel K T w' H' st' → g st' = true → ∃ vs, SqL K H' a vs ∧ Dats w' vs xs := by
  cases dx with
  | @lst a vs ds hF hd =>
    cases e
    exact ⟨a, vs, rfl, SqL.of (r.fr _ _ hF), hd.length, fun w H st l r _ => ⟨vs, SqL.of (r.fr _ _ (l.fr _ _ hF)), hd.mono l⟩⟩
  | @lck a vs ds hF hd =>
    cases e
    exact ⟨a, vs, rfl, r.sc hF, hd.length, fun w H st l r _ => ⟨vs, r.sc (by rw [l.scr]; exact hF), hd.mono l⟩⟩
  | @ref a k ha =>
    have e' : (match st[k]? with | some (.lst xs) => some (xs, gC k xs) | _ => none) = some (xs, g) := e
    cases q : st[k]? with
    | none => rw [q] at e'; cases e'
    | some c =>
      rw [q] at e'
      cases c with
      | lst ys =>
        cases e'
        obtain ⟨vs, h1, h2⟩ := cell_sq (Le.refl w) r ha (gC_iff.mpr q)
        exact ⟨a, vs, rfl, h1, h2.length, fun w H st l r g => cell_sq l r ha g⟩
      | _ => cases e'
  | _ => cases e
/-- enumerate(xs), reversed(xs) -/
noncomputable def iEn (g : LA) : LI := fun env st => (g env st).bind fun ds st1 => match ds with
  | [d] => (match wkL d st1 with
    | some (xs, g) => .ok (numD 0 xs, g) st1
    | none => .stuck)
  | _ => .stuck
theorem i_en {e : Expr} {g : LA} {p tpos pos : Pos} {elts : List Expr} {kk : Nat} (hm : X.mg "enumerate" = none) (ha : PAf X T E [e] g) (hg : Gl X "enumerate" := by rfl) (hs : starEach [e] X.env = [(false, eval e X.env)] := by rfl) :
    PIf X T E (.Tuple elts kk tpos) (.Call (.Name "enumerate" p) [e] [] pos) (iEn g) := pi_to (pi_enum hg hm ha hs) fun w σ H env st Q he r p => by
  refine ⟨w, env, st, he, r, Post.bind (rel := Dats) p fun w1 x H1 ds st1 s1 r1 dx p1 => ?_⟩
  cases dx with
  | nil => exact p1.elim
  | cons d1 dr =>
    cases dr with
    | cons _ _ => exact p1.elim
    | nil =>
      rename_i v d
      have p2 : Post X.K T E (WalkR X.K T) w1 H1 (match wkL d st1 with | some (xs, g) => .ok (numD 0 xs, g) st1 | none => .stuck) Q := p1
      cases q : wkL d st1 with
      | none => rw [q] at p2; exact p2.elim
      | some it =>
        obtain ⟨xs, gg⟩ := it
        rw [q] at p2
        obtain ⟨a, vs, rfl, h1, hlen, h2⟩ := wkL_at r1 d1 q
        refine ⟨a, vs, rfl, h1, p2.here r1 ⟨fun w H st l r g => ?_, fun i d w H st l r g e => ?_, fun i d w H st x H' l r g e y => ?_⟩⟩
        · obtain ⟨us, h3, h4⟩ := h2 w H st l r g
          exact ⟨us, h3, by rw [h4.length]; simp [numD_length]⟩
        · obtain ⟨d', h5, _⟩ := numD_get e
          obtain ⟨us, h3, h4⟩ := h2 w H st l r g
          obtain ⟨v, h6, _⟩ := h4.get h5
          exact ⟨us, v, h3, h6⟩
        · obtain ⟨d', h5, rfl⟩ := numD_get e
          obtain ⟨us, h3, h4⟩ := h2 w H st l r g
          obtain ⟨v, h6, h7⟩ := h4.get h5
          obtain ⟨t, x', rfl, ht, rfl, hx⟩ := y
          have z := hx us h3
          rw [h6] at z
          cases z
          obtain ⟨s2, r2⟩ := r.laid ht (.tup [.int (i : Nat), v])
          refine ⟨_, s2, r2, .tup upd_same (.cons ?_ (.cons (h7.mono s2.le) .nil))⟩
          rw [Nat.zero_add]
          exact .int _
noncomputable def iRe (g : LA) : LI := fun env st => (g env st).bind fun ds st1 => match ds with
  | [d] => (match wkL d st1 with
    | some (xs, g) => .ok (xs.reverse, g) st1
    | none => .stuck)
  | _ => .stuck
theorem i_re {tg e : Expr} {g : LA} {p pos : Pos} (hm : X.mg "reversed" = none) (ha : PAf X T E [e] g) (hg : Gl X "reversed" := by rfl) (hs : starEach [e] X.env = [(false, eval e X.env)] := by rfl) :
    PIf X T E tg (.Call (.Name "reversed" p) [e] [] pos) (iRe g) := pi_to (pi_reversed hg hm ha hs) fun w σ H env st Q he r p => by
  refine ⟨w, env, st, he, r, Post.bind (rel := Dats) p fun w1 x H1 ds st1 s1 r1 dx p1 => ?_⟩
  cases dx with
  | nil => exact p1.elim
  | cons d1 dr =>
    cases dr with
    | cons _ _ => exact p1.elim
    | nil =>
      rename_i v d
      have p2 : Post X.K T E (WalkR X.K T) w1 H1 (match wkL d st1 with | some (xs, g) => .ok (xs.reverse, g) st1 | none => .stuck) Q := p1
      cases q : wkL d st1 with
      | none => rw [q] at p2; exact p2.elim
      | some it =>
        obtain ⟨xs, gg⟩ := it
        rw [q] at p2
        obtain ⟨a, vs, rfl, h1, hlen, h2⟩ := wkL_at r1 d1 q
        have key : ∀ (us : List V) (w' : Wd) (i : Nat) (d : D), Dats w' us xs → xs.reverse[i]? = some d → i < us.length ∧ ∃ v, us[us.length - 1 - i]? = some v ∧ Dat w' v d := fun us w' i d hd e => by
          obtain ⟨v, h1, h2⟩ := hd.reverse.get e
          have hi := (List.getElem?_eq_some_iff.mp h1).1
          rw [List.length_reverse] at hi
          rw [List.getElem?_reverse hi] at h1
          exact ⟨hi, v, h1, h2⟩
        refine ⟨a, vs, rfl, h1, p2.here r1 ⟨fun w H st l r g => ?_, fun i d w H st l r g e => ?_, fun i d w H st x H' l r g e y => ?_⟩⟩
        · show vs.length ≤ xs.reverse.length
          rw [hlen]
          simp
        · obtain ⟨us, h3, h4⟩ := h2 w H st l r g
          obtain ⟨hi, v, h5, _⟩ := key us w i d h4 e
          have el : us.length = vs.length := by rw [h4.length, hlen]
          exact ⟨by rw [← el]; exact hi, us, v, h3, by rw [← el]; exact h5⟩
        · obtain ⟨rfl, y⟩ := y
          obtain ⟨us, h3, h4⟩ := h2 w H' st l r g
          obtain ⟨hi, v, h5, h6⟩ := key us w i d h4 e
          have el : us.length = vs.length := by rw [h4.length, hlen]
          have z := y us h3
          rw [← el, h5] at z
          cases z
          exact ⟨w, Stp.refl w _, r, h6⟩
end
end Fk
/-! FkM: facts of the head with tables; the law's start and end. -/
namespace Fk
open PySem PySem.Spec PyProof.Rows L2
/-! ### facts: names, defs, tables of ints -/
abbrev TbD : Type := Str × List (Str × Int)
def rowI (K : PySem.W.Frag) (a : Addr) : List (Option Int) := match K.lookup a with
  | some ⟨_, _, .dict es _, _⟩ => es.toList.map valI
  | _ => []
def tabOf (t : TbD) : He.Tab := (fun K => He.ga K t.1, t.2.map (·.1))
abbrev AlF : Type := He.AlT × List (List (Option Int))
def obsF (fa : List He.Fa) (fn : List He.DefD) (tb : List TbD) (K : PySem.W.Frag) : AlF := (He.obsT fa fn (tb.map tabOf) K, tb.map fun t => rowI K (He.ga K t.1))
def valF (fn : List He.DefD) (tb : List TbD) (w : World) : AlF := (He.valT fn (tb.map tabOf) w, tb.map fun t => t.2.map fun q => some q.2)
def obsFG (n : Nat) (fa : List He.Fa) (fn : List He.DefD) (tb : List TbD) (g : Addr → Option Obj) : AlF := obsF fa fn tb (He.frG g (He.asD g n))
def SaysF (fa : List He.Fa) (fn : List He.DefD) (tb : List TbD) (w : World) (K : PySem.W.Frag) : Prop := obsF fa fn tb K = valF fn tb w
def hookF (n : Nat) (fa : List He.Fa) (fn : List He.DefD) (tb : List TbD) : PySem.W.Hook where
  α := AlF
  obs := fun s => obsFG n fa fn tb s.heap.get?
  val := fun w => valF fn tb w
  says := fun w h => ∃ K : PySem.W.Frag, K.In h ∧ SaysF fa fn tb w K
  of := fun _ _ e => ⟨_, He.frG_in, e⟩
  keeps := fun _ _ _ ⟨K, hK, c⟩ k => ⟨K, PySem.W.Frag.In.keeps hK k, c⟩
theorem obsFG_eq {n : Nat} {fa : List He.Fa} {fn : List He.DefD} {tb : List TbD} {g : Addr → Option Obj} {s : Shared} (h : ∀ a, g a = s.heap.get? a) : obsFG n fa fn tb g = (hookF n fa fn tb).obs s := by
  have e : g = s.heap.get? := funext h
  rw [e] <;> rfl
section
variable {fa : List He.Fa} {fn : List He.DefD} {tb : List TbD} {w : World} {K : PySem.W.Frag}
theorem SaysF.t (c : SaysF fa fn tb w K) : He.SaysT fa fn (tb.map tabOf) w K := congrArg (fun z : AlF => z.1) c
theorem SaysF.d (c : SaysF fa fn tb w K) : He.SaysD fa fn K := c.t.d
theorem SaysF.tab (c : SaysF fa fn tb w K) (i : Nat) {t : TbD} (h : tb[i]? = some t := by rfl) : TabI K w (He.ga K t.1) t.2 := by
  have e1 : (tb.map tabOf).map (fun t => He.dicW K (t.1 K)) = (tb.map tabOf).map fun t => some (He.keysIn w.params t.2) := congrArg (fun z : He.AlT => z.2) c.t
  have e2 : (tb.map fun t => rowI K (He.ga K t.1)) = tb.map fun t => t.2.map fun q => some q.2 := congrArg (fun z : AlF => z.2) c
  have e3 : ((tb.map tabOf).map (fun t => He.dicW K (t.1 K)))[i]? = ((tb.map tabOf).map fun t => some (He.keysIn w.params t.2))[i]? := by rw [e1]
  have e4 : (tb.map fun t => rowI K (He.ga K t.1))[i]? = (tb.map fun t => t.2.map fun q => some q.2)[i]? := by rw [e2]
  rw [List.getElem?_map, List.getElem?_map, List.getElem?_map, List.getElem?_map, h] at e3
  rw [List.getElem?_map, List.getElem?_map, h] at e4
  have e5 : He.dicW K (He.ga K t.1) = some (He.keysIn w.params (t.2.map (·.1))) := Option.some.inj e3
  have e6 : rowI K (He.ga K t.1) = t.2.map fun q => some q.2 := Option.some.inj e4
  obtain ⟨es, n, D⟩ := He.dicW_ok e5
  refine ⟨es, n, D, ?_, ?_⟩
  · unfold He.dicW at e5
    rw [D.at_] at e5
    dsimp only at e5
    split at e5
    · exact Option.some.inj e5
    · cases e5
  · unfold rowI at e6
    rw [D.at_] at e6
    exact e6
end
/-- what a row's top says -/
def Fx (fa : List He.Fa) (fn : List He.DefD) (tb : List TbD) (w : World) (K : PySem.W.Frag) (mg : Str → Option Value) : Prop := ∃ h : Heap, K.In h ∧ h.Ns mainGlobals mg ∧ SaysF fa fn tb w K
section
variable {fa : List He.Fa} {fn : List He.DefD} {tb : List TbD} {w : World} {K : PySem.W.Frag} {mg : Str → Option Value}
theorem Fx.glo (z : Fx fa fn tb w K mg) {x : Str} (i : Nat) (h : fa[i]? = some (.glo x) := by rfl) : mg x = some (.ref (He.ga K x)) := by
  obtain ⟨_, X, G, c⟩ := z
  exact He.glo_ok X G (c.d.fact i h)
theorem Fx.free (z : Fx fa fn tb w K mg) {x : Str} (i : Nat) (h : fa[i]? = some (.free x) := by rfl) : mg x = none := by
  obtain ⟨_, X, G, c⟩ := z
  exact He.free_ok X G (c.d.fact i h)
theorem Fx.int (z : Fx fa fn tb w K mg) {x : Str} {n : Int} (i : Nat) (h : fa[i]? = some (.int x n) := by rfl) : ∃ t, mg x = some (.int n t) := by
  obtain ⟨_, X, G, c⟩ := z
  exact He.int_ok X G (c.d.fact i h)
theorem Fx.str (z : Fx fa fn tb w K mg) {x y : Str} (i : Nat) (h : fa[i]? = some (.str x y) := by rfl) : ∃ t, mg x = some (.str y t) := by
  obtain ⟨_, X, G, c⟩ := z
  exact He.str_ok X G (c.d.fact i h)
theorem Fx.cls (z : Fx fa fn tb w K mg) {x : Str} (i : Nat) (h : fa[i]? = some (.cls x) := by rfl) : Cls K (He.ga K x) := by
  obtain ⟨_, X, G, c⟩ := z
  exact He.cls_ok (c.d.fact i h)
theorem Fx.noat (z : Fx fa fn tb w K mg) {x f : Str} (i : Nat) (h : fa[i]? = some (.noat x f) := by rfl) : NoAttr K (He.ga K x) f := by
  obtain ⟨_, X, G, c⟩ := z
  exact He.noat_ok (c.d.fact i h)
theorem Fx.meth (z : Fx fa fn tb w K mg) {x m : Str} (i : Nat) (h : fa[i]? = some (.meth x m) := by rfl) : Meth K (He.ga K x) m (He.ma K (He.ga K x) m) := by
  obtain ⟨_, X, G, c⟩ := z
  exact He.meth_ok (c.d.fact i h)
theorem Fx.mkr (z : Fx fa fn tb w K mg) {x : Str} (i : Nat) (h : fa[i]? = some (.mkr x) := by rfl) : Mk K (He.ga K x) (He.ma K (He.ga K x) "__init__") := by
  obtain ⟨_, X, G, c⟩ := z
  exact He.mkr_ok (c.d.fact i h)
theorem Fx.def_ (z : Fx fa fn tb w K mg) (i : Nat) {d : He.DefD} (h : fn[i]? = some d := by rfl) : ∃ fd, FunD K d.name d.qual d.params d.body d.scope (d.dvs K) (d.kws K) (He.fAd K d.at_) fd := by
  obtain ⟨_, X, G, c⟩ := z
  exact c.d.def_ i h
theorem Fx.tab (z : Fx fa fn tb w K mg) (i : Nat) {t : TbD} (h : tb[i]? = some t := by rfl) : TabI K w (He.ga K t.1) t.2 := by
  obtain ⟨_, X, G, c⟩ := z
  exact c.tab i h
end
/-! ### the law's start -/
/-- the world at the start -/
def wd0 (H : Hp) (a : Addr) (ns : List Int) : Wd := ⟨fun p => if p = a then H p else none, [], fun p => if p = a then some (ns.map V.int) else none⟩
theorem start_rel {K : PySem.W.Frag} {H : Hp} {a : Addr} {ns : List Int} (hS : SqL K H a (ns.map V.int)) (T : List (Addr × Str)) (hT : LamX.Tabs T H) : Rel K T (wd0 H a ns) H [] ∧ Dat (wd0 H a ns) (.ref a) (.lck (ns.map D.int)) := by
  refine ⟨⟨fun p o h => ?_, rfl, List.nodup_nil, fun k c p h _ => (by cases h), hT, fun p vs h => ?_⟩, .lck (by simp [wd0]) (Dats.of_ints ns)⟩
  · have h' : (if p = a then H p else none) = some o := h
    by_cases c : p = a
    · rw [if_pos c] at h'
      exact h'
    · rw [if_neg c] at h'
      cases h'
  · have h' : (if p = a then some (ns.map V.int) else none) = some vs := h
    by_cases c : p = a
    · rw [if_pos c] at h'
      cases h'
      subst c
      rcases hS with (hS | ⟨o, hS⟩) | hS
      · exact .inl ⟨_, by simp [wd0, hS], fun H' h => SqL.of h⟩
      · exact .inl ⟨_, by simp [wd0, hS], fun H' h => .inl (.inr ⟨o, h⟩)⟩
      · exact .inr fun H => .inr hS
    · rw [if_neg c] at h'
      cases h'
theorem law_sp {K : PySem.W.Frag} {H : Hp} {a : Addr} {ns : List Int} {f : FM} {st : Store} {T : List (Addr × Str)} (hT : LamX.Tabs T H) (hS : SqL K H a (ns.map V.int)) (h : f [.lck (ns.map D.int)] [] = .ok (.bl true) st) (E : XK) : spOf K T 1 f [.ref a] H (fun v _ => v = .bl true) E := by
  obtain ⟨r, d⟩ := start_rel hS T hT
  refine ⟨rfl, _, _, _, .one d, r, ?_⟩
  rw [h]
  intro w' v H' s' r' dv
  cases dv
  rfl
theorem cx_none {P : Program} : ∀ (w : World) (H : Hp) (s : Shared) (e : Value) (s' : Shared), L2.CX P w [] H s (fun _ _ _ => False) e s' → False := fun _ _ _ _ _ h => by
  obtain ⟨_, _, _, _, _, _, _, _, _, _, _, _, z⟩ := h
  exact z
end Fk
/-! FkN: the plain functions, evaluated. -/
namespace Fk
open PySem PySem.Spec PyProof.Rows L2
/-! ### results -/
@[simp] theorem Res.bind_at {α β : Type} (a : α) (st : Store) (f : α → Store → Res β) : (Res.ok a st).bind f = f a st := (rfl)
@[simp] theorem Res.bind_ex {α β : Type} (x : Exn) (st : Store) (f : α → Store → Res β) : (Res.ex x st).bind f = .ex x st := (rfl)
@[simp] theorem Res.bind_stuck {α β : Type} (f : α → Store → Res β) : (Res.stuck).bind f = .stuck := (rfl)
@[simp] theorem Res.go_at {α : Type} (a : α) (st : Store) (env : DEnv) (f : α → Store → RS) : (Res.ok a st).go env f = f a st := (rfl)
@[simp] theorem Res.go_ex {α : Type} (x : Exn) (st : Store) (env : DEnv) (f : α → Store → RS) : (Res.ex x st : Res α).go env f = .ex x env st := (rfl)
/-! ### names -/
def atV (o : Option (Option D)) (st : Store) : Res D := match o with
  | some (some d) => .ok d st
  | _ => .stuck
@[simp] theorem fVar_eq (i : Nat) (env : DEnv) (st : Store) : fVar i env st = atV env[i]? st := (rfl)
@[simp] theorem atV_some (d : D) (st : Store) : atV (some (some d)) st = .ok d st := (rfl)
@[simp] theorem fC_eq (d : D) (env : DEnv) (st : Store) : fC d env st = .ok d st := (rfl)
/-! ### operators -/
def kOp1 (o : O2) (fb : LE) (env : DEnv) : D → Store → Res D := fun d st1 => (fb env st1).bind (o d)
@[simp] theorem kOp1_eq (o : O2) (fb : LE) (env : DEnv) (d : D) (st1 : Store) : kOp1 o fb env d st1 = (fb env st1).bind (o d) := (rfl)
@[simp] theorem fOp_eq (o : O2) (fa fb : LE) (env : DEnv) (st : Store) : fOp o fa fb env st = (fa env st).bind (kOp1 o fb env) := (rfl)
@[simp] theorem fUn_eq (o : O1) (fa : LE) (env : DEnv) (st : Store) : fUn o fa env st = (fa env st).bind o := (rfl)
def kTest : D → Store → Res Bool := fun d st1 => match d with
  | .bl b => .ok b st1
  | _ => .stuck
@[simp] theorem kTest_bl (b : Bool) (st : Store) : kTest (.bl b) st = .ok b st := (rfl)
@[simp] theorem fTest_eq (f : LE) (env : DEnv) (st : Store) : fTest f env st = (f env st).bind kTest := (rfl)
def kAnd (tb : LT) (env : DEnv) : Bool → Store → Res Bool := fun c st1 => if c = true then tb env st1 else .ok false st1
def kOr (tb : LT) (env : DEnv) : Bool → Store → Res Bool := fun c st1 => if c = true then .ok true st1 else tb env st1
def kNot : Bool → Store → Res Bool := fun c st1 => .ok (!c) st1
@[simp] theorem fAnd_eq (ta tb : LT) (env : DEnv) (st : Store) : fAnd ta tb env st = (ta env st).bind (kAnd tb env) := (rfl)
@[simp] theorem fOr_eq (ta tb : LT) (env : DEnv) (st : Store) : fOr ta tb env st = (ta env st).bind (kOr tb env) := (rfl)
@[simp] theorem fNot_eq (ta : LT) (env : DEnv) (st : Store) : fNot ta env st = (ta env st).bind kNot := (rfl)
@[simp] theorem kAnd_t (tb : LT) (env : DEnv) (st : Store) : kAnd tb env true st = tb env st := (rfl)
@[simp] theorem kAnd_f (tb : LT) (env : DEnv) (st : Store) : kAnd tb env false st = .ok false st := (rfl)
@[simp] theorem kOr_t (tb : LT) (env : DEnv) (st : Store) : kOr tb env true st = .ok true st := (rfl)
@[simp] theorem kOr_f (tb : LT) (env : DEnv) (st : Store) : kOr tb env false st = tb env st := (rfl)
@[simp] theorem kNot_eq (c : Bool) (st : Store) : kNot c st = .ok (!c) st := (rfl)
def kAndV (fb : LE) (env : DEnv) : D → Store → Res D := fun d st1 => match d with
  | .bl true => fb env st1
  | .bl false => .ok (.bl false) st1
  | _ => .stuck
def kOrV (fb : LE) (env : DEnv) : D → Store → Res D := fun d st1 => match d with
  | .bl true => .ok (.bl true) st1
  | .bl false => fb env st1
  | _ => .stuck
def kNotV : D → Store → Res D := fun d st1 => match d with
  | .bl b => .ok (.bl (!b)) st1
  | _ => .stuck
@[simp] theorem fAndV_eq (fa fb : LE) (env : DEnv) (st : Store) : fAndV fa fb env st = (fa env st).bind (kAndV fb env) := (rfl)
@[simp] theorem fOrV_eq (fa fb : LE) (env : DEnv) (st : Store) : fOrV fa fb env st = (fa env st).bind (kOrV fb env) := (rfl)
@[simp] theorem fNotV_eq (fa : LE) (env : DEnv) (st : Store) : fNotV fa env st = (fa env st).bind kNotV := (rfl)
@[simp] theorem kAndV_t (fb : LE) (env : DEnv) (st : Store) : kAndV fb env (.bl true) st = fb env st := (rfl)
@[simp] theorem kAndV_f (fb : LE) (env : DEnv) (st : Store) : kAndV fb env (.bl false) st = .ok (.bl false) st := (rfl)
@[simp] theorem kOrV_t (fb : LE) (env : DEnv) (st : Store) : kOrV fb env (.bl true) st = .ok (.bl true) st := (rfl)
@[simp] theorem kOrV_f (fb : LE) (env : DEnv) (st : Store) : kOrV fb env (.bl false) st = fb env st := (rfl)
@[simp] theorem kNotV_bl (b : Bool) (st : Store) : kNotV (.bl b) st = .ok (.bl (!b)) st := (rfl)
/-- a truth that is not yet known, ahead of what is and what is not -/
theorem kAndV_if (fb : LE) (env : DEnv) (b : Bool) (st : Store) : kAndV fb env (.bl b) st = if b = true then fb env st else .ok (.bl false) st := by cases b <;> rfl
theorem kOrV_if (fb : LE) (env : DEnv) (b : Bool) (st : Store) : kOrV fb env (.bl b) st = if b = true then .ok (.bl true) st else fb env st := by cases b <;> rfl
theorem kAnd_if (tb : LT) (env : DEnv) (b : Bool) (st : Store) : kAnd tb env b st = if b = true then tb env st else .ok false st := rfl
theorem kOr_if (tb : LT) (env : DEnv) (b : Bool) (st : Store) : kOr tb env b st = if b = true then .ok true st else tb env st := rfl
def kIf (fa fb : LE) (env : DEnv) : Bool → Store → Res D := fun c st1 => if c = true then fa env st1 else fb env st1
@[simp] theorem fIf_eq (t : LT) (fa fb : LE) (env : DEnv) (st : Store) : fIf t fa fb env st = (t env st).bind (kIf fa fb env) := (rfl)
@[simp] theorem kIf_t (fa fb : LE) (env : DEnv) (st : Store) : kIf fa fb env true st = fa env st := (rfl)
@[simp] theorem kIf_f (fa fb : LE) (env : DEnv) (st : Store) : kIf fa fb env false st = fb env st := (rfl)
theorem kIf_if (fa fb : LE) (env : DEnv) (b : Bool) (st : Store) : kIf fa fb env b st = if b = true then fa env st else fb env st := rfl
def kCh1 (o o' : O2) (fb fc : LE) (env : DEnv) : D → Store → Res D := fun d st1 => (fb env st1).bind fun e st2 => (o d e st2).bind fun z st3 => match z with
  | .bl true => (fc env st3).bind fun f st4 => o' e f st4
  | .bl false => .ok (.bl false) st3
  | _ => .stuck
def kCh2 (o o' : O2) (fc : LE) (env : DEnv) (d : D) : D → Store → Res D := fun e st2 => (o d e st2).bind fun z st3 => match z with
  | .bl true => (fc env st3).bind fun f st4 => o' e f st4
  | .bl false => .ok (.bl false) st3
  | _ => .stuck
def kCh3 (o' : O2) (fc : LE) (env : DEnv) (e : D) : D → Store → Res D := fun z st3 => match z with
  | .bl true => (fc env st3).bind fun f st4 => o' e f st4
  | .bl false => .ok (.bl false) st3
  | _ => .stuck
@[simp] theorem fChain_eq (o o' : O2) (fa fb fc : LE) (env : DEnv) (st : Store) : fChain o o' fa fb fc env st = (fa env st).bind (kCh1 o o' fb fc env) := (rfl)
@[simp] theorem kCh1_eq (o o' : O2) (fb fc : LE) (env : DEnv) (d : D) (st : Store) : kCh1 o o' fb fc env d st = (fb env st).bind (kCh2 o o' fc env d) := (rfl)
@[simp] theorem kCh2_eq (o o' : O2) (fc : LE) (env : DEnv) (d e : D) (st : Store) : kCh2 o o' fc env d e st = (o d e st).bind (kCh3 o' fc env e) := (rfl)
@[simp] theorem kCh3_t (o' : O2) (fc : LE) (env : DEnv) (e : D) (st : Store) : kCh3 o' fc env e (.bl true) st = (fc env st).bind (o' e) := (rfl)
@[simp] theorem kCh3_f (o' : O2) (fc : LE) (env : DEnv) (e : D) (st : Store) : kCh3 o' fc env e (.bl false) st = .ok (.bl false) st := (rfl)
theorem kCh3_if (o' : O2) (fc : LE) (env : DEnv) (e : D) (b : Bool) (st : Store) : kCh3 o' fc env e (.bl b) st = if b = true then (fc env st).bind (o' e) else .ok (.bl false) st := by cases b <;> rfl
/-! ### ints -/
@[simp] theorem oI_int (g : Int → Int → D) (i j : Int) (st : Store) : oI g (.int i) (.int j) st = .ok (g i j) st := (rfl)
@[simp] theorem oIc_int (c : Int → Int → Bool) (g : Int → Int → D) (i j : Int) (st : Store) : oIc c g (.int i) (.int j) st = if c i j = true then .ok (g i j) st else .stuck := (rfl)
@[simp] theorem oNeg_int (i : Int) (st : Store) : oNeg (.int i) st = .ok (.int (-i)) st := (rfl)
@[simp] theorem oAdd_int (i j : Int) (st : Store) : oAdd (.int i) (.int j) st = .ok (.int (i + j)) st := (rfl)
@[simp] theorem oAdd_str (a b : Str) (st : Store) : oAdd (.str a) (.str b) st = if a.length + b.length ≤ lim then .ok (.str (a ++ b)) st else .stuck := (rfl)
@[simp] theorem oAdd_tup (a b : List D) (st : Store) : oAdd (.tup a) (.tup b) st = if a.length + b.length ≤ lim then .ok (.tup (a ++ b)) st else .stuck := (rfl)
@[simp] theorem oAdd_lst (a b : List D) (st : Store) : oAdd (.lst a) (.lst b) st = if a.length + b.length ≤ lim then .ok (.lst (a ++ b)) st else .stuck := (rfl)
@[simp] theorem oMul_int (i j : Int) (st : Store) : oMul (.int i) (.int j) st = if cMul i j = true then .ok (.int (i * j)) st else .stuck := (rfl)
theorem cMul_r {i j : Int} (h : -(2 ^ 64) < j ∧ j < 2 ^ 64) : cMul i j = true := decide_eq_true (.inr h)
theorem cMul_l {i j : Int} (h : -(2 ^ 64) < i ∧ i < 2 ^ 64) : cMul i j = true := decide_eq_true (.inl h)
/-! ### None, ==, in -/
@[simp] theorem oIsN_non (st : Store) : oIsN .non st = .ok (.bl true) st := (rfl)
@[simp] theorem oNotN_non (st : Store) : oNotN .non st = .ok (.bl false) st := (rfl)
@[simp] theorem oIsN_bl (b : Bool) (st : Store) : oIsN (.bl b) st = .ok (.bl false) st := (rfl)
@[simp] theorem oIsN_int (b : Int) (st : Store) : oIsN (.int b) st = .ok (.bl false) st := (rfl)
@[simp] theorem oIsN_str (b : Str) (st : Store) : oIsN (.str b) st = .ok (.bl false) st := (rfl)
@[simp] theorem oIsN_tup (b : List D) (st : Store) : oIsN (.tup b) st = .ok (.bl false) st := (rfl)
@[simp] theorem oIsN_lst (b : List D) (st : Store) : oIsN (.lst b) st = .ok (.bl false) st := (rfl)
@[simp] theorem oIsN_ref (b : Nat) (st : Store) : oIsN (.ref b) st = .ok (.bl false) st := (rfl)
@[simp] theorem oNotN_bl (b : Bool) (st : Store) : oNotN (.bl b) st = .ok (.bl true) st := (rfl)
@[simp] theorem oNotN_int (b : Int) (st : Store) : oNotN (.int b) st = .ok (.bl true) st := (rfl)
@[simp] theorem oNotN_str (b : Str) (st : Store) : oNotN (.str b) st = .ok (.bl true) st := (rfl)
@[simp] theorem oNotN_tup (b : List D) (st : Store) : oNotN (.tup b) st = .ok (.bl true) st := (rfl)
@[simp] theorem oNotN_lst (b : List D) (st : Store) : oNotN (.lst b) st = .ok (.bl true) st := (rfl)
@[simp] theorem oNotN_ref (b : Nat) (st : Store) : oNotN (.ref b) st = .ok (.bl true) st := (rfl)
/-! ### items -/
def pickD (o : Option D) (st : Store) : Res D := match o with
  | some z => .ok z st
  | none => .stuck
@[simp] theorem pickD_some (d : D) (st : Store) : pickD (some d) st = .ok d st := (rfl)
@[simp] theorem oIx_tup (ds : List D) (i : Int) (st : Store) : oIx (.tup ds) (.int i) st = pickD (atI ds i) st := (rfl)
@[simp] theorem oIx_lst (ds : List D) (i : Int) (st : Store) : oIx (.lst ds) (.int i) st = pickD (atI ds i) st := (rfl)
@[simp] theorem oIx_lck (ds : List D) (i : Int) (st : Store) : oIx (.lck ds) (.int i) st = pickD (atI ds i) st := (rfl)
theorem oIx_ref {k : Nat} {ds : List D} {st : Store} (h : st[k]? = some (.lst ds)) (i : Int) : oIx (.ref k) (.int i) st = pickD (atI ds i) st := by
  show (match rdOf (.ref k) st with
      | some ds => (match atI ds i with
        | some z => Res.ok z st
        | none => .stuck)
      | none => .stuck) = _
  have e : rdOf (.ref k) st = some ds := by
    show (match st[k]? with | some (.lst xs) => some xs | _ => none) = some ds
    rw [h]
  rw [e]
  rfl
@[simp] theorem atI_0 {α : Type} (a : α) (l : List α) : atI (a :: l) 0 = some a := by simp [L2.atI, ixN]
theorem atI_nat {α : Type} {l : List α} {n : Nat} (h : n < l.length) : atI l (n : Int) = l[n]? := by
  have h2 : ¬ ((n : Int) < 0) := by omega
  simp [L2.atI, ixN, h2, h]
@[simp] theorem atI_1 {α : Type} (a b : α) (l : List α) : atI (a :: b :: l) 1 = some b := by
  have := atI_nat (l := a :: b :: l) (n := 1) (by simp)
  simpa using this
@[simp] theorem atI_2 {α : Type} (a b c : α) (l : List α) : atI (a :: b :: c :: l) 2 = some c := by
  have := atI_nat (l := a :: b :: c :: l) (n := 2) (by simp)
  simpa using this
@[simp] theorem atI_3 {α : Type} (a b c d : α) (l : List α) : atI (a :: b :: c :: d :: l) 3 = some d := by
  have := atI_nat (l := a :: b :: c :: d :: l) (n := 3) (by simp)
  simpa using this
theorem atI_of {α : Type} {l : List α} {i : Int} {n : Nat} (hi : i = (n : Int)) (h : n < l.length) : atI l i = l[n]? := by rw [hi]; exact atI_nat h
end Fk
/-! FkO: arguments, calls, statements, loops, evaluated. -/
namespace Fk
open PySem PySem.Spec PyProof.Rows L2
/-! ### arguments, displays -/
def kCons1 (g : LA) (env : DEnv) : D → Store → Res (List D) := fun d st1 => (g env st1).bind fun ds st2 => .ok (d :: ds) st2
def kCons2 (d : D) : List D → Store → Res (List D) := fun ds st2 => .ok (d :: ds) st2
@[simp] theorem fNil_eq (env : DEnv) (st : Store) : fNil env st = .ok [] st := (rfl)
@[simp] theorem fCons_eq (f : LE) (g : LA) (env : DEnv) (st : Store) : fCons f g env st = (f env st).bind (kCons1 g env) := (rfl)
@[simp] theorem kCons1_eq (g : LA) (env : DEnv) (d : D) (st : Store) : kCons1 g env d st = (g env st).bind (kCons2 d) := (rfl)
@[simp] theorem kCons2_eq (d : D) (ds : List D) (st : Store) : kCons2 d ds st = .ok (d :: ds) st := (rfl)
def kTup : List D → Store → Res D := fun ds st1 => if ds.length ≤ lim then .ok (.tup ds) st1 else .stuck
def kLst : List D → Store → Res D := fun ds st1 => if ds.length ≤ lim then .ok (.lst ds) st1 else .stuck
def kLstC : List D → Store → Res D := fun ds st1 => if ds.length ≤ lim then .ok (.ref st1.length) (st1 ++ [.lst ds]) else .stuck
@[simp] theorem fTup_eq (g : LA) (env : DEnv) (st : Store) : fTup g env st = (g env st).bind kTup := (rfl)
@[simp] theorem fLst_eq (g : LA) (env : DEnv) (st : Store) : fLst g env st = (g env st).bind kLst := (rfl)
@[simp] theorem fLstC_eq (g : LA) (env : DEnv) (st : Store) : fLstC g env st = (g env st).bind kLstC := (rfl)
theorem kTup_of {ds : List D} (h : ds.length ≤ lim) (st : Store) : kTup ds st = .ok (.tup ds) st := if_pos h
theorem kLst_of {ds : List D} (h : ds.length ≤ lim) (st : Store) : kLst ds st = .ok (.lst ds) st := if_pos h
theorem kLstC_of {ds : List D} (h : ds.length ≤ lim) (st : Store) : kLstC ds st = .ok (.ref st.length) (st ++ [.lst ds]) := if_pos h
@[simp] theorem kTup_0 (st : Store) : kTup [] st = .ok (.tup []) st := kTup_of (by simp [lim]) st
@[simp] theorem kTup_1 (a : D) (st : Store) : kTup [a] st = .ok (.tup [a]) st := kTup_of (by simp [lim]) st
@[simp] theorem kTup_2 (a b : D) (st : Store) : kTup [a, b] st = .ok (.tup [a, b]) st := kTup_of (by simp [lim]) st
@[simp] theorem kTup_3 (a b c : D) (st : Store) : kTup [a, b, c] st = .ok (.tup [a, b, c]) st := kTup_of (by simp [lim]) st
@[simp] theorem kTup_4 (a b c d : D) (st : Store) : kTup [a, b, c, d] st = .ok (.tup [a, b, c, d]) st := kTup_of (by simp [lim]) st
@[simp] theorem kLst_0 (st : Store) : kLst [] st = .ok (.lst []) st := kLst_of (by simp [lim]) st
@[simp] theorem kLst_1 (a : D) (st : Store) : kLst [a] st = .ok (.lst [a]) st := kLst_of (by simp [lim]) st
@[simp] theorem kLst_2 (a b : D) (st : Store) : kLst [a, b] st = .ok (.lst [a, b]) st := kLst_of (by simp [lim]) st
@[simp] theorem kLst_3 (a b c : D) (st : Store) : kLst [a, b, c] st = .ok (.lst [a, b, c]) st := kLst_of (by simp [lim]) st
@[simp] theorem kLst_4 (a b c d : D) (st : Store) : kLst [a, b, c, d] st = .ok (.lst [a, b, c, d]) st := kLst_of (by simp [lim]) st
@[simp] theorem kLst_5 (a b c d e : D) (st : Store) : kLst [a, b, c, d, e] st = .ok (.lst [a, b, c, d, e]) st := kLst_of (by simp [lim]) st
@[simp] theorem kLst_6 (a b c d e f : D) (st : Store) : kLst [a, b, c, d, e, f] st = .ok (.lst [a, b, c, d, e, f]) st := kLst_of (by simp [lim]) st
@[simp] theorem kLstC_0 (st : Store) : kLstC [] st = .ok (.ref st.length) (st ++ [.lst []]) := kLstC_of (by simp [lim]) st
@[simp] theorem kLstC_1 (a : D) (st : Store) : kLstC [a] st = .ok (.ref st.length) (st ++ [.lst [a]]) := kLstC_of (by simp [lim]) st
@[simp] theorem kLstC_4 (a b c d : D) (st : Store) : kLstC [a, b, c, d] st = .ok (.ref st.length) (st ++ [.lst [a, b, c, d]]) := kLstC_of (by simp [lim]) st
@[simp] theorem fCB_eq (o : OA) (g : LA) (env : DEnv) (st : Store) : fCB o g env st = (g env st).bind o := (rfl)
@[simp] theorem fFz_eq (f : LE) (env : DEnv) (st : Store) : fFz f env st = (f env st).bind oFz := (rfl)
theorem oFz_ref {k : Nat} {xs : List D} {st : Store} (h : st[k]? = some (.lst xs)) : oFz (.ref k) st = .ok (.lst xs) (st.set k .dead) := by
  show (match st[k]? with
    | some (.lst xs) => Res.ok (D.lst xs) (st.set k .dead)
    | _ => .stuck) = _
  rw [h]
/-! ### kinds -/
def kIsi (c : Kd) : D → Store → Res D := fun d st1 => match kdOf d st1 with
  | some k => .ok (.bl (k.isa c)) st1
  | none => .stuck
def kIsiT (cs : List Kd) : D → Store → Res D := fun d st1 => match kdOf d st1 with
  | some k => .ok (.bl (cs.any fun c => k.isa c)) st1
  | none => .stuck
@[simp] theorem fIsi_eq (c : Kd) (f : LE) (env : DEnv) (st : Store) : fIsi c f env st = (f env st).bind (kIsi c) := (rfl)
@[simp] theorem fIsiT_eq (cs : List Kd) (f : LE) (env : DEnv) (st : Store) : fIsiT cs f env st = (f env st).bind (kIsiT cs) := (rfl)
theorem kIsi_of {c k : Kd} {d : D} {st : Store} (h : kdOf d st = some k) : kIsi c d st = .ok (.bl (k.isa c)) st := by
  unfold kIsi
  rw [h]
theorem kIsiT_of {cs : List Kd} {k : Kd} {d : D} {st : Store} (h : kdOf d st = some k) : kIsiT cs d st = .ok (.bl (cs.any fun c => k.isa c)) st := by
  unfold kIsiT
  rw [h]
@[simp] theorem kIsi_non (c : Kd) (st : Store) : kIsi c .non st = .ok (.bl (Kd.non.isa c)) st := (rfl)
@[simp] theorem kIsi_bl (c : Kd) (b : Bool) (st : Store) : kIsi c (.bl b) st = .ok (.bl (Kd.bl.isa c)) st := (rfl)
@[simp] theorem kIsi_int (c : Kd) (b : Int) (st : Store) : kIsi c (.int b) st = .ok (.bl (Kd.int.isa c)) st := (rfl)
@[simp] theorem kIsi_str (c : Kd) (b : Str) (st : Store) : kIsi c (.str b) st = .ok (.bl (Kd.str.isa c)) st := (rfl)
@[simp] theorem kIsi_tup (c : Kd) (b : List D) (st : Store) : kIsi c (.tup b) st = .ok (.bl (Kd.tup.isa c)) st := (rfl)
@[simp] theorem kIsi_lst (c : Kd) (b : List D) (st : Store) : kIsi c (.lst b) st = .ok (.bl (Kd.lst.isa c)) st := (rfl)
@[simp] theorem kIsi_lck (c : Kd) (b : List D) (st : Store) : kIsi c (.lck b) st = .ok (.bl (Kd.lst.isa c)) st := (rfl)
@[simp] theorem kIsiT_non (c : List Kd) (st : Store) : kIsiT c .non st = .ok (.bl (c.any fun c => Kd.non.isa c)) st := (rfl)
@[simp] theorem kIsiT_bl (c : List Kd) (b : Bool) (st : Store) : kIsiT c (.bl b) st = .ok (.bl (c.any fun c => Kd.bl.isa c)) st := (rfl)
@[simp] theorem kIsiT_int (c : List Kd) (b : Int) (st : Store) : kIsiT c (.int b) st = .ok (.bl (c.any fun c => Kd.int.isa c)) st := (rfl)
@[simp] theorem kIsiT_str (c : List Kd) (b : Str) (st : Store) : kIsiT c (.str b) st = .ok (.bl (c.any fun c => Kd.str.isa c)) st := (rfl)
@[simp] theorem kIsiT_tup (c : List Kd) (b : List D) (st : Store) : kIsiT c (.tup b) st = .ok (.bl (c.any fun c => Kd.tup.isa c)) st := (rfl)
@[simp] theorem kIsiT_lst (c : List Kd) (b : List D) (st : Store) : kIsiT c (.lst b) st = .ok (.bl (c.any fun c => Kd.lst.isa c)) st := (rfl)
@[simp] theorem isa_nn : Kd.non.isa .non = true := (rfl)
@[simp] theorem isa_nb : Kd.non.isa .bl = false := (rfl)
@[simp] theorem isa_ni : Kd.non.isa .int = false := (rfl)
@[simp] theorem isa_ns : Kd.non.isa .str = false := (rfl)
@[simp] theorem isa_nt : Kd.non.isa .tup = false := (rfl)
@[simp] theorem isa_nl : Kd.non.isa .lst = false := (rfl)
@[simp] theorem isa_bb : Kd.bl.isa .bl = true := (rfl)
@[simp] theorem isa_bi : Kd.bl.isa .int = true := (rfl)
@[simp] theorem isa_bs : Kd.bl.isa .str = false := (rfl)
@[simp] theorem isa_bt : Kd.bl.isa .tup = false := (rfl)
@[simp] theorem isa_bL : Kd.bl.isa .lst = false := (rfl)
@[simp] theorem isa_ib : Kd.int.isa .bl = false := (rfl)
@[simp] theorem isa_ii : Kd.int.isa .int = true := (rfl)
@[simp] theorem isa_is : Kd.int.isa .str = false := (rfl)
@[simp] theorem isa_it : Kd.int.isa .tup = false := (rfl)
@[simp] theorem isa_il : Kd.int.isa .lst = false := (rfl)
@[simp] theorem isa_sb : Kd.str.isa .bl = false := (rfl)
@[simp] theorem isa_si : Kd.str.isa .int = false := (rfl)
@[simp] theorem isa_ss : Kd.str.isa .str = true := (rfl)
@[simp] theorem isa_st : Kd.str.isa .tup = false := (rfl)
@[simp] theorem isa_sl : Kd.str.isa .lst = false := (rfl)
@[simp] theorem isa_tb : Kd.tup.isa .bl = false := (rfl)
@[simp] theorem isa_ti : Kd.tup.isa .int = false := (rfl)
@[simp] theorem isa_ts : Kd.tup.isa .str = false := (rfl)
@[simp] theorem isa_tt : Kd.tup.isa .tup = true := (rfl)
@[simp] theorem isa_tl : Kd.tup.isa .lst = false := (rfl)
@[simp] theorem isa_lb : Kd.lst.isa .bl = false := (rfl)
@[simp] theorem isa_li : Kd.lst.isa .int = false := (rfl)
@[simp] theorem isa_ls : Kd.lst.isa .str = false := (rfl)
@[simp] theorem isa_lt : Kd.lst.isa .tup = false := (rfl)
@[simp] theorem isa_ll : Kd.lst.isa .lst = true := (rfl)
/-! ### built-in calls -/
@[simp] theorem oLen_tup (xs : List D) (st : Store) : oLen [.tup xs] st = .ok (.int xs.length) st := (rfl)
@[simp] theorem oLen_lst (xs : List D) (st : Store) : oLen [.lst xs] st = .ok (.int xs.length) st := (rfl)
@[simp] theorem oLen_lck (xs : List D) (st : Store) : oLen [.lck xs] st = .ok (.int xs.length) st := (rfl)
@[simp] theorem oLen_str (s : Str) (st : Store) : oLen [.str s] st = if s.length ≤ lim then .ok (.int s.length) st else .stuck := (rfl)
theorem rdOf_ref {k : Nat} {xs : List D} {st : Store} (h : st[k]? = some (.lst xs)) : rdOf (.ref k) st = some xs := by
  show (match st[k]? with
    | some (.lst xs) => some xs
    | _ => none) = some xs
  rw [h]
theorem oLen_ref {k : Nat} {xs : List D} {st : Store} (h : st[k]? = some (.lst xs)) : oLen [.ref k] st = .ok (.int xs.length) st := by
  show (match rdOf (.ref k) st with
    | some xs => Res.ok (D.int xs.length) st
    | none => .stuck) = _
  rw [rdOf_ref h]
@[simp] theorem oTupOf_tup (xs : List D) (st : Store) : oTupOf [.tup xs] st = .ok (.tup xs) st := (rfl)
@[simp] theorem oTupOf_lst (xs : List D) (st : Store) : oTupOf [.lst xs] st = .ok (.tup xs) st := (rfl)
theorem oTupOf_ref {k : Nat} {xs : List D} {st : Store} (h : st[k]? = some (.lst xs)) : oTupOf [.ref k] st = .ok (.tup xs) st := by
  show (match rdOf (.ref k) st with
    | some xs => Res.ok (D.tup xs) st
    | none => .stuck) = _
  rw [rdOf_ref h]
@[simp] theorem oLstOf_tup (xs : List D) (st : Store) : oLstOf [.tup xs] st = .ok (.lst xs) st := (rfl)
@[simp] theorem oLstOf_lst (xs : List D) (st : Store) : oLstOf [.lst xs] st = .ok (.lst xs) st := (rfl)
@[simp] theorem oStr_str (s : Str) (st : Store) : oStr [.str s] st = .ok (.str s) st := (rfl)
theorem oStr_int {i : Int} (h : i.natAbs.log2 < 1920) (st : Store) : oStr [.int i] st = .ok (.str (toString i)) st := if_pos h
@[simp] theorem oInt_int (i : Int) (st : Store) : oInt [.int i] st = .ok (.int i) st := (rfl)
@[simp] theorem oInt_bl (b : Bool) (st : Store) : oInt [.bl b] st = .ok (.int (if b then 1 else 0)) st := (rfl)
theorem oInt_str {s : Str} {n : Int} (h : PySem.intText? s = some n) (hl : s.length ≤ 640) (st : Store) : oInt [.str s] st = .ok (.int n) st := by
  show (match PySem.intText? s with
    | some n => if s.length ≤ 640 then Res.ok (D.int n) st else .stuck
    | none => .stuck) = _
  rw [h]
  exact if_pos hl
theorem oAll_lst {bs : List Bool} (st : Store) : oAll [.lst (bs.map D.bl)] st = .ok (.bl (bs.all id)) st := by
  show (match blsOf (bs.map D.bl) with
    | some bs => Res.ok (D.bl (bs.all id)) st
    | none => .stuck) = _
  rw [blsOf_map]
theorem oAny_lst {bs : List Bool} (st : Store) : oAny [.lst (bs.map D.bl)] st = .ok (.bl (bs.any id)) st := by
  show (match blsOf (bs.map D.bl) with
    | some bs => Res.ok (D.bl (bs.any id)) st
    | none => .stuck) = _
  rw [blsOf_map]
@[simp] theorem oMax2_eq (i j : Int) (st : Store) : oMax2 [.int i, .int j] st = .ok (.int (if j > i then j else i)) st := (rfl)
@[simp] theorem oMin2_eq (i j : Int) (st : Store) : oMin2 [.int i, .int j] st = .ok (.int (if j < i then j else i)) st := (rfl)
/-! ### calls of defs -/
def kCall (n : Nat) (fm : FM) : List D → Store → Res D := fun ds st1 => if ds.length = n then fm ds st1 else .stuck
@[simp] theorem fCall_eq (n : Nat) (fm : FM) (g : LA) (env : DEnv) (st : Store) : fCall n fm g env st = (g env st).bind (kCall n fm) := (rfl)
@[simp] theorem kCall_1 (fm : FM) (a : D) (st : Store) : kCall 1 fm [a] st = fm [a] st := (rfl)
@[simp] theorem kCall_2 (fm : FM) (a b : D) (st : Store) : kCall 2 fm [a, b] st = fm [a, b] st := (rfl)
@[simp] theorem kCall_3 (fm : FM) (a b c : D) (st : Store) : kCall 3 fm [a, b, c] st = fm [a, b, c] st := (rfl)
@[simp] theorem kCall_4 (fm : FM) (a b c d : D) (st : Store) : kCall 4 fm [a, b, c, d] st = fm [a, b, c, d] st := (rfl)
/-- how a body's end is a call's -/
def outR (r : RS) : Res D := match r with
  | .nx _ s => .ok .non s
  | .rt d s => .ok d s
  | .ex x _ s => .ex x s
  | _ => .stuck
@[simp] theorem outR_nx (e : DEnv) (s : Store) : outR (.nx e s) = .ok .non s := (rfl)
@[simp] theorem outR_rt (d : D) (s : Store) : outR (.rt d s) = .ok d s := (rfl)
@[simp] theorem outR_ex (x : Exn) (e : DEnv) (s : Store) : outR (.ex x e s) = .ex x s := (rfl)
theorem runB_eq (n : Nat) (f : LS) (ds : List D) (st : Store) : runB n f ds st = outR (f (ds.map some ++ List.replicate (n - ds.length) none) st) := rfl
/-! ### statements -/
def seqK (g : LS) (r : RS) : RS := match r with
  | .nx e s => g e s
  | r => r
@[simp] theorem fSeq_eq (f g : LS) (env : DEnv) (st : Store) : fSeq f g env st = seqK g (f env st) := (rfl)
@[simp] theorem seqK_nx (g : LS) (e : DEnv) (s : Store) : seqK g (.nx e s) = g e s := (rfl)
@[simp] theorem seqK_rt (g : LS) (d : D) (s : Store) : seqK g (.rt d s) = .rt d s := (rfl)
@[simp] theorem seqK_bk (g : LS) (e : DEnv) (s : Store) : seqK g (.bk e s) = .bk e s := (rfl)
@[simp] theorem seqK_ct (g : LS) (e : DEnv) (s : Store) : seqK g (.ct e s) = .ct e s := (rfl)
@[simp] theorem seqK_ex (g : LS) (x : Exn) (e : DEnv) (s : Store) : seqK g (.ex x e s) = .ex x e s := (rfl)
@[simp] theorem fNext_eq (env : DEnv) (st : Store) : fNext env st = .nx env st := (rfl)
@[simp] theorem fBreak_eq (env : DEnv) (st : Store) : fBreak env st = .bk env st := (rfl)
@[simp] theorem fCont_eq (env : DEnv) (st : Store) : fCont env st = .ct env st := (rfl)
@[simp] theorem fRetN_eq (env : DEnv) (st : Store) : fRetN env st = .rt .non st := (rfl)
@[simp] theorem fRet_eq (f : LE) (env : DEnv) (st : Store) : fRet f env st = (f env st).go env RS.rt := (rfl)
def kDrop (env : DEnv) : D → Store → RS := fun _ st1 => .nx env st1
@[simp] theorem kDrop_eq (env : DEnv) (d : D) (st : Store) : kDrop env d st = .nx env st := (rfl)
@[simp] theorem fDrop_eq (f : LE) (env : DEnv) (st : Store) : fDrop f env st = (f env st).go env (kDrop env) := (rfl)
def kIfS (f g : LS) (env : DEnv) : Bool → Store → RS := fun b st1 => if b = true then f env st1 else g env st1
@[simp] theorem fIfS_eq (t : LT) (f g : LS) (env : DEnv) (st : Store) : fIfS t f g env st = (t env st).go env (kIfS f g env) := (rfl)
@[simp] theorem kIfS_t (f g : LS) (env : DEnv) (st : Store) : kIfS f g env true st = f env st := (rfl)
@[simp] theorem kIfS_f (f g : LS) (env : DEnv) (st : Store) : kIfS f g env false st = g env st := (rfl)
theorem kIfS_if (f g : LS) (env : DEnv) (b : Bool) (st : Store) : kIfS f g env b st = if b = true then f env st else g env st := rfl
def kAsg (g : LG) (env : DEnv) : D → Store → RS := fun d st1 => g d env st1
@[simp] theorem fAsg_eq (f : LE) (g : LG) (env : DEnv) (st : Store) : fAsg f g env st = (f env st).go env (kAsg g env) := (rfl)
@[simp] theorem kAsg_eq (g : LG) (env : DEnv) (d : D) (st : Store) : kAsg g env d st = g d env st := (rfl)
@[simp] theorem gN_eq (i : Nat) (d : D) (env : DEnv) (st : Store) : gN i d env st = .nx (env.set i (some d)) st := (rfl)
def kPar (i j : Nat) (env : DEnv) : List D → Store → RS := fun ds st1 => match ds with
  | [d, e] => .nx ((env.set i (some d)).set j (some e)) st1
  | _ => .stuck
def kPar3 (i j l : Nat) (env : DEnv) : List D → Store → RS := fun ds st1 => match ds with
  | [d, e, f] => .nx (((env.set i (some d)).set j (some e)).set l (some f)) st1
  | _ => .stuck
@[simp] theorem fPar_eq (i j : Nat) (g : LA) (env : DEnv) (st : Store) : fPar i j g env st = (g env st).go env (kPar i j env) := (rfl)
@[simp] theorem kPar_eq (i j : Nat) (env : DEnv) (d e : D) (st : Store) : kPar i j env [d, e] st = .nx ((env.set i (some d)).set j (some e)) st := (rfl)
@[simp] theorem fPar3_eq (i j l : Nat) (g : LA) (env : DEnv) (st : Store) : fPar3 i j l g env st = (g env st).go env (kPar3 i j l env) := (rfl)
@[simp] theorem kPar3_eq (i j l : Nat) (env : DEnv) (d e f : D) (st : Store) : kPar3 i j l env [d, e, f] st = .nx (((env.set i (some d)).set j (some e)).set l (some f)) st := (rfl)
def augK (i : Nat) (o : O2) (f : LE) (env : DEnv) (st : Store) (q : Option (Option D)) : RS := match q with
  | some (some d) => (f env st).go env fun e st1 => (o d e st1).go env fun z st2 => .nx (env.set i (some z)) st2
  | _ => .stuck
def kAug1 (i : Nat) (o : O2) (env : DEnv) (d : D) : D → Store → RS := fun e st1 => (o d e st1).go env fun z st2 => .nx (env.set i (some z)) st2
def kAug2 (i : Nat) (env : DEnv) : D → Store → RS := fun z st2 => .nx (env.set i (some z)) st2
@[simp] theorem fAug_eq (i : Nat) (o : O2) (f : LE) (env : DEnv) (st : Store) : fAug i o f env st = augK i o f env st env[i]? := (rfl)
@[simp] theorem augK_some (i : Nat) (o : O2) (f : LE) (env : DEnv) (st : Store) (d : D) : augK i o f env st (some (some d)) = (f env st).go env (kAug1 i o env d) := (rfl)
@[simp] theorem kAug1_eq (i : Nat) (o : O2) (env : DEnv) (d e : D) (st : Store) : kAug1 i o env d e st = (o d e st).go env (kAug2 i env) := (rfl)
@[simp] theorem kAug2_eq (i : Nat) (env : DEnv) (z : D) (st : Store) : kAug2 i env z st = .nx (env.set i (some z)) st := (rfl)
/-! ### methods -/
def kBM1 (t : D → Store → Bool) (o : OM) (g : LA) (env : DEnv) : D → Store → Res D := fun d st1 => if t d st1 = true then (g env st1).bind fun ds st2 => o d ds st2 else .stuck
@[simp] theorem fBM_eq (t : D → Store → Bool) (o : OM) (fa : LE) (g : LA) (env : DEnv) (st : Store) : fBM t o fa g env st = (fa env st).bind (kBM1 t o g env) := (rfl)
@[simp] theorem kBM1_str (o : OM) (g : LA) (env : DEnv) (s : Str) (st : Store) : kBM1 isS o g env (.str s) st = (g env st).bind (o (.str s)) := (rfl)
theorem kBM1_ref {k : Nat} {xs : List D} {st : Store} (h : st[k]? = some (.lst xs)) (o : OM) (g : LA) (env : DEnv) : kBM1 isL o g env (.ref k) st = (g env st).bind (o (.ref k)) := by
  have e : isL (.ref k) st = true := by
    unfold isL
    rw [rdOf_ref h] <;> rfl
  unfold kBM1
  rw [if_pos e]
theorem cellL_ref {k : Nat} {xs : List D} {st : Store} (h : st[k]? = some (.lst xs)) : cellL (.ref k) st = some (k, xs) := by
  show (match st[k]? with
    | some (.lst xs) => some (k, xs)
    | _ => none) = _
  rw [h]
theorem oApp_ref {k : Nat} {xs : List D} {st : Store} (h : st[k]? = some (.lst xs)) (hl : xs.length < lim) (y : D) : oApp (.ref k) [y] st = .ok .non (st.set k (.lst (xs ++ [y]))) := by
  unfold oApp
  rw [cellL_ref h]
  exact if_pos hl
def gSubK1 (fi : LE) (v : D) (env : DEnv) : D → Store → RS := fun d st1 => (fi env st1).go env fun i st2 => match cellL d st2, i with
  | some (k, xs), .int i => (match ixN xs.length i with
    | some j => .nx env (st2.set k (.lst (xs.set j v)))
    | none => .stuck)
  | _, _ => .stuck
def gSubK2 (v : D) (env : DEnv) (d : D) : D → Store → RS := fun i st2 => match cellL d st2, i with
  | some (k, xs), .int i => (match ixN xs.length i with
    | some j => .nx env (st2.set k (.lst (xs.set j v)))
    | none => .stuck)
  | _, _ => .stuck
@[simp] theorem gSubL_eq (fo fi : LE) (v : D) (env : DEnv) (st : Store) : gSubL fo fi v env st = (fo env st).go env (gSubK1 fi v env) := (rfl)
@[simp] theorem gSubK1_eq (fi : LE) (v : D) (env : DEnv) (d : D) (st : Store) : gSubK1 fi v env d st = (fi env st).go env (gSubK2 v env d) := (rfl)
theorem gSubK2_ref {k : Nat} {xs : List D} {st : Store} (h : st[k]? = some (.lst xs)) {i : Int} {j : Nat} (hj : i = (j : Int)) (hl : j < xs.length) (v : D) (env : DEnv) : gSubK2 v env (.ref k) (.int i) st = .nx env (st.set k (.lst (xs.set j v))) := by
  subst hj
  unfold gSubK2
  rw [cellL_ref h]
  have e : ixN xs.length (j : Int) = some j := by
    unfold ixN
    rw [if_pos (by omega), if_pos (by omega)]
    simp
  dsimp only
  rw [e]
/-! ### loops -/
theorem forRun_cons {g : Store → Bool} {lg : LG} {body : LS} {d : D} {ds : List D} {env e1 e2 : DEnv} {st s1 s2 : Store} (hg : g st = true) (h1 : lg d env st = .nx e1 s1) (h2 : body e1 s1 = .nx e2 s2 ∨ body e1 s1 = .ct e2 s2) : forRun g lg body (d :: ds) env st = forRun g lg body ds e2 s2 := by
  rw [forRun, if_pos hg, h1]
  rcases h2 with h2 | h2 <;> (dsimp only; rw [h2])
theorem forRun_nil {g : Store → Bool} {lg : LG} {body : LS} {env : DEnv} {st : Store} (hg : g st = true) : forRun g lg body [] env st = .nx env st := by
  rw [forRun, if_pos hg]
theorem forRun_break {g : Store → Bool} {lg : LG} {body : LS} {d : D} {ds : List D} {env e1 e2 : DEnv} {st s1 s2 : Store} (hg : g st = true) (h1 : lg d env st = .nx e1 s1) (h2 : body e1 s1 = .bk e2 s2) : forRun g lg body (d :: ds) env st = .nx e2 s2 := by
  rw [forRun, if_pos hg, h1]
  dsimp only
  rw [h2]
theorem forRun_rt {g : Store → Bool} {lg : LG} {body : LS} {d z : D} {ds : List D} {env e1 : DEnv} {st s1 s2 : Store} (hg : g st = true) (h1 : lg d env st = .nx e1 s1) (h2 : body e1 s1 = .rt z s2) : forRun g lg body (d :: ds) env st = .rt z s2 := by
  rw [forRun, if_pos hg, h1]
  dsimp only
  rw [h2]
theorem forRun_ex {g : Store → Bool} {lg : LG} {body : LS} {d : D} {ds : List D} {env e1 e2 : DEnv} {st s1 s2 : Store} {x : Exn} (hg : g st = true) (h1 : lg d env st = .nx e1 s1) (h2 : body e1 s1 = .ex x e2 s2) : forRun g lg body (d :: ds) env st = .ex x e2 s2 := by
  rw [forRun, if_pos hg, h1]
  dsimp only
  rw [h2]
/-- a loop that runs to its end, by what holds between its turns -/
theorem forRun_inv {g : Store → Bool} {lg : LG} {body : LS} {items : List D} (P : Nat → DEnv → Store → Prop) (hg : ∀ i e s, P i e s → g s = true)
    (step : ∀ i d e s, items[i]? = some d → P i e s → ∃ e1 s1 e2 s2, lg d e s = .nx e1 s1 ∧ (body e1 s1 = .nx e2 s2 ∨ body e1 s1 = .ct e2 s2) ∧ P (i + 1) e2 s2) {env : DEnv} {st : Store} (h0 : P 0 env st) :
    ∃ e s, forRun g lg body items env st = .nx e s ∧ P items.length e s := by
  have key : ∀ (ds : List D) (i : Nat) (e : DEnv) (s : Store), items.drop i = ds → i ≤ items.length → P i e s → ∃ e' s', forRun g lg body ds e s = .nx e' s' ∧ P items.length e' s' := fun ds => by
    induction ds with
    | nil =>
      intro i e s hd hl hp
      have hi : i = items.length := by
        have := congrArg List.length hd
        simp at this
        omega
      subst hi
      exact ⟨e, s, forRun_nil (hg _ e s hp), hp⟩
    | cons d ds ih =>
      intro i e s hd hl hp
      have hlt : i < items.length := by
        have := congrArg List.length hd
        simp at this
        omega
      have e1 : items[i]? = some d := by
        have : (items.drop i)[0]? = some d := by rw [hd]; rfl
        simpa using this
      obtain ⟨ea, sa, eb, sb, h1, h2, h3⟩ := step i d e s e1 hp
      rw [forRun_cons (hg i e s hp) h1 h2]
      refine ih (i + 1) eb sb ?_ hlt h3
      have : (items.drop i).drop 1 = ds := by rw [hd]; rfl
      rw [← this, List.drop_drop]
  exact key items 0 env st (by simp) (Nat.zero_le _) h0
def kFor (lg : LG) (body : LS) (env : DEnv) : IT → Store → RS := fun it st1 => forRun it.2 lg body it.1 env st1
@[simp] theorem fFor_eq (fi : LI) (lg : LG) (body : LS) (env : DEnv) (st : Store) : fFor fi lg body env st = (fi env st).go env (kFor lg body env) := (rfl)
@[simp] theorem kFor_eq (lg : LG) (body : LS) (env : DEnv) (it : IT) (st : Store) : kFor lg body env it st = forRun it.2 lg body it.1 env st := (rfl)
/-! ### what is walked -/
noncomputable def kWk : D → Store → Res IT := fun d st1 => match wkOf d st1 with
  | some it => .ok it st1
  | none => .stuck
@[simp] theorem iA_eq (f : LE) (env : DEnv) (st : Store) : iA f env st = (f env st).bind kWk := (rfl)
abbrev gT : Store → Bool := fun _ => true
@[simp] theorem kWk_lst (xs : List D) (st : Store) : kWk (.lst xs) st = .ok (xs, gT) st := (rfl)
@[simp] theorem kWk_lck (xs : List D) (st : Store) : kWk (.lck xs) st = .ok (xs, gT) st := (rfl)
@[simp] theorem kWk_tup (xs : List D) (st : Store) : kWk (.tup xs) st = .ok (xs, gT) st := (rfl)
@[simp] theorem kWk_str (s : Str) (st : Store) : kWk (.str s) st = .ok (s.cps.toList.map fun c => .str ⟨#[c]⟩, gT) st := (rfl)
theorem kWk_ref {k : Nat} {xs : List D} {st : Store} (h : st[k]? = some (.lst xs)) : kWk (.ref k) st = .ok (xs, gC k xs) st := by
  have e : wkOf (.ref k) st = some (xs, gC k xs) := by
    show (match st[k]? with
      | some (.lst xs) => some (xs, gC k xs)
      | _ => none) = _
    rw [h]
  unfold kWk
  rw [e]
def kR1 : List D → Store → Res IT := fun ds st1 => match ds with
  | [.int j] => if -(2 ^ 62) ≤ j ∧ j < 2 ^ 62 then .ok (rgD 0 1 j.toNat, fun _ => true) st1 else .stuck
  | _ => .stuck
@[simp] theorem iR1_eq (g : LA) (env : DEnv) (st : Store) : iR1 g env st = (g env st).bind kR1 := (rfl)
theorem kR1_of {j : Int} (h : -(2 ^ 62) ≤ j ∧ j < 2 ^ 62) (st : Store) : kR1 [.int j] st = .ok (rgD 0 1 j.toNat, gT) st := if_pos h
def kR2 : List D → Store → Res IT := fun ds st1 => match ds with
  | [.int i, .int j] => if -(2 ^ 62) ≤ i ∧ i < 2 ^ 62 ∧ -(2 ^ 62) ≤ j ∧ j < 2 ^ 62 then .ok (rgD i 1 (j - i).toNat, fun _ => true) st1 else .stuck
  | _ => .stuck
@[simp] theorem iR2_eq (g : LA) (env : DEnv) (st : Store) : iR2 g env st = (g env st).bind kR2 := (rfl)
theorem kR2_of {i j : Int} (h : -(2 ^ 62) ≤ i ∧ i < 2 ^ 62 ∧ -(2 ^ 62) ≤ j ∧ j < 2 ^ 62) (st : Store) : kR2 [.int i, .int j] st = .ok (rgD i 1 (j - i).toNat, gT) st := if_pos h
def kR3 : List D → Store → Res IT := fun ds st1 => match ds with
  | [.int i, .int j, .int c] => if c ≠ 0 ∧ c.natAbs < 1073741824 ∧ i.natAbs < 2 ^ 60 ∧ j.natAbs < 2 ^ 60 then .ok (rgD i c (Builtin.Range.rangeSize i j c).toNat, fun _ => true) st1 else .stuck
  | _ => .stuck
@[simp] theorem iR3_eq (g : LA) (env : DEnv) (st : Store) : iR3 g env st = (g env st).bind kR3 := (rfl)
theorem kR3_of {i j c : Int} (h : c ≠ 0 ∧ c.natAbs < 1073741824 ∧ i.natAbs < 2 ^ 60 ∧ j.natAbs < 2 ^ 60) (st : Store) : kR3 [.int i, .int j, .int c] st = .ok (rgD i c (Builtin.Range.rangeSize i j c).toNat, gT) st := if_pos h
noncomputable def kEn : List D → Store → Res IT := fun ds st1 => match ds with
  | [d] => (match wkL d st1 with
    | some (xs, g) => .ok (numD 0 xs, g) st1
    | none => .stuck)
  | _ => .stuck
@[simp] theorem iEn_eq (g : LA) (env : DEnv) (st : Store) : iEn g env st = (g env st).bind kEn := (rfl)
@[simp] theorem kEn_lst (xs : List D) (st : Store) : kEn [.lst xs] st = .ok (numD 0 xs, gT) st := (rfl)
noncomputable def kRe : List D → Store → Res IT := fun ds st1 => match ds with
  | [d] => (match wkL d st1 with
    | some (xs, g) => .ok (xs.reverse, g) st1
    | none => .stuck)
  | _ => .stuck
@[simp] theorem iRe_eq (g : LA) (env : DEnv) (st : Store) : iRe g env st = (g env st).bind kRe := (rfl)
@[simp] theorem kRe_lst (xs : List D) (st : Store) : kRe [.lst xs] st = .ok (xs.reverse, gT) st := (rfl)
theorem wkL_ref {k : Nat} {xs : List D} {st : Store} (h : st[k]? = some (.lst xs)) : wkL (.ref k) st = some (xs, gC k xs) := by
  show (match st[k]? with
    | some (.lst xs) => some (xs, gC k xs)
    | _ => none) = _
  rw [h]
theorem kRe_ref {k : Nat} {xs : List D} {st : Store} (h : st[k]? = some (.lst xs)) : kRe [.ref k] st = .ok (xs.reverse, gC k xs) st := by
  unfold kRe
  dsimp only
  rw [wkL_ref h]
theorem kEn_ref {k : Nat} {xs : List D} {st : Store} (h : st[k]? = some (.lst xs)) : kEn [.ref k] st = .ok (numD 0 xs, gC k xs) st := by
  unfold kEn
  dsimp only
  rw [wkL_ref h]
/-! ### comprehensions -/
/-- no change of the store: filter and map -/
theorem lcRun_pure {g : Store → Bool} {lg : LG} {ft : LT} {fe : LE} {envw : DEnv} {st : Store} (hg : g st = true) : ∀ {items : List D} (t : D → Bool) (φ : D → D),
    (∀ d ∈ items, ∃ e1, lg d envw st = .nx e1 st ∧ ft e1 st = .ok (t d) st ∧ (t d = true → fe e1 st = .ok (φ d) st)) → lcRun g lg ft fe envw items st = .ok ((items.filter t).map φ) st
  | [], t, φ, _ => by rw [lcRun, if_pos hg]; rfl
  | d :: ds, t, φ, h => by
    obtain ⟨e1, h1, h2, h3⟩ := h d List.mem_cons_self
    have ih := lcRun_pure hg t φ (fun x hx => h x (List.mem_cons_of_mem _ hx)) (items := ds)
    rw [lcRun, if_pos hg, h1]
    dsimp only
    rw [h2]
    dsimp only [noex, Res.bind]
    cases c : t d with
    | true =>
      rw [if_pos rfl, h3 c]
      dsimp only [noex, Res.bind]
      rw [ih, List.filter_cons, if_pos c]
      rfl
    | false =>
      rw [if_neg Bool.false_ne_true, ih, List.filter_cons, if_neg (by rw [c]; exact Bool.false_ne_true)]
theorem lcRun_map {g : Store → Bool} {lg : LG} {ft : LT} {fe : LE} {envw : DEnv} {st : Store} (hg : g st = true) {items : List D} (φ : D → D)
    (h : ∀ d ∈ items, ∃ e1, lg d envw st = .nx e1 st ∧ ft e1 st = .ok true st ∧ fe e1 st = .ok (φ d) st) : lcRun g lg ft fe envw items st = .ok (items.map φ) st := by
  have := lcRun_pure (g := g) (lg := lg) (ft := ft) (fe := fe) (envw := envw) hg (items := items) (fun _ => true) φ fun d hd => by
    obtain ⟨e1, h1, h2, h3⟩ := h d hd
    exact ⟨e1, h1, h2, fun _ => h3⟩
  rw [this, List.filter_eq_self.mpr (fun _ _ => rfl)]
/-- with a store that changes: by what holds between the turns -/
theorem lcRun_inv {α : Type} {g : Store → Bool} {lg : LG} {ft : LT} {fe : LE} {envw : DEnv} {items : List D} (rep : α → D) (P : Nat → List α → Store → Prop) (hg : ∀ i l s, P i l s → g s = true)
    (step : ∀ i d l s, items[i]? = some d → P i l s → ∃ e1 s1 b s2, lg d envw s = .nx e1 s1 ∧ ft e1 s1 = .ok b s2 ∧ (b = true → ∃ y s3, fe e1 s2 = .ok (rep y) s3 ∧ P (i + 1) (l ++ [y]) s3) ∧ (b = false → P (i + 1) l s2)) {st : Store} (h0 : P 0 [] st) :
    ∃ l s, lcRun g lg ft fe envw items st = .ok (l.map rep) s ∧ P items.length l s := by
  have key : ∀ (ds : List D) (i : Nat) (l : List α) (s : Store), items.drop i = ds → i ≤ items.length → P i l s → ∃ l' s', lcRun g lg ft fe envw ds s = .ok (l'.map rep) s' ∧ P items.length (l ++ l') s' := fun ds => by
    induction ds with
    | nil =>
      intro i l s hd hl hp
      have hi : i = items.length := by
        have := congrArg List.length hd
        simp at this
        omega
      subst hi
      exact ⟨[], s, by rw [lcRun, if_pos (hg _ l s hp)]; rfl, by rw [List.append_nil]; exact hp⟩
    | cons d ds ih =>
      intro i l s hd hl hp
      have hlt : i < items.length := by
        have := congrArg List.length hd
        simp at this
        omega
      have e1 : items[i]? = some d := by
        have : (items.drop i)[0]? = some d := by rw [hd]; rfl
        simpa using this
      have hd2 : items.drop (i + 1) = ds := by
        have : (items.drop i).drop 1 = ds := by rw [hd]; rfl
        rw [← this, List.drop_drop]
      obtain ⟨ea, s1, b, s2, h1, h2, h3, h4⟩ := step i d l s e1 hp
      rw [lcRun, if_pos (hg i l s hp), h1]
      dsimp only
      rw [h2]
      dsimp only [noex, Res.bind]
      cases b with
      | true =>
        obtain ⟨y, s3, h5, h6⟩ := h3 rfl
        obtain ⟨l', s', h7, h8⟩ := ih (i + 1) (l ++ [y]) s3 hd2 hlt h6
        rw [if_pos rfl, h5]
        dsimp only [noex, Res.bind]
        rw [h7]
        exact ⟨y :: l', s', rfl, by rw [List.append_assoc] at h8; exact h8⟩
      | false =>
        rw [if_neg Bool.false_ne_true]
        exact ih (i + 1) l s2 hd2 hlt (h4 rfl)
  obtain ⟨l, s, h1, h2⟩ := key items 0 [] st (by simp) (Nat.zero_le _) h0
  exact ⟨l, s, h1, by simpa using h2⟩
def kLcE : List D → Store → Res D := fun ys st2 => if ys.length ≤ lim then .ok (.lst ys) st2 else .stuck
def kLcC : List D → Store → Res D := fun ys st2 => if ys.length ≤ lim then .ok (.ref st2.length) (st2 ++ [.lst ys]) else .stuck
def kLc (lg : LG) (ft : LT) (fe : LE) (envw : DEnv) : IT → Store → Res D := fun it st1 => (lcRun it.2 lg ft fe envw it.1 st1).bind kLcE
def kLcK (lg : LG) (ft : LT) (fe : LE) (envw : DEnv) : IT → Store → Res D := fun it st1 => (lcRun it.2 lg ft fe envw it.1 st1).bind kLcC
@[simp] theorem fLc_eq (fi : LI) (lg : LG) (ft : LT) (fe : LE) (vs : List Nat) (env : DEnv) (st : Store) : fLc fi lg ft fe vs env st = (fi env st).bind (kLc lg ft fe (wipeD env vs)) := (rfl)
@[simp] theorem fLcC_eq (fi : LI) (lg : LG) (ft : LT) (fe : LE) (vs : List Nat) (env : DEnv) (st : Store) : fLcC fi lg ft fe vs env st = (fi env st).bind (kLcK lg ft fe (wipeD env vs)) := (rfl)
theorem kLc_of {lg : LG} {ft : LT} {fe : LE} {envw : DEnv} {it : IT} {st st2 : Store} {ys : List D} (h : lcRun it.2 lg ft fe envw it.1 st = .ok ys st2) (hl : ys.length ≤ lim) : kLc lg ft fe envw it st = .ok (.lst ys) st2 := by
  unfold kLc
  rw [h]
  exact if_pos hl
theorem kLcK_of {lg : LG} {ft : LT} {fe : LE} {envw : DEnv} {it : IT} {st st2 : Store} {ys : List D} (h : lcRun it.2 lg ft fe envw it.1 st = .ok ys st2) (hl : ys.length ≤ lim) : kLcK lg ft fe envw it st = .ok (.ref st2.length) (st2 ++ [.lst ys]) := by
  unfold kLcK
  rw [h]
  exact if_pos hl
@[simp] theorem fYes_eq (env : DEnv) (st : Store) : fYes env st = .ok true st := (rfl)
@[simp] theorem wipeD_nil (env : DEnv) : wipeD env [] = env := (rfl)
@[simp] theorem wipeD_cons (env : DEnv) (i : Nat) (r : List Nat) : wipeD env (i :: r) = (wipeD env r).set i none := (rfl)
/-! ### a, *b = e; tables; a text's sign -/
def seqOf (d : D) (st : Store) : Option (List D) := match d with
  | .tup ds => some ds
  | d => rdOf d st
def stK (g1 g2 : LG) (env : DEnv) (st : Store) (q : Option (List D)) : RS := match q with
  | some (x :: xs) => if xs.length + 1 ≤ 16384 then (match g1 x env st with
    | .nx e s => g2 (.lst xs) e s
    | r => r) else .stuck
  | _ => .stuck
@[simp] theorem gSt_eq (g1 g2 : LG) (d : D) (env : DEnv) (st : Store) : gSt g1 g2 d env st = stK g1 g2 env st (seqOf d st) := (rfl)
@[simp] theorem seqOf_tup (ds : List D) (st : Store) : seqOf (.tup ds) st = some ds := (rfl)
@[simp] theorem seqOf_lst (ds : List D) (st : Store) : seqOf (.lst ds) st = some ds := (rfl)
theorem seqOf_ref {k : Nat} {xs : List D} {st : Store} (h : st[k]? = some (.lst xs)) : seqOf (.ref k) st = some xs := rdOf_ref h
theorem stK_names {i j : Nat} {env : DEnv} {st : Store} {x : D} {xs : List D} (h : xs.length + 1 ≤ 16384) : stK (gN i) (gN j) env st (some (x :: xs)) = .nx ((env.set i (some x)).set j (some (.lst xs))) st := if_pos h
@[simp] theorem stK_0 (i j : Nat) (env : DEnv) (st : Store) (x : D) : stK (gN i) (gN j) env st (some [x]) = .nx ((env.set i (some x)).set j (some (.lst []))) st := stK_names (by simp)
@[simp] theorem stK_1 (i j : Nat) (env : DEnv) (st : Store) (x a : D) : stK (gN i) (gN j) env st (some [x, a]) = .nx ((env.set i (some x)).set j (some (.lst [a]))) st := stK_names (by simp)
@[simp] theorem stK_2 (i j : Nat) (env : DEnv) (st : Store) (x a b : D) : stK (gN i) (gN j) env st (some [x, a, b]) = .nx ((env.set i (some x)).set j (some (.lst [a, b]))) st := stK_names (by simp)
def kGetI (kvs : List (Str × Int)) (dflt : Int) : D → Store → Res D := fun d st1 => match d with
  | .str z => .ok (.int ((kvs.lookup z).getD dflt)) st1
  | _ => .stuck
@[simp] theorem fGetI_eq (kvs : List (Str × Int)) (fk : LE) (dflt : Int) (env : DEnv) (st : Store) : fGetI kvs fk dflt env st = (fk env st).bind (kGetI kvs dflt) := (rfl)
@[simp] theorem kGetI_str (kvs : List (Str × Int)) (dflt : Int) (z : Str) (st : Store) : kGetI kvs dflt (.str z) st = .ok (.int ((kvs.lookup z).getD dflt)) st := (rfl)
theorem oIx_str {s : Str} {i : Int} {c : Nat} (h : atI s.cps.toList i = some c) (hl : s.length ≤ lim) (st : Store) : oIx (.str s) (.int i) st = .ok (.str ⟨#[c]⟩) st := by
  show (match atI s.cps.toList i with
      | some c => if s.length ≤ lim then Res.ok (D.str ⟨#[c]⟩) st else .stuck
      | none => .stuck) = _
  rw [h]
  exact if_pos hl
theorem oIn_str (neg : Bool) (a b : Str) (st : Store) : oIn neg (.str a) (.str b) st = .ok (.bl (if neg then !(!(Builtin.Str.occurrences b a 0 b.length 1).isEmpty) else !(Builtin.Str.occurrences b a 0 b.length 1).isEmpty)) st := (rfl)
theorem oIn_sign (c : Nat) (b : Str) (st : Store) : oIn false (.str ⟨#[c]⟩) (.str b) st = .ok (.bl (decide (c ∈ b.cps.toList))) st := by
  rw [oIn_str, if_neg Bool.false_ne_true, StrLaws.found_one]
/-- several targets that are names -/
def tuK (gs : List LG) (env : DEnv) (st : Store) (d : D) : RS := match d with
  | .tup ds => if ds.length = gs.length then gTs gs ds env st else .stuck
  | _ => .stuck
@[simp] theorem gTu_eq (gs : List LG) (d : D) (env : DEnv) (st : Store) : gTu gs d env st = tuK gs env st d := (rfl)
@[simp] theorem tuK_2 (g h : LG) (env : DEnv) (st : Store) (a b : D) : tuK [g, h] env st (.tup [a, b]) = gTs [g, h] [a, b] env st := (rfl)
@[simp] theorem tuK_3 (g h i : LG) (env : DEnv) (st : Store) (a b c : D) : tuK [g, h, i] env st (.tup [a, b, c]) = gTs [g, h, i] [a, b, c] env st := (rfl)
def tsK (gs : List LG) (ds : List D) (r : RS) : RS := match r with
  | .nx e s => gTs gs ds e s
  | r => r
@[simp] theorem gTs_cons (g : LG) (gs : List LG) (d : D) (ds : List D) (env : DEnv) (st : Store) : gTs (g :: gs) (d :: ds) env st = tsK gs ds (g d env st) := (rfl)
@[simp] theorem gTs_nil (env : DEnv) (st : Store) : gTs [] [] env st = .nx env st := (rfl)
@[simp] theorem tsK_nx (gs : List LG) (ds : List D) (e : DEnv) (s : Store) : tsK gs ds (.nx e s) = gTs gs ds e s := (rfl)
end Fk
/-! FkP: == of data, evaluated. -/
namespace Fk
open PySem PySem.Spec PyProof.Rows L2
mutual
/-- no cells in it, its texts are texts -/
def rdyD : D → Bool
  | .non | .bl _ | .int _ => true
  | .str s => PyData.strOk s
  | .tup xs | .lst xs | .lck xs => rdyDs xs
  | .ref _ => false
def rdyDs : List D → Bool
  | [] => true
  | x :: xs => rdyD x && rdyDs xs
end
mutual
def depD : D → Nat
  | .tup xs | .lst xs | .lck xs => depDs xs + 1
  | .non | .bl _ | .int _ | .str _ | .ref _ => 0
def depDs : List D → Nat
  | [] => 0
  | x :: xs => max (depD x) (depDs xs)
end
mutual
def eqD : D → D → Bool
  | .non, .non => true
  | .bl a, .bl b => a == b
  | .bl a, .int j => (if a then 1 else 0) == j
  | .int i, .bl b => i == (if b then 1 else 0)
  | .int i, .int j => i == j
  | .str x, .str y => x == y
  | .tup xs, .tup ys => eqDs xs ys
  | .lst xs, .lst ys => eqDs xs ys
  | .lst xs, .lck ys => eqDs xs ys
  | .lck xs, .lst ys => eqDs xs ys
  | .lck xs, .lck ys => eqDs xs ys
  | _, _ => false
def eqDs : List D → List D → Bool
  | [], [] => true
  | x :: xs, y :: ys => eqD x y && eqDs xs ys
  | _, _ => false
end
mutual
theorem rdy_py : ∀ d : D, rdyD d = true → ∃ y, D.py d = some y ∧ y.canLay0 = true ∧ y.depth = depD d
  | .non, _ => ⟨.none, by simp [D.py], by simp [PyData.canLay0], by simp [PyData.depth, depD]⟩
  | .bl b, _ => ⟨.bool b, by simp [D.py], by simp [PyData.canLay0], by simp [PyData.depth, depD]⟩
  | .int b, _ => ⟨.int b, by simp [D.py], by simp [PyData.canLay0], by simp [PyData.depth, depD]⟩
  | .str s, h => ⟨.str s, by simp [D.py], by simpa [PyData.canLay0, rdyD] using h, by simp [PyData.depth, depD]⟩
  | .tup xs, h => by
    obtain ⟨ys, h1, h2, h3⟩ := rdys_py xs (by simpa [rdyD] using h)
    exact ⟨.tuple ys, by simp [D.py, h1], by simpa [PyData.canLay0] using h2, by simp [PyData.depth, depD, h3]⟩
  | .lst xs, h => by
    obtain ⟨ys, h1, h2, h3⟩ := rdys_py xs (by simpa [rdyD] using h)
    exact ⟨.list ys, by simp [D.py, h1], by simpa [PyData.canLay0] using h2, by simp [PyData.depth, depD, h3]⟩
  | .lck xs, h => by
    obtain ⟨ys, h1, h2, h3⟩ := rdys_py xs (by simpa [rdyD] using h)
    exact ⟨.list ys, by simp [D.py, h1], by simpa [PyData.canLay0] using h2, by simp [PyData.depth, depD, h3]⟩
  | .ref _, h => by simp [rdyD] at h
theorem rdys_py : ∀ ds : List D, rdyDs ds = true → ∃ ys, D.pys ds = some ys ∧ PyData.canLayAll0 ys = true ∧ PyData.depthAll ys = depDs ds
  | [], _ => ⟨[], by simp [D.pys], by simp [PyData.canLayAll0], by simp [PyData.depthAll, depDs]⟩
  | x :: xs, h => by
    have h' : rdyD x = true ∧ rdyDs xs = true := by simpa [rdyDs] using h
    obtain ⟨y, h1, h2, h3⟩ := rdy_py x h'.1
    obtain ⟨ys, h4, h5, h6⟩ := rdys_py xs h'.2
    exact ⟨y :: ys, by simp [D.pys, h1, h4], by simp [PyData.canLayAll0, h2, h5], by simp [PyData.depthAll, depDs, h3, h6]⟩
end
mutual
theorem eqv_D : ∀ (d e : D) (a b : PyData), D.py d = some a → D.py e = some b → PyData.eqv a b = eqD d e
  | .non, e, a, b, h1, h2 => by
    cases e <;> simp [D.py] at h1 h2 <;> (try subst h1) <;> (try subst h2) <;> (try (obtain ⟨_, _, rfl⟩ := h2)) <;> simp [PyData.eqv, eqD]
  | .bl x, e, a, b, h1, h2 => by
    cases e <;> simp [D.py] at h1 h2 <;> (try subst h1) <;> (try subst h2) <;> (try (obtain ⟨_, _, rfl⟩ := h2)) <;> simp [PyData.eqv, eqD]
  | .int x, e, a, b, h1, h2 => by
    cases e <;> simp [D.py] at h1 h2 <;> (try subst h1) <;> (try subst h2) <;> (try (obtain ⟨_, _, rfl⟩ := h2)) <;> simp [PyData.eqv, eqD]
  | .str x, e, a, b, h1, h2 => by
    cases e <;> simp [D.py] at h1 h2 <;> (try subst h1) <;> (try subst h2) <;> (try (obtain ⟨_, _, rfl⟩ := h2)) <;> simp [PyData.eqv, eqD]
  | .tup xs, e, a, b, h1, h2 => by
    simp [D.py] at h1
    obtain ⟨as, h1, rfl⟩ := h1
    cases e <;> simp [D.py] at h2 <;> (try subst h2) <;> (try (obtain ⟨bs, h2, rfl⟩ := h2)) <;> simp [PyData.eqv, eqD]
    exact eqv_Ds xs _ as bs h1 h2
  | .lst xs, e, a, b, h1, h2 => by
    simp [D.py] at h1
    obtain ⟨as, h1, rfl⟩ := h1
    cases e <;> simp [D.py] at h2 <;> (try subst h2) <;> (try (obtain ⟨bs, h2, rfl⟩ := h2)) <;> simp [PyData.eqv, eqD] <;> exact eqv_Ds xs _ as bs h1 h2
  | .lck xs, e, a, b, h1, h2 => by
    simp [D.py] at h1
    obtain ⟨as, h1, rfl⟩ := h1
    cases e <;> simp [D.py] at h2 <;> (try subst h2) <;> (try (obtain ⟨bs, h2, rfl⟩ := h2)) <;> simp [PyData.eqv, eqD] <;> exact eqv_Ds xs _ as bs h1 h2
  | .ref _, e, a, b, h1, h2 => by simp [D.py] at h1
theorem eqv_Ds : ∀ (ds es : List D) (as bs : List PyData), D.pys ds = some as → D.pys es = some bs → PyData.eqvAll as bs = eqDs ds es
  | [], es, as, bs, h1, h2 => by
    simp [D.pys] at h1
    subst h1
    cases es with
    | nil =>
      simp [D.pys] at h2
      subst h2
      simp [PyData.eqvAll, eqDs]
    | cons e es =>
      rw [D.pys] at h2
      cases q1 : D.py e with
      | none => rw [q1] at h2; cases h2
      | some b =>
        cases q2 : D.pys es with
        | none => rw [q1, q2] at h2; cases h2
        | some bs' =>
          rw [q1, q2] at h2
          cases h2
          simp [PyData.eqvAll, eqDs]
  | d :: ds, es, as, bs, h1, h2 => by
    rw [D.pys] at h1
    cases p1 : D.py d with
    | none => rw [p1] at h1; cases h1
    | some a =>
      cases p2 : D.pys ds with
      | none => rw [p1, p2] at h1; cases h1
      | some as' =>
        rw [p1, p2] at h1
        cases h1
        cases es with
        | nil =>
          simp [D.pys] at h2
          subst h2
          simp [PyData.eqvAll, eqDs]
        | cons e es =>
          rw [D.pys] at h2
          cases q1 : D.py e with
          | none => rw [q1] at h2; cases h2
          | some b =>
            cases q2 : D.pys es with
            | none => rw [q1, q2] at h2; cases h2
            | some bs' =>
              rw [q1, q2] at h2
              cases h2
              simp [PyData.eqvAll, eqDs, eqv_D d e a b p1 q1, eqv_Ds ds es as' bs' p2 q2]
end
theorem topOf_rdy {d : D} (h : rdyD d = true) (st : Store) : topOf d st = d := by
  cases d with
  | ref k => simp [rdyD] at h
  | _ => rfl
theorem topOf_ref {k : Nat} {xs : List D} {st : Store} (h : st[k]? = some (.lst xs)) : topOf (.ref k) st = .lst xs := by
  show (match st[k]? with
    | some (.lst xs) => D.lst xs
    | _ => .ref k) = _
  rw [h]
theorem py2_of {d e d' e' : D} {st : Store} {g : PyData → PyData → Res D} (td : topOf d st = d') (te : topOf e st = e') (h1 : rdyD d' = true) (h2 : rdyD e' = true) (h3 : depD d' ≤ 64) (h4 : depD e' ≤ 64) : ∃ a b, PyData.eqv a b = eqD d' e' ∧ py2 d e st g = g a b := by
  obtain ⟨a, p1, p2, p3⟩ := rdy_py d' h1
  obtain ⟨b, q1, q2, q3⟩ := rdy_py e' h2
  have s1 : SeqAt.shaped a = true := by unfold SeqAt.shaped; simp [p2, p3, h3]
  have s2 : SeqAt.shaped b = true := by unfold SeqAt.shaped; simp [q2, q3, h4]
  refine ⟨a, b, eqv_D d' e' a b p1 q1, ?_⟩
  unfold py2
  rw [td, te, p1, q1]
  exact if_pos ⟨s1, s2⟩
theorem oEq_of {d e d' e' : D} {st : Store} (td : topOf d st = d') (te : topOf e st = e') (h1 : rdyD d' = true) (h2 : rdyD e' = true) (h3 : depD d' ≤ 64) (h4 : depD e' ≤ 64) : oEq d e st = .ok (.bl (eqD d' e')) st := by
  obtain ⟨a, b, h, k⟩ := py2_of (g := fun a b => .ok (.bl (PyData.eqv a b)) st) td te h1 h2 h3 h4
  unfold oEq
  rw [k, h]
theorem oNe_of {d e d' e' : D} {st : Store} (td : topOf d st = d') (te : topOf e st = e') (h1 : rdyD d' = true) (h2 : rdyD e' = true) (h3 : depD d' ≤ 64) (h4 : depD e' ≤ 64) : oNe d e st = .ok (.bl (!eqD d' e')) st := by
  obtain ⟨a, b, h, k⟩ := py2_of (g := fun a b => .ok (.bl (!PyData.eqv a b)) st) td te h1 h2 h3 h4
  unfold oNe
  rw [k, h]
theorem oEq_rdy {d e : D} {st : Store} (h1 : rdyD d = true) (h2 : rdyD e = true) (h3 : depD d ≤ 64) (h4 : depD e ≤ 64) : oEq d e st = .ok (.bl (eqD d e)) st := oEq_of (topOf_rdy h1 st) (topOf_rdy h2 st) h1 h2 h3 h4
theorem oNe_rdy {d e : D} {st : Store} (h1 : rdyD d = true) (h2 : rdyD e = true) (h3 : depD d ≤ 64) (h4 : depD e ≤ 64) : oNe d e st = .ok (.bl (!eqD d e)) st := oNe_of (topOf_rdy h1 st) (topOf_rdy h2 st) h1 h2 h3 h4
mutual
theorem eqD_refl : ∀ d : D, rdyD d = true → eqD d d = true
  | .non, _ => by simp [eqD]
  | .bl b, _ => by simp [eqD]
  | .int b, _ => by simp [eqD]
  | .str b, _ => by simp [eqD]
  | .tup xs, h => by simp only [eqD]; exact eqDs_refl xs (by simpa [rdyD] using h)
  | .lst xs, h => by simp only [eqD]; exact eqDs_refl xs (by simpa [rdyD] using h)
  | .lck xs, h => by simp only [eqD]; exact eqDs_refl xs (by simpa [rdyD] using h)
  | .ref _, h => by simp [rdyD] at h
theorem eqDs_refl : ∀ ds : List D, rdyDs ds = true → eqDs ds ds = true
  | [], _ => by simp [eqDs]
  | x :: xs, h => by
    have h' : rdyD x = true ∧ rdyDs xs = true := by simpa [rdyDs] using h
    simp [eqDs, eqD_refl x h'.1, eqDs_refl xs h'.2]
end
mutual
/-- no truths, no script in it -/
def clrD : D → Bool
  | .non | .int _ | .str _ => true
  | .tup xs | .lst xs => clrDs xs
  | .bl _ | .lck _ | .ref _ => false
def clrDs : List D → Bool
  | [] => true
  | x :: xs => clrD x && clrDs xs
end
mutual
theorem eqD_eq : ∀ d e : D, clrD d = true → clrD e = true → eqD d e = true → d = e
  | .non, e, _, h2, h => by cases e <;> simp_all [eqD, clrD]
  | .int _, e, _, h2, h => by cases e <;> simp_all [eqD, clrD]
  | .str _, e, _, h2, h => by cases e <;> simp_all [eqD, clrD]
  | .tup xs, e, h1, h2, h => by
    cases e <;> simp [eqD, clrD] at h1 h2 h
    rw [eqDs_eq xs _ h1 h2 h]
  | .lst xs, e, h1, h2, h => by
    cases e <;> simp [eqD, clrD] at h1 h2 h
    rw [eqDs_eq xs _ h1 h2 h]
  | .bl _, e, h1, _, _ => by simp [clrD] at h1
  | .lck _, e, h1, _, _ => by simp [clrD] at h1
  | .ref _, e, h1, _, _ => by simp [clrD] at h1
theorem eqDs_eq : ∀ ds es : List D, clrDs ds = true → clrDs es = true → eqDs ds es = true → ds = es
  | [], es, _, _, h => by cases es <;> simp_all [eqDs]
  | d :: ds, es, h1, h2, h => by
    cases es with
    | nil => simp [eqDs] at h
    | cons e es =>
      simp [eqDs, clrDs] at h h1 h2
      rw [eqD_eq d e h1.1 h2.1 h.1, eqDs_eq ds es h1.2 h2.2 h.2]
end
theorem eqD_iff {d e : D} (h1 : clrD d = true) (h2 : clrD e = true) (hr : rdyD d = true) : eqD d e = true ↔ d = e := ⟨eqD_eq d e h1 h2, fun h => h ▸ eqD_refl d hr⟩
/-! ### of known kinds -/
@[simp] theorem oEq_int (i j : Int) (st : Store) : oEq (.int i) (.int j) st = .ok (.bl (decide (i = j))) st := by
  rw [oEq_rdy (by simp [rdyD]) (by simp [rdyD]) (by simp [depD]) (by simp [depD])]
  simp [eqD]
  rfl
@[simp] theorem oNe_int (i j : Int) (st : Store) : oNe (.int i) (.int j) st = .ok (.bl (!decide (i = j))) st := by
  rw [oNe_rdy (by simp [rdyD]) (by simp [rdyD]) (by simp [depD]) (by simp [depD])]
  simp [eqD]
  rfl
@[simp] theorem oEq_bl (i j : Bool) (st : Store) : oEq (.bl i) (.bl j) st = .ok (.bl (i == j)) st := by
  rw [oEq_rdy (by simp [rdyD]) (by simp [rdyD]) (by simp [depD]) (by simp [depD])]
  simp [eqD]
@[simp] theorem oNe_bl (i j : Bool) (st : Store) : oNe (.bl i) (.bl j) st = .ok (.bl (!(i == j))) st := by
  rw [oNe_rdy (by simp [rdyD]) (by simp [rdyD]) (by simp [depD]) (by simp [depD])]
  simp [eqD]
theorem oEq_str {a b : Str} (ha : PyData.strOk a = true) (hb : PyData.strOk b = true) (st : Store) : oEq (.str a) (.str b) st = .ok (.bl (a == b)) st := by
  rw [oEq_rdy (by simp [rdyD, ha]) (by simp [rdyD, hb]) (by simp [depD]) (by simp [depD])]
  simp [eqD]
theorem oNe_str {a b : Str} (ha : PyData.strOk a = true) (hb : PyData.strOk b = true) (st : Store) : oNe (.str a) (.str b) st = .ok (.bl (!(a == b))) st := by
  rw [oNe_rdy (by simp [rdyD, ha]) (by simp [rdyD, hb]) (by simp [depD]) (by simp [depD])]
  simp [eqD]
/-- == [] -/
theorem oEq_nil {xs : List D} (h1 : rdyDs xs = true) (h2 : depDs xs ≤ 63) (st : Store) : oEq (.lst xs) (.lst []) st = .ok (.bl xs.isEmpty) st := by
  rw [oEq_rdy (by simpa [rdyD] using h1) (by simp [rdyD, rdyDs]) (by simp [depD]; omega) (by simp [depD, depDs])]
  cases xs <;> simp [eqD, eqDs]
theorem oEq_nilT {xs : List D} (h1 : rdyDs xs = true) (h2 : depDs xs ≤ 63) (st : Store) : oEq (.tup xs) (.tup []) st = .ok (.bl xs.isEmpty) st := by
  rw [oEq_rdy (by simpa [rdyD] using h1) (by simp [rdyD, rdyDs]) (by simp [depD]; omega) (by simp [depD, depDs])]
  cases xs <;> simp [eqD, eqDs]
@[simp] theorem oEq_nn (st : Store) : oEq (.lst []) (.lst []) st = .ok (.bl true) st := oEq_nil (by simp [rdyDs]) (by simp [depDs]) st
@[simp] theorem oEq_tt (st : Store) : oEq (.tup []) (.tup []) st = .ok (.bl true) st := oEq_nilT (by simp [rdyDs]) (by simp [depDs]) st
theorem rdyDs_all {xs : List D} : rdyDs xs = true ↔ ∀ x ∈ xs, rdyD x = true := by
  induction xs with
  | nil => simp [rdyDs]
  | cons x xs ih => simp [rdyDs, ih]
theorem depDs_le {xs : List D} {n : Nat} : depDs xs ≤ n ↔ ∀ x ∈ xs, depD x ≤ n := by
  induction xs with
  | nil => simp [depDs]
  | cons x xs ih => simp [depDs, ih, Nat.max_le]
theorem clrDs_all {xs : List D} : clrDs xs = true ↔ ∀ x ∈ xs, clrD x = true := by
  induction xs with
  | nil => simp [clrDs]
  | cons x xs ih => simp [clrDs, ih]
end Fk
open PySem PySem.Spec PyProof.Rows L2
namespace Fk
/-! ### the plain functions -/
noncomputable def b_l_start : LS := fSeq (fAsg (fC (.int 1)) (gN 1)) (fSeq (fFor (iA (fVar 0)) (gN 2) (fAsg (fOp oMod (fOp oAdd (fOp oAdd (fOp oMul (fVar 1) (fC (.int 48271))) (fVar 2)) (fC (.int 7))) (fC (.int 2147483647))) (gN 1))) (fRet (fLstC (fCons (fVar 0) (fCons (fC (.int 0)) (fCons (fVar 1) (fCons (fC (.int 0)) fNil)))))))
noncomputable abbrev m_l_start : FM := runB 3 b_l_start
noncomputable def b_l_drawn : LS := fSeq (fIfS (fTest (fOp oGt (fOp oIx (fVar 0) (fC (.int 3))) (fC (.int 0)))) (fSeq (fAsg (fOp oMod (fOp oIx (fVar 0) (fC (.int 3))) (fVar 1)) (gN 2)) (fSeq (fAsg (fOp oDiv (fOp oIx (fVar 0) (fC (.int 3))) (fVar 1)) (gSubL (fVar 0) (fC (.int 3)))) (fRet (fVar 2)))) (fNext)) (fSeq (fAsg (fOp oAdd (fOp oIx (fVar 0) (fC (.int 1))) (fC (.int 1))) (gSubL (fVar 0) (fC (.int 1)))) (fSeq (fIfS (fTest (fOp oLe (fOp oIx (fVar 0) (fC (.int 1))) (fCB oLen (fCons (fOp oIx (fVar 0) (fC (.int 0))) fNil)))) (fSeq (fAsg (fOp oIx (fOp oIx (fVar 0) (fC (.int 0))) (fOp oSub (fOp oIx (fVar 0) (fC (.int 1))) (fC (.int 1)))) (gN 3)) (fSeq (fAsg (fIf (fTest (fOp oGe (fVar 3) (fOp oPow (fC (.int 10)) (fC (.int 18))))) (fOp oDiv (fVar 3) (fVar 1)) (fC (.int 0))) (gSubL (fVar 0) (fC (.int 3)))) (fRet (fOp oMod (fVar 3) (fVar 1))))) (fNext)) (fSeq (fAsg (fOp oMod (fOp oAdd (fOp oMul (fOp oIx (fVar 0) (fC (.int 2))) (fC (.int 48271))) (fC (.int 11))) (fC (.int 2147483647))) (gSubL (fVar 0) (fC (.int 2)))) (fRet (fOp oMod (fOp oDiv (fOp oIx (fVar 0) (fC (.int 2))) (fC (.int 7))) (fVar 1))))))
noncomputable abbrev m_l_drawn : FM := runB 4 b_l_drawn
noncomputable def b_l_row : LS := fSeq (fAsg (fLstC fNil) (gN 2)) (fSeq (fFor (iR1 (fCons (fCall 2 m_l_drawn (fCons (fVar 0) (fCons (fVar 1) fNil))) fNil)) (gN 3) (fSeq (fPar 4 5 (fCons (fCall 2 m_l_drawn (fCons (fVar 0) (fCons (fC (.int 256)) fNil))) (fCons (fCall 2 m_l_drawn (fCons (fVar 0) (fCons (fOp oIx (fLst (fCons (fC (.int 10)) (fCons (fC (.int 1000000)) fNil))) (fCall 2 m_l_drawn (fCons (fVar 0) (fCons (fC (.int 2)) fNil)))) fNil))) fNil))) (fSeq (fAsg (fLst (fCons (fTup (fCons (fC (.str "put")) (fCons (fVar 4) (fCons (fVar 5) fNil)))) (fCons (fTup (fCons (fC (.str "flush")) (fCons (fVar 4) fNil))) (fCons (fTup (fCons (fC (.str "fence")) fNil)) (fCons (fTup (fCons (fC (.str "swear")) (fCons (fVar 4) (fCons (fVar 5) fNil)))) fNil))))) (gN 6)) (fDrop (fBM isL oApp (fVar 2) (fCons (fOp oIx (fVar 6) (fCall 2 m_l_drawn (fCons (fVar 0) (fCons (fC (.int 4)) fNil)))) fNil)))))) (fRet (fFz (fVar 2))))
noncomputable abbrev m_l_row : FM := runB 7 b_l_row
noncomputable def b_l_same (self : FM) : LS := fSeq (fIfS (fTest (fIsiT [.tup, .lst] (fVar 1))) (fSeq (fIfS ((fOr (fNot (fTest (fIsiT [.tup, .lst] (fVar 0)))) (fTest (fOp oNe (fIsi .lst (fVar 0)) (fIsi .lst (fVar 1)))))) (fRet (fC (.bl false))) (fNext)) (fSeq (fIfS (fTest (fOp oNe (fCB oLen (fCons (fVar 0) fNil)) (fCB oLen (fCons (fVar 1) fNil)))) (fRet (fC (.bl false))) (fNext)) (fRet (fOp oEq (fLc (iR1 (fCons (fCB oLen (fCons (fVar 1) fNil)) fNil)) (gN 3) ((fNot (fTest (fCall 2 (self) (fCons (fOp oIx (fVar 0) (fVar 3)) (fCons (fOp oIx (fVar 1) (fVar 3)) fNil)))))) (fVar 3) [3]) (fLst fNil))))) (fNext)) (fSeq (fAsg ((fAndV (fOp oEq (fIsi .bl (fVar 0)) (fIsi .bl (fVar 1))) (fOp oEq (fIsi .int (fVar 0)) (fIsi .int (fVar 1))))) (gN 2)) (fRet ((fAndV (fVar 2) (fOp oEq (fVar 0) (fVar 1))))))
noncomputable def m_l_same : Nat → FM
  | 0 => fun _ _ => .stuck
  | n + 1 => runB 4 (b_l_same (m_l_same n))
noncomputable def b_number_of : LS := fSeq (fIfS ((fOr (fNot (fTest (fChain oLe oLe (fC (.int 1)) (fCB oLen (fCons (fVar 0) fNil)) (fC (.int 6))))) (fNot (fTest (fCB oAll (fCons (fLc (iA (fVar 0)) (gN 1) (fYes) (fOp (oIn false) (fVar 1) (fC (.str "0123456789"))) [1]) fNil)))))) (fRet (fUn oNeg (fC (.int 1)))) (fNext)) (fRet (fIf ((fOr (fTest (fOp oEq (fVar 0) (fC (.str "0")))) (fTest (fOp oNe (fOp oIx (fVar 0) (fC (.int 0))) (fC (.str "0")))))) (fCB oInt (fCons (fVar 0) fNil)) (fUn oNeg (fC (.int 1)))))
noncomputable abbrev m_number_of : FM := runB 2 b_number_of
noncomputable def b_is_number : LS := fRet ((fAndV (fIsi .int (fVar 0)) (fAndV (fNotV (fIsi .bl (fVar 0))) (fChain oLe oLe (fVar 1) (fVar 0) (fVar 2)))))
noncomputable abbrev m_is_number : FM := runB 3 b_is_number
noncomputable def b_is_worth : LS := fRet (fCall 3 m_is_number (fCons (fVar 0) (fCons (fC (.int 0)) (fCons (fC (.int 999999)) fNil))))
noncomputable abbrev m_is_worth : FM := runB 1 b_is_worth
noncomputable def b_is_deed : LS := fSeq (fIfS ((fOr (fNot (fTest (fIsi .tup (fVar 0)))) (fOr (fTest (fOp oEq (fVar 0) (fTup fNil))) (fNot (fTest (fIsi .str (fOp oIx (fVar 0) (fC (.int 0))))))))) (fRet (fC (.bl false))) (fNext)) (fSeq (fAsg (fVar 0) (gSt (gN 2) (gN 3))) (fSeq (fIfS (fTest (fOp oNe (fGetI [("put", 3), ("flush", 2), ("fence", 1), ("swear", 3)] (fVar 2) 0) (fCB oLen (fCons (fVar 0) fNil)))) (fRet (fC (.bl false))) (fNext)) (fRet ((fOrV (fOp oEq (fVar 3) (fLst fNil)) ((fAndV (fCall 3 m_is_number (fCons (fOp oIx (fVar 3) (fC (.int 0))) (fCons (fC (.int 0)) (fCons (fOp oSub (fVar 1) (fC (.int 1))) fNil)))) ((fOrV (fOp oEq (fCB oLen (fCons (fVar 3) fNil)) (fC (.int 1))) (fCall 1 m_is_worth (fCons (fOp oIx (fVar 3) (fC (.int 1))) fNil)))))))))))
noncomputable abbrev m_is_deed : FM := runB 4 b_is_deed
noncomputable def b_read : LS := fSeq (fAsg (fLstC fNil) (gN 1)) (fSeq (fFor (iEn (fCons (fIf (fTest (fOp oNe (fVar 0) (fC (.str "")))) (fBM isS oSplit (fVar 0) (fCons (fC (.str "\n")) fNil)) (fLst fNil)) fNil)) (gTu [gN 2, gN 3]) (fSeq (fAsg (fBM isS oSplit (fVar 3) (fCons (fC (.str " ")) fNil)) (gSt (gN 4) (gN 5))) (fSeq (fAsg (fCB oTupOf (fCons (fOp oAdd (fLst (fCons (fVar 4) fNil)) (fLc (iA (fVar 5)) (gN 7) (fYes) (fCall 1 m_number_of (fCons (fVar 7) fNil)) [7])) fNil)) (gN 6)) (fSeq (fIfS ((fOr (fTest (fOp oEq (fVar 2) (fC (.int 300)))) (fNot (fTest (fCall 2 m_is_deed (fCons (fVar 6) (fCons (fC (.int 256)) fNil))))))) (fStuck) (fNext)) (fDrop (fBM isL oApp (fVar 1) (fCons (fVar 6) fNil))))))) (fRet (fFz (fVar 1))))
noncomputable abbrev m_read : FM := runB 8 b_read
noncomputable def b_written : LS := fRet (fBM isS oJoin (fC (.str "\n")) (fCons (fLc (iA (fVar 0)) (gN 1) (fYes) (fBM isS oJoin (fC (.str " ")) (fCons (fLc (iA (fVar 1)) (gN 2) (fYes) (fCB oStr (fCons (fVar 2) fNil)) [2]) fNil)) [1]) fNil))
noncomputable abbrev m_written : FM := runB 3 b_written
noncomputable def b_law : LS := fSeq (fAsg (fCall 1 m_l_start (fCons (fVar 0) fNil)) (gN 1)) (fSeq (fFor (iR1 (fCons (fC (.int 6)) fNil)) (gN 2) (fSeq (fAsg (fCall 2 m_l_row (fCons (fVar 1) (fCons (fOp oIx (fLst (fCons (fC (.int 41)) (fCons (fC (.int 301)) fNil))) (fOp oDiv (fCall 2 m_l_drawn (fCons (fVar 1) (fCons (fC (.int 6)) fNil))) (fC (.int 5)))) fNil))) (gN 3)) (fSeq (fAsg (fBM isS oJoin (fC (.str "\n")) (fCons (fLc (iA (fVar 3)) (gN 5) (fYes) (fBM isS oJoin (fC (.str " ")) (fCons (fLc (iA (fVar 5)) (gN 6) (fYes) (fCB oStr (fCons (fVar 6) fNil)) [6]) fNil)) [5]) fNil)) (gN 4)) (fSeq (fIfS ((fOr (fNot (fTest (fCall 2 (m_l_same 6) (fCons (fCall 1 m_written (fCons (fVar 3) fNil)) (fCons (fVar 4) fNil))))) (fNot (fTest (fCall 2 (m_l_same 6) (fCons (fCall 1 m_read (fCons (fVar 4) fNil)) (fCons (fVar 3) fNil))))))) (fRet (fC (.bl false))) (fNext)) (fIfS ((fOr (fTest (fOp oNe (fCall 1 m_read (fCons (fCall 1 m_written (fCons (fVar 3) fNil)) fNil)) (fVar 3))) (fTest (fOp oNe (fCall 1 m_written (fCons (fCall 1 m_read (fCons (fVar 4) fNil)) fNil)) (fVar 4))))) (fRet (fC (.bl false))) (fNext)))))) (fRet (fC (.bl true))))
noncomputable abbrev m_law : FM := runB 7 b_law
end Fk
namespace Fk
/-! ### the draws -/
/-- the state of the draws stands at k -/
def Stt (ns : List Int) (st : Store) (k : Nat) : Prop := ∃ (at_ : Nat) (mixed rest : Int), st[k]? = some (.lst [.lck (ns.map D.int), .int at_, .int mixed, .int rest])
/-- all but k is as it was; there may be more -/
def Keeps (k : Nat) (st st' : Store) : Prop := st.length ≤ st'.length ∧ ∀ j, j < st.length → j ≠ k → st'[j]? = st[j]?
theorem Keeps.refl (k : Nat) (st : Store) : Keeps k st st := ⟨Nat.le_refl _, fun _ _ _ => rfl⟩
theorem Keeps.trans {k : Nat} {a b c : Store} (x : Keeps k a b) (y : Keeps k b c) : Keeps k a c := ⟨Nat.le_trans x.1 y.1, fun j h n => (y.2 j (Nat.lt_of_lt_of_le h x.1) n).trans (x.2 j h n)⟩
theorem Keeps.set {k : Nat} {st : Store} (c : Cell) : Keeps k st (st.set k c) := ⟨by simp, fun j _ h => List.getElem?_set_ne h.symm⟩
theorem Keeps.app {k : Nat} {st : Store} (c : Cell) : Keeps k st (st ++ [c]) := ⟨by simp, fun j h _ => List.getElem?_append_left h⟩
theorem Keeps.at_ {k j : Nat} {st st' : Store} {c : Cell} (x : Keeps k st st') (h : st[j]? = some c) (n : j ≠ k) : st'[j]? = some c := (x.2 j (List.getElem?_eq_some_iff.mp h).1 n).trans h
/-- a cell that was not there at first may be put -/
theorem Keeps.setNew {k f : Nat} {st st' : Store} (x : Keeps k st st') (hf : st.length ≤ f) (c : Cell) : Keeps k st (st'.set f c) := ⟨by simpa using x.1, fun j h n => by
  rw [List.getElem?_set_ne (by omega)]
  exact x.2 j h n⟩
theorem set_at {st : Store} {k : Nat} {c c' : Cell} (h : st[k]? = some c) : (st.set k c')[k]? = some c' := List.getElem?_set_self (List.getElem?_eq_some_iff.mp h).1
theorem drawn_spec {ns : List Int} {st : Store} {k : Nat} (S : Stt ns st k) {many : Int} (h0 : 0 < many) (h1 : many < 1073741824) :
    ∃ v st', m_l_drawn [.ref k, .int many] st = .ok (.int v) st' ∧ 0 ≤ v ∧ v < many ∧ Stt ns st' k ∧ Keeps k st st' := by
  obtain ⟨at_, mixed, rest, hs⟩ := S
  have hd : (decide (0 < many ∧ many < 1073741824)) = true := decide_eq_true ⟨h0, h1⟩
  have hm : (decide (0 < many)) = true := decide_eq_true h0
  have rd : ∀ xs i, oIx (.ref k) (.int i) (st.set k (.lst xs)) = pickD (atI xs i) (st.set k (.lst xs)) := fun xs i => oIx_ref (set_at hs) i
  have wr0 : ∀ v env, gSubK2 v env (.ref k) (.int 3) st = .nx env (st.set k (.lst [.lck (ns.map D.int), .int at_, .int mixed, v])) := fun v env => gSubK2_ref hs (j := 3) rfl (by simp) v env
  have wr1 : ∀ v env, gSubK2 v env (.ref k) (.int 1) st = .nx env (st.set k (.lst [.lck (ns.map D.int), v, .int mixed, .int rest])) := fun v env => gSubK2_ref hs (j := 1) rfl (by simp) v env
  have wr2 : ∀ a b c d v env, gSubK2 v env (.ref k) (.int 2) (st.set k (.lst [a, b, c, d])) = .nx env (st.set k (.lst [a, b, v, d])) := fun a b c d v env => (gSubK2_ref (set_at hs) (j := 2) rfl (by simp) v env).trans (by rw [List.set_set]; rfl)
  have wr3 : ∀ a b c d v env, gSubK2 v env (.ref k) (.int 3) (st.set k (.lst [a, b, c, d])) = .nx env (st.set k (.lst [a, b, c, v])) := fun a b c d v env => (gSubK2_ref (set_at hs) (j := 3) rfl (by simp) v env).trans (by rw [List.set_set]; rfl)
  have e0 : ∀ x : Int, 0 ≤ x % many := fun x => Int.emod_nonneg _ (by omega)
  have e1 : ∀ x : Int, x % many < many := fun x => Int.emod_lt_of_pos _ h0
  have fin : ∀ (a : Nat) (m r : Int), Stt ns (st.set k (.lst [.lck (ns.map D.int), .int a, .int m, .int r])) k ∧ Keeps k st (st.set k (.lst [.lck (ns.map D.int), .int a, .int m, .int r])) := fun a m r => ⟨⟨a, m, r, set_at hs⟩, Keeps.set _⟩
  have hw : ∀ i : Int, cMul i 48271 = true := fun i => cMul_r (by decide)
  have hp : (10 : Int) ^ (18 : Int).toNat = 1000000000000000000 := by decide
  unfold m_l_drawn
  rw [runB_eq]
  unfold b_l_drawn
  by_cases c : 0 < rest
  · exact ⟨rest % many, _, by simp [hs, oIx_ref hs, c, hd, hm, h0, h1, wr0], e0 _, e1 _, fin at_ mixed (rest / many)⟩
  by_cases c2 : (at_ : Int) + 1 ≤ ns.length
  · obtain ⟨x, hx⟩ : ∃ x, ns[at_]? = some x := ⟨ns[at_]'(by omega), List.getElem?_eq_getElem _⟩
    have hx2 : atI (ns.map D.int) (at_ : Int) = some (D.int x) := by
      rw [atI_nat (by rw [List.length_map]; omega), List.getElem?_map, hx]
      rfl
    have ea : (at_ : Int) + 1 - 1 = at_ := by omega
    have en : (at_ : Int) + 1 = ((at_ + 1 : Nat) : Int) := rfl
    by_cases c3 : 1000000000000000000 ≤ x
    · exact ⟨x % many, _, by simp [hs, oIx_ref hs, c, hd, hm, h0, h1, wr1, wr3, rd, c2, hx2, ea, c3, hp], e0 _, e1 _, fin (at_ + 1) mixed (x / many)⟩
    · exact ⟨x % many, _, by simp [hs, oIx_ref hs, c, hd, hm, h0, h1, wr1, wr3, rd, c2, hx2, ea, c3, hp], e0 _, e1 _, fin (at_ + 1) mixed 0⟩
  · exact ⟨(mixed * 48271 + 11) % 2147483647 / 7 % many, _, by simp [hs, oIx_ref hs, c, hd, hm, h0, h1, wr1, wr2, rd, c2, hw], e0 _, e1 _, fin (at_ + 1) ((mixed * 48271 + 11) % 2147483647) rest⟩
theorem start_spec (ns : List Int) (st : Store) : ∃ mixed : Int, m_l_start [.lck (ns.map D.int)] st = .ok (.ref st.length) (st ++ [.lst [.lck (ns.map D.int), .int (0 : Nat), .int mixed, .int 0]]) := by
  have hw : ∀ i : Int, cMul i 48271 = true := fun i => cMul_r (by decide)
  obtain ⟨e, s, h1, m, rfl, o, he⟩ := forRun_inv (g := gT) (lg := gN 2) (body := fAsg (fOp oMod (fOp oAdd (fOp oAdd (fOp oMul (fVar 1) (fC (.int 48271))) (fVar 2)) (fC (.int 7))) (fC (.int 2147483647))) (gN 1)) (items := ns.map D.int)
    (fun _ e s => ∃ m : Int, s = st ∧ ∃ o, e = [some (.lck (ns.map D.int)), some (.int m), o]) (fun _ _ _ _ => rfl)
    (fun i d e s hd ⟨m, hs, o, he⟩ => by
      rw [List.getElem?_map] at hd
      cases q : ns[i]? with
      | none => rw [q] at hd; cases hd
      | some x =>
        rw [q] at hd
        cases hd
        subst hs he
        refine ⟨_, _, _, _, rfl, .inl (by simp [hw]; exact ⟨rfl, rfl⟩), _, rfl, _, rfl⟩) (env := [some (.lck (ns.map D.int)), some (.int 1), none]) (st := st) ⟨1, rfl, none, rfl⟩
  subst he
  refine ⟨m, ?_⟩
  unfold m_l_start
  rw [runB_eq]
  unfold b_l_start
  simp [h1]
theorem Stt.lt {ns : List Int} {st : Store} {k : Nat} (S : Stt ns st k) : k < st.length := by
  obtain ⟨_, _, _, h⟩ := S
  exact (List.getElem?_eq_some_iff.mp h).1
theorem Stt.app {ns : List Int} {st : Store} {k : Nat} (S : Stt ns st k) (c : Cell) : Stt ns (st ++ [c]) k := by
  have hl := S.lt
  obtain ⟨a, b, d, h⟩ := S
  exact ⟨a, b, d, by rw [List.getElem?_append_left hl]; exact h⟩
theorem Stt.set {ns : List Int} {st : Store} {k f : Nat} (S : Stt ns st k) (h : f ≠ k) (c : Cell) : Stt ns (st.set f c) k := by
  obtain ⟨a, b, d, e⟩ := S
  exact ⟨a, b, d, by rw [List.getElem?_set_ne h]; exact e⟩
/-! ### what is told and what is due, the same -/
mutual
/-- what a thing looks like, cells seen through -/
inductive Sees (st : Store) : D → D → Prop
  | non : Sees st .non .non
  | bl (b : Bool) : Sees st (.bl b) (.bl b)
  | int (b : Int) : Sees st (.int b) (.int b)
  | str (b : Str) : Sees st (.str b) (.str b)
  | tup {xs ys : List D} : Seess st xs ys → Sees st (.tup xs) (.tup ys)
  | lst {xs ys : List D} : Seess st xs ys → Sees st (.lst xs) (.lst ys)
  | lck {xs ys : List D} : Seess st xs ys → Sees st (.lck xs) (.lst ys)
  | ref {k : Nat} {xs ys : List D} : st[k]? = some (.lst xs) → Seess st xs ys → Sees st (.ref k) (.lst ys)
inductive Seess (st : Store) : List D → List D → Prop
  | nil : Seess st [] []
  | cons {x y : D} {xs ys : List D} : Sees st x y → Seess st xs ys → Seess st (x :: xs) (y :: ys)
end
theorem Seess.length {st : Store} : ∀ {xs ys : List D}, Seess st xs ys → xs.length = ys.length
  | _, _, .nil => rfl
  | _, _, .cons _ r => congrArg Nat.succ r.length
theorem Seess.get {st : Store} : ∀ {xs ys : List D} {i : Nat}, Seess st xs ys → i < ys.length → ∃ x y, xs[i]? = some x ∧ ys[i]? = some y ∧ Sees st x y
  | _, _, i, .nil, h => absurd h (Nat.not_lt_zero _)
  | _, _, 0, .cons h _, _ => ⟨_, _, rfl, rfl, h⟩
  | _, _, i + 1, .cons _ r, h => by
    obtain ⟨x, y, h1, h2, h3⟩ := r.get (i := i) (by simpa using h)
    exact ⟨x, y, by simpa using h1, by simpa using h2, h3⟩
mutual
theorem sees_self {st : Store} : ∀ d : D, clrD d = true → Sees st d d
  | .non, _ => .non
  | .int b, _ => .int b
  | .str b, _ => .str b
  | .tup xs, h => .tup (seess_self xs (by simpa [clrD] using h))
  | .lst xs, h => .lst (seess_self xs (by simpa [clrD] using h))
  | .bl _, h => by simp [clrD] at h
  | .lck _, h => by simp [clrD] at h
  | .ref _, h => by simp [clrD] at h
theorem seess_self {st : Store} : ∀ ds : List D, clrDs ds = true → Seess st ds ds
  | [], _ => .nil
  | x :: xs, h => by
    have h' : clrD x = true ∧ clrDs xs = true := by simpa [clrDs] using h
    exact .cons (sees_self x h'.1) (seess_self xs h'.2)
end
mutual
/-- its lists are not too long -/
def lenD : D → Prop
  | .tup xs | .lst xs | .lck xs => xs.length ≤ 1000000 ∧ lenDs xs
  | .non | .bl _ | .int _ | .str _ | .ref _ => True
def lenDs : List D → Prop
  | [] => True
  | x :: xs => lenD x ∧ lenDs xs
end
theorem lenDs_all {xs : List D} : lenDs xs ↔ ∀ x ∈ xs, lenD x := by
  induction xs with
  | nil => simp [lenDs]
  | cons x xs ih => simp [lenDs, ih]
def isLst : D → Bool
  | .lst _ => true
  | _ => false
/-- a list or tuple: what is read of it -/
theorem sees_seq {st : Store} {a x : D} {ys : List D} (h : Sees st a x) (hx : x = .tup ys ∨ x = .lst ys) : ∃ xs, Seess st xs ys ∧ oLen [a] st = .ok (.int ys.length) st ∧ (∀ i, oIx a (.int i) st = pickD (atI xs i) st) ∧ kIsiT [.tup, .lst] a st = .ok (.bl true) st ∧
    kIsi .lst a st = .ok (.bl (isLst x)) st := by
  cases h with
  | tup r =>
    rcases hx with hx | hx <;> cases hx
    exact ⟨_, r, by rw [oLen_tup, r.length], fun i => oIx_tup _ _ _, rfl, rfl⟩
  | lst r =>
    rcases hx with hx | hx <;> cases hx
    exact ⟨_, r, by rw [oLen_lst, r.length], fun i => oIx_lst _ _ _, rfl, rfl⟩
  | lck r =>
    rcases hx with hx | hx <;> cases hx
    exact ⟨_, r, by rw [oLen_lck, r.length], fun i => oIx_lck _ _ _, rfl, rfl⟩
  | @ref k _ _ hk r =>
    rcases hx with hx | hx <;> cases hx
    have e : kdOf (.ref k) st = some .lst := by
      show (match rdOf (.ref k) st with | some _ => some Kd.lst | none => none) = _
      rw [rdOf_ref hk]
    exact ⟨_, r, by rw [oLen_ref hk, r.length], fun i => oIx_ref hk i, kIsiT_of e, kIsi_of e⟩
  | _ => rcases hx with hx | hx <;> cases hx
theorem same_seq {st : Store} {f : FM} {a b x : D} {ys : List D} (ha : Sees st a x) (hb : Sees st b x) (hx : x = .tup ys ∨ x = .lst ys) (hl : ys.length ≤ 1000000)
    (ih : ∀ (i : Nat) (u v y : D), ys[i]? = some y → Sees st u y → Sees st v y → f [u, v] st = .ok (.bl true) st) : runB 4 (b_l_same f) [a, b] st = .ok (.bl true) st := by
  obtain ⟨as, ra, la, xa, ta, ka⟩ := sees_seq ha hx
  obtain ⟨bs, rb, lb, xb, tb, kb⟩ := sees_seq hb hx
  have hlc : ∀ env : DEnv, env[0]? = some (some a) → env[1]? = some (some b) → env.length = 4 → lcRun gT (gN 3) (fNot (fTest (fCall 2 f (fCons (fOp oIx (fVar 0) (fVar 3)) (fCons (fOp oIx (fVar 1) (fVar 3)) fNil))))) (fVar 3) env (rgD 0 1 ys.length) st = .ok [] st := fun env e0 e1 el => by
    have := lcRun_pure (g := gT) (lg := gN 3) (ft := fNot (fTest (fCall 2 f (fCons (fOp oIx (fVar 0) (fVar 3)) (fCons (fOp oIx (fVar 1) (fVar 3)) fNil))))) (fe := fVar 3) (envw := env) (st := st) rfl (items := rgD 0 1 ys.length) (fun _ => false) id fun d hd => by
      obtain ⟨i, hi⟩ := List.getElem?_of_mem hd
      obtain ⟨hlt, rfl⟩ := rgD_get hi
      obtain ⟨u, y, hu, hy, su⟩ := ra.get hlt
      obtain ⟨v, y', hv, hy', sv⟩ := rb.get hlt
      rw [hy] at hy'
      cases hy'
      have ez : (0 : Int) + (i : Nat) * 1 = (i : Nat) := by omega
      refine ⟨_, rfl, ?_, (by intro h; cases h)⟩
      have a0 : (env.set 3 (some (.int (0 + (i : Nat) * 1))))[0]? = some (some a) := by rw [List.getElem?_set_ne (by decide), e0]
      have a1 : (env.set 3 (some (.int (0 + (i : Nat) * 1))))[1]? = some (some b) := by rw [List.getElem?_set_ne (by decide), e1]
      have a3 : (env.set 3 (some (.int (0 + (i : Nat) * 1))))[3]? = some (some (.int (i : Nat))) := by rw [List.getElem?_set_self (by omega), ez]
      have i1 : atI as (i : Int) = some u := by rw [atI_nat (by rw [ra.length]; exact hlt), hu]
      have i2 : atI bs (i : Int) = some v := by rw [atI_nat (by rw [rb.length]; exact hlt), hv]
      have hf := ih i u v y hy su sv
      simp only [fNot_eq, fTest_eq, fCall_eq, fCons_eq, fOp_eq, fVar_eq, a0, a1, a3, atV_some, Res.bind_at, kOp1_eq, xa, xb, i1, i2, pickD_some, kCons1_eq, fNil_eq, kCons2_eq, kCall_2, hf, kTest_bl, kNot_eq, Bool.not_true]
    rw [this, List.filter_eq_nil_iff.mpr (fun _ _ => Bool.false_ne_true)]
    rfl
  have hr := kR1_of (j := (ys.length : Int)) (by omega) st
  have hz : oEq (.lst []) (.lst []) st = .ok (.bl true) st := oEq_nil (by simp [rdyDs]) (by simp [depDs]) st
  have hlc2 : ∀ env : DEnv, env[0]? = some (some a) → env[1]? = some (some b) → env.length = 4 → kLc (gN 3) (fNot (fTest (fCall 2 f (fCons (fOp oIx (fVar 0) (fVar 3)) (fCons (fOp oIx (fVar 1) (fVar 3)) fNil))))) (fVar 3) env (rgD 0 1 ys.length, gT) st = .ok (.lst []) st := fun env e0 e1 el => kLc_of (ys := []) (hlc env e0 e1 el) (Nat.zero_le _)
  rw [runB_eq]
  unfold b_l_same
  simp [ta, tb, ka, kb, la, lb, hr, hlc2, hz]
theorem same_sees : ∀ (n : Nat) {st : Store} {a b x : D}, Sees st a x → Sees st b x → rdyD x = true → lenD x → depD x < n → m_l_same n [a, b] st = .ok (.bl true) st
  | 0, _, _, _, _, _, _, _, _, h => absurd h (Nat.not_lt_zero _)
  | n + 1, st, a, b, x, ha, hb, hr, hl, hd => by
    show runB 4 (b_l_same (m_l_same n)) [a, b] st = _
    have seq : ∀ ys, (x = .tup ys ∨ x = .lst ys) → runB 4 (b_l_same (m_l_same n)) [a, b] st = .ok (.bl true) st := fun ys hx => by
      have h1 : rdyDs ys = true := by rcases hx with hx | hx <;> (rw [hx] at hr; simpa [rdyD] using hr)
      have h2 : ys.length ≤ 1000000 ∧ lenDs ys := by rcases hx with hx | hx <;> (rw [hx] at hl; simpa [lenD] using hl)
      have h3 : depDs ys < n := by rcases hx with hx | hx <;> (rw [hx] at hd; simp [depD] at hd; exact hd)
      refine same_seq ha hb hx h2.1 fun i u v y hy su sv => ?_
      have hm := List.mem_of_getElem? hy
      exact same_sees n su sv (rdyDs_all.mp h1 y hm) (lenDs_all.mp h2.2 y hm) (Nat.lt_of_le_of_lt (depDs_le.mp (Nat.le_refl _) y hm) h3)
    have one : oEq x x st = .ok (.bl true) st → a = x → b = x → (∀ k, kIsiT [.tup, .lst] x st = .ok (.bl k) st → k = false) → (∃ k, kIsiT [.tup, .lst] x st = .ok (.bl k) st) → (∃ k, kIsi .bl x st = .ok (.bl k) st) → (∃ k, kIsi .int x st = .ok (.bl k) st) → runB 4 (b_l_same (m_l_same n)) [a, b] st = .ok (.bl true) st := fun he ea eb h0 ⟨k0, h1⟩ ⟨k1, h2⟩ ⟨k2, h3⟩ => by
      subst ea
      subst eb
      have := h0 _ h1
      subst this
      rw [runB_eq]
      unfold b_l_same
      simp [h1, h2, h3, he]
    cases x with
    | tup ys => exact seq ys (.inl rfl)
    | lst ys => exact seq ys (.inr rfl)
    | non =>
      cases ha; cases hb
      exact one (by rw [oEq_rdy (by simp [rdyD]) (by simp [rdyD]) (by simp [depD]) (by simp [depD])]; simp [eqD]) rfl rfl (fun k h => by simp at h; exact h) ⟨_, rfl⟩ ⟨_, rfl⟩ ⟨_, rfl⟩
    | bl c =>
      cases ha; cases hb
      exact one (by simp) rfl rfl (fun k h => by simp at h; exact h) ⟨_, rfl⟩ ⟨_, rfl⟩ ⟨_, rfl⟩
    | int c =>
      cases ha; cases hb
      exact one (by simp) rfl rfl (fun k h => by simp at h; exact h) ⟨_, rfl⟩ ⟨_, rfl⟩ ⟨_, rfl⟩
    | str c =>
      cases ha; cases hb
      exact one (by rw [oEq_str (by simpa [rdyD] using hr) (by simpa [rdyD] using hr)]; simp) rfl rfl (fun k h => by simp at h; exact h) ⟨_, rfl⟩ ⟨_, rfl⟩ ⟨_, rfl⟩
    | lck _ => cases ha
    | ref _ => cases ha
/-! ### texts that are joined and split -/
/-- joined with one sign -/
def jn (c : Nat) : List (List Nat) → List Nat
  | [] => []
  | [x] => x
  | x :: y :: r => x ++ c :: jn c (y :: r)
theorem jn_cons {c : Nat} {x : List Nat} {l : List (List Nat)} (h : l ≠ []) : jn c (x :: l) = x ++ c :: jn c l := by
  cases l with
  | nil => exact absurd rfl h
  | cons y r => rfl
theorem join_cps (c : Nat) : ∀ ps : List Str, (Str.join ⟨#[c]⟩ ps).cps.toList = jn c (ps.map fun p => p.cps.toList)
  | [] => rfl
  | [x] => rfl
  | x :: y :: r => by
    have ih := join_cps c (y :: r)
    show (x ++ (⟨#[c]⟩ : Str) ++ Str.join ⟨#[c]⟩ (y :: r)).cps.toList = _
    rw [Str.cps_append, Str.cps_append, Array.toList_append, Array.toList_append, ih]
    simp [jn]
theorem cut_one {c : Nat} : ∀ {a b u v : List Nat}, c ∉ a → c ∉ b → a ++ c :: u = b ++ c :: v → a = b ∧ u = v
  | [], [], u, v, _, _, h => by simpa using h
  | [], y :: b, u, v, _, h2, h => by
    have e := (List.cons.inj h).1
    exact absurd (by rw [e]; exact List.mem_cons_self) h2
  | x :: a, [], u, v, h1, _, h => by
    have e := (List.cons.inj h).1
    exact absurd (by rw [← e]; exact List.mem_cons_self) h1
  | x :: a, y :: b, u, v, h1, h2, h => by
    obtain ⟨e1, e2⟩ := List.cons.inj h
    obtain ⟨e3, e4⟩ := cut_one (fun z => h1 (List.mem_cons_of_mem _ z)) (fun z => h2 (List.mem_cons_of_mem _ z)) e2
    rw [e1, e3]
    exact ⟨rfl, e4⟩
theorem jn_inj {c : Nat} : ∀ {a b : List (List Nat)}, a ≠ [] → b ≠ [] → (∀ p ∈ a, c ∉ p) → (∀ p ∈ b, c ∉ p) → jn c a = jn c b → a = b
  | [], _, h, _, _, _, _ => absurd rfl h
  | _, [], _, h, _, _, _ => absurd rfl h
  | [x], [y], _, _, _, _, h => by
    have e : x = y := h
    rw [e]
  | [x], y :: z :: r, _, _, h1, h2, h => by
    have e : x = y ++ c :: jn c (z :: r) := h
    exact absurd (by rw [e]; simp) (h1 x List.mem_cons_self)
  | x :: z :: r, [y], _, _, h1, h2, h => by
    have e : x ++ c :: jn c (z :: r) = y := h
    exact absurd (by rw [← e]; simp) (h2 y List.mem_cons_self)
  | x :: z :: r, y :: w :: q, _, _, h1, h2, h => by
    have e : x ++ c :: jn c (z :: r) = y ++ c :: jn c (w :: q) := h
    obtain ⟨e1, e2⟩ := cut_one (h1 x List.mem_cons_self) (h2 y List.mem_cons_self) e
    rw [e1, jn_inj (by simp) (by simp) (fun p hp => h1 p (List.mem_cons_of_mem _ hp)) (fun p hp => h2 p (List.mem_cons_of_mem _ hp)) e2]
theorem cps_inj {a b : Str} (h : a.cps.toList = b.cps.toList) : a = b := by
  cases a
  cases b
  have := Array.toList_inj.mp h
  rw [Str.mk.injEq]
  exact this
theorem map_cps_inj : ∀ {a b : List Str}, (a.map fun p => p.cps.toList) = (b.map fun p => p.cps.toList) → a = b
  | [], [], _ => rfl
  | [], _ :: _, h => by cases h
  | _ :: _, [], h => by cases h
  | x :: a, y :: b, h => by
    obtain ⟨e1, e2⟩ := List.cons.inj h
    rw [cps_inj e1, map_cps_inj e2]
/-- split at a sign what was joined with it -/
theorem split_join {c : Nat} {ps : List Str} (hne : ps ≠ []) (hf : ∀ p ∈ ps, c ∉ p.cps.toList) : Txt.split (Txt.join ⟨#[c]⟩ ps) ⟨#[c]⟩ = ps := by
  have h1 := StrLaws.join_split (Txt.join ⟨#[c]⟩ ps) ⟨#[c]⟩
  have h2 := StrLaws.split_free (Txt.join ⟨#[c]⟩ ps) c
  have h3 : Txt.join ⟨#[c]⟩ ps = Str.join ⟨#[c]⟩ ps := StrLaws.glued_eq_join _ _
  have h4 : Txt.split (Txt.join ⟨#[c]⟩ ps) ⟨#[c]⟩ ≠ [] := fun z => by
    have := PyProof.Rows.split_pos (Txt.join ⟨#[c]⟩ ps) ⟨#[c]⟩
    rw [z] at this
    exact absurd this (by decide)
  refine map_cps_inj (jn_inj (c := c) (by simpa using h4) (by simpa using hne) (fun p hp => ?_) (fun p hp => ?_) ?_)
  · obtain ⟨q, hq, rfl⟩ := List.mem_map.mp hp
    exact h2 q hq
  · obtain ⟨q, hq, rfl⟩ := List.mem_map.mp hp
    exact hf q hq
  · have h5 := congrArg (fun z : Str => z.cps.toList) (h1.trans h3)
    rw [join_cps, join_cps] at h5
    exact h5
/-- a split of any text, by its pieces -/
theorem split_sp (c : Nat) (x : Str) : Txt.split x ⟨#[c]⟩ ≠ [] ∧ (∀ p ∈ Txt.split x ⟨#[c]⟩, c ∉ p.cps.toList) ∧ Txt.join ⟨#[c]⟩ (Txt.split x ⟨#[c]⟩) = x := by
  refine ⟨fun z => ?_, StrLaws.split_free x c, ?_⟩
  · have := PyProof.Rows.split_pos x ⟨#[c]⟩
    rw [z] at this
    exact absurd this (by decide)
  · have h3 : Txt.join ⟨#[c]⟩ (Txt.split x ⟨#[c]⟩) = Str.join ⟨#[c]⟩ (Txt.split x ⟨#[c]⟩) := StrLaws.glued_eq_join _ _
    rw [h3]
    exact StrLaws.join_split x ⟨#[c]⟩
theorem join_len (sep : Str) (ps : List Str) : (Txt.join sep ps).length ≤ (ps.map (·.length)).sum + ps.length * sep.length := by
  have h3 : Txt.join sep ps = Str.join sep ps := StrLaws.glued_eq_join _ _
  rw [h3]
  exact StrLaws.join_length_le sep ps
theorem jn_mem {c z : Nat} : ∀ {l : List (List Nat)}, z ∈ jn c l → z = c ∨ ∃ p ∈ l, z ∈ p
  | [], h => by cases h
  | [x], h => .inr ⟨x, List.mem_cons_self, h⟩
  | x :: y :: r, h => by
    have h' : z ∈ x ++ c :: jn c (y :: r) := h
    rcases List.mem_append.mp h' with h | h
    · exact .inr ⟨x, List.mem_cons_self, h⟩
    · rcases List.mem_cons.mp h with h | h
      · exact .inl h
      · rcases jn_mem h with h | ⟨p, hp, h⟩
        · exact .inl h
        · exact .inr ⟨p, List.mem_cons_of_mem _ hp, h⟩
theorem join_mem {c z : Nat} {ps : List Str} (h : z ∈ (Txt.join ⟨#[c]⟩ ps).cps.toList) : z = c ∨ ∃ p ∈ ps, z ∈ p.cps.toList := by
  have h3 : Txt.join ⟨#[c]⟩ ps = Str.join ⟨#[c]⟩ ps := StrLaws.glued_eq_join _ _
  rw [h3, join_cps] at h
  rcases jn_mem h with h | ⟨p, hp, h⟩
  · exact .inl h
  · obtain ⟨q, hq, rfl⟩ := List.mem_map.mp hp
    exact .inr ⟨q, hq, h⟩
theorem strOk_of {x : Str} (h : ∀ c ∈ x.cps.toList, c < 1114112) : PyData.strOk x = true := by
  unfold PyData.strOk
  rw [Array.all_eq_true']
  intro c hc
  exact decide_eq_true (h c (Array.mem_toList_iff.mpr hc))
theorem strOk_mem {x : Str} (h : PyData.strOk x = true) {c : Nat} (hc : c ∈ x.cps.toList) : c < 1114112 := by
  unfold PyData.strOk at h
  rw [Array.all_eq_true'] at h
  exact of_decide_eq_true (h c (Array.mem_toList_iff.mp hc))
/-! ### a number's text -/
abbrev tx (n : Int) : Str := ((toString n : String) : Str)
theorem tx_digits {n : Int} (h0 : 0 ≤ n) : ∀ c ∈ (tx n).cps.toList, 48 ≤ c ∧ c ≤ 57 := by
  obtain ⟨m, rfl⟩ := Int.eq_ofNat_of_zero_le h0
  intro c hc
  have hc' : c ∈ (Str.ofString (toString ((m : Nat) : Int))).cps.toList := hc
  rw [PySem.W.KIN.signs_num] at hc'
  obtain ⟨ch, hch, e⟩ := List.mem_map.mp hc'
  have r := PyProof.Rows.digit_range (Nat.isDigit_of_mem_toDigits (by decide) (by decide) hch)
  rw [← e]
  exact r
theorem tx_len {n : Int} (h0 : 0 ≤ n) (h1 : n < 1000000) : 1 ≤ (tx n).length ∧ (tx n).length ≤ 6 := ⟨PySem.W.KLn.one_le h0, PyProof.Rows.toString_length_le h0 (k := 6) (by decide) (by omega)⟩
theorem tx_reads {n : Int} (h0 : 0 ≤ n) (h1 : n < 1000000) : PySem.intText? (tx n) = some n := PySem.W.KIN.num_reads h0 (by omega)
/-! ### numbers, worths -/
theorem num_int (x lo hi : Int) (st : Store) : m_is_number [.int x, .int lo, .int hi] st = .ok (.bl (decide (lo ≤ x ∧ x ≤ hi))) st := by
  unfold m_is_number
  rw [runB_eq]
  unfold b_is_number
  by_cases c : lo ≤ x <;> simp [c]
theorem num_non {d : D} {k : Kd} {st : Store} (h : kdOf d st = some k) (hk : k.isa .int = false) (lo hi : D) : m_is_number [d, lo, hi] st = .ok (.bl false) st := by
  unfold m_is_number
  rw [runB_eq]
  unfold b_is_number
  simp [kIsi_of h, hk]
theorem num_bl (b : Bool) (lo hi : D) (st : Store) : m_is_number [.bl b, lo, hi] st = .ok (.bl false) st := by
  unfold m_is_number
  rw [runB_eq]
  unfold b_is_number
  simp
theorem worth_int (x : Int) (st : Store) : m_is_worth [.int x] st = .ok (.bl (decide (0 ≤ x ∧ x ≤ 999999))) st := by
  unfold m_is_worth
  rw [runB_eq]
  unfold b_is_worth
  simp [num_int]
theorem worth_non {d : D} {k : Kd} {st : Store} (h : kdOf d st = some k) (hk : k.isa .int = false) : m_is_worth [d] st = .ok (.bl false) st := by
  unfold m_is_worth
  rw [runB_eq]
  unfold b_is_worth
  simp [num_non h hk]
theorem worth_bl (b : Bool) (st : Store) : m_is_worth [.bl b] st = .ok (.bl false) st := by
  unfold m_is_worth
  rw [runB_eq]
  unfold b_is_worth
  simp [num_bl]
/-! ### deeds -/
inductive Deed where
  | put (c w : Int) | flush (c : Int) | fence | swear (c w : Int)
def Deed.d : Deed → D
  | .put c w => .tup [.str "put", .int c, .int w]
  | .flush c => .tup [.str "flush", .int c]
  | .fence => .tup [.str "fence"]
  | .swear c w => .tup [.str "swear", .int c, .int w]
/-- a deed on so many cells -/
def Deed.ok (many : Int) : Deed → Prop
  | .put c w => (0 ≤ c ∧ c < many) ∧ 0 ≤ w ∧ w ≤ 999999
  | .flush c => 0 ≤ c ∧ c < many
  | .fence => True
  | .swear c w => (0 ≤ c ∧ c < many) ∧ 0 ≤ w ∧ w ≤ 999999
@[simp] theorem lk_put : List.lookup ("put" : Str) [(("put" : Str), (3 : Int)), ("flush", 2), ("fence", 1), ("swear", 3)] = some 3 := by decide
@[simp] theorem lk_flush : List.lookup ("flush" : Str) [(("put" : Str), (3 : Int)), ("flush", 2), ("fence", 1), ("swear", 3)] = some 2 := by decide
@[simp] theorem lk_fence : List.lookup ("fence" : Str) [(("put" : Str), (3 : Int)), ("flush", 2), ("fence", 1), ("swear", 3)] = some 1 := by decide
@[simp] theorem lk_swear : List.lookup ("swear" : Str) [(("put" : Str), (3 : Int)), ("flush", 2), ("fence", 1), ("swear", 3)] = some 3 := by decide
theorem deed_ok {many : Int} (d : Deed) (h : d.ok many) (st : Store) : m_is_deed [d.d, .int many] st = .ok (.bl true) st := by
  unfold m_is_deed
  rw [runB_eq]
  unfold b_is_deed
  have s1 : PyData.strOk "put" = true := by decide +kernel
  have s2 : PyData.strOk "flush" = true := by decide +kernel
  have s3 : PyData.strOk "fence" = true := by decide +kernel
  have s4 : PyData.strOk "swear" = true := by decide +kernel
  have r1 : (0 : Int) ≤ 999999 := by decide
  cases d with
  | put c w =>
    obtain ⟨⟨h1, h2⟩, h3, h4⟩ := h
    have h5 : c ≤ many - 1 := by omega
    simp [Deed.d, oEq_nilT, oEq_nil, rdyDs, rdyD, depDs, depD, s1, num_int, worth_int, h1, h3, h4, h5]
  | flush c =>
    obtain ⟨h1, h2⟩ := h
    have h5 : c ≤ many - 1 := by omega
    simp [Deed.d, oEq_nilT, oEq_nil, rdyDs, rdyD, depDs, depD, s2, num_int, worth_int, h1, h5]
  | fence =>
    simp [Deed.d, oEq_nilT, oEq_nil, rdyDs, rdyD, depDs, depD, s3, num_int, worth_int]
  | swear c w =>
    obtain ⟨⟨h1, h2⟩, h3, h4⟩ := h
    have h5 : c ≤ many - 1 := by omega
    simp [Deed.d, oEq_nilT, oEq_nil, rdyDs, rdyD, depDs, depD, s4, num_int, worth_int, h1, h3, h4, h5]
/-! ### number_of -/
def digB (c : Nat) : Bool := decide (48 ≤ c ∧ c ≤ 57)
/-- the number that a word writes, or -1 -/
def numOf (s : Str) : Int := if (1 ≤ s.length ∧ s.length ≤ 6) ∧ s.cps.toList.all digB = true ∧ (s.cps.toList = [48] ∨ s.cps.toList.head? ≠ some 48) then ((NumText.digitsVal s.cps.toList : Nat) : Int) else -1
theorem figs (c : Nat) : decide (c ∈ ("0123456789" : Str).cps.toList) = digB c := by
  have e : ("0123456789" : Str).cps.toList = [48, 49, 50, 51, 52, 53, 54, 55, 56, 57] := by decide +kernel
  rw [e]
  unfold digB
  refine decide_eq_decide.mpr ?_
  simp
  omega
theorem zero_str : ("0" : Str) = ⟨#[48]⟩ := by decide +kernel
theorem lc_figs (s : Str) (env : DEnv) (st : Store) (hl : env.length = 2) : lcRun gT (gN 1) fYes (fOp (oIn false) (fVar 1) (fC (.str "0123456789"))) env (s.cps.toList.map fun c => D.str ⟨#[c]⟩) st = .ok ((s.cps.toList.map digB).map D.bl) st := by
  have key : ∀ cs : List Nat, lcRun gT (gN 1) fYes (fOp (oIn false) (fVar 1) (fC (.str "0123456789"))) env (cs.map fun c => D.str ⟨#[c]⟩) st = .ok ((cs.map digB).map D.bl) st := fun cs => by
    obtain ⟨l, s', h1, h2, h3⟩ := lcRun_inv (g := gT) (lg := gN 1) (ft := fYes) (fe := fOp (oIn false) (fVar 1) (fC (.str "0123456789"))) (envw := env) (items := cs.map fun c => D.str ⟨#[c]⟩) D.bl
      (fun i l s => s = st ∧ l = (cs.take i).map digB) (fun _ _ _ _ => rfl) (fun i d l s hd ⟨hs, hl2⟩ => by
        subst hs
        rw [List.getElem?_map] at hd
        cases q : cs[i]? with
        | none => rw [q] at hd; cases hd
        | some c =>
          rw [q] at hd
          cases hd
          have e1 : (env.set 1 (some (.str ⟨#[c]⟩)))[1]? = some (some (.str ⟨#[c]⟩)) := List.getElem?_set_self (by omega)
          refine ⟨_, _, true, _, rfl, rfl, fun _ => ⟨digB c, s, ?_, rfl, ?_⟩, fun h => by cases h⟩
          · rw [fOp_eq, fVar_eq, e1, atV_some, Res.bind_at, kOp1_eq, fC_eq, Res.bind_at, oIn_sign, figs]
          · have hlt := (List.getElem?_eq_some_iff.mp q).1
            have ec : cs[i] = c := (List.getElem?_eq_some_iff.mp q).2
            rw [List.take_succ_eq_append_getElem hlt, List.map_append, hl2, ec]
            rfl) (st := st) ⟨rfl, rfl⟩
    rw [h1, h2, h3]
    simp
  exact key _
theorem number_spec (s : Str) (hs : PyData.strOk s = true) (hl : s.length ≤ lim) (st : Store) : m_number_of [.str s] st = .ok (.int (numOf s)) st := by
  have hsz : s.cps.toList.length = s.length := by
    rw [Array.length_toList]
    rfl
  obtain ⟨L, hL⟩ : ∃ L, L = (s.cps.toList.map digB).map D.bl := ⟨_, rfl⟩
  have hcomp : fLc (iA (fVar 0)) (gN 1) fYes (fOp (oIn false) (fVar 1) (fC (.str "0123456789"))) [1] [some (.str s), none] st = .ok (.lst L) st := by
    rw [fLc_eq, iA_eq, fVar_eq]
    show ((kWk (.str s) st).bind _) = _
    rw [kWk_str, Res.bind_at, hL]
    exact kLc_of (lc_figs s _ st rfl) (by rw [List.length_map, List.length_map, hsz]; exact hl)
  have hall : oAll [.lst L] st = .ok (.bl (s.cps.toList.all digB)) st := by
    rw [hL, oAll_lst, List.all_map]
    rfl
  have z0 : PyData.strOk "0" = true := by decide +kernel
  have h48 : ("0" : Str).cps.toList = [48] := by decide +kernel
  unfold m_number_of
  rw [runB_eq]
  unfold b_number_of
  by_cases c1 : (1 : Int) ≤ s.length ∧ (s.length : Int) ≤ 6
  · have c1' : 1 ≤ s.length ∧ s.length ≤ 6 := by omega
    by_cases c2 : s.cps.toList.all digB = true
    · have hne : s.cps.toList ≠ [] := fun z => by
        have := congrArg List.length z
        rw [hsz] at this
        have h0 : s.length = 0 := this
        omega
      have hd : NumText.AllDigits s.cps.toList := fun c hc => by
        have := List.all_eq_true.mp c2 c hc
        exact of_decide_eq_true this
      have hi : PySem.intText? s = some ((NumText.digitsVal s.cps.toList : Nat) : Int) := PySem.intText_digits hd hne (by omega)
      obtain ⟨c0, cr, hcs⟩ : ∃ c0 cr, s.cps.toList = c0 :: cr := by
        cases q : s.cps.toList with
        | nil => exact absurd q hne
        | cons a l => exact ⟨a, l, rfl⟩
      have hx : oIx (.str s) (.int 0) st = .ok (.str ⟨#[c0]⟩) st := oIx_str (by rw [hcs]; simp) hl st
      have hc0 : 48 ≤ c0 ∧ c0 ≤ 57 := hd c0 (by rw [hcs]; exact List.mem_cons_self)
      have sc : PyData.strOk ⟨#[c0]⟩ = true := strOk_of fun c hc => by
        have : c = c0 := by simpa using hc
        omega
      have int_s : oInt [.str s] st = .ok (.int ((NumText.digitsVal s.cps.toList : Nat) : Int)) st := oInt_str hi (by omega) st
      have b1 : (s == ("0" : Str)) = decide (s.cps.toList = [48]) := by
        by_cases q : s.cps.toList = [48]
        · rw [decide_eq_true q, show s = "0" from cps_inj (q.trans h48.symm)]
          exact beq_self_eq_true _
        · rw [decide_eq_false q]
          exact beq_false_of_ne fun z => q (by rw [z]; exact h48)
      have b2 : ((⟨#[c0]⟩ : Str) == ("0" : Str)) = decide (c0 = 48) := by
        by_cases q : c0 = 48
        · subst q
          decide +kernel
        · rw [decide_eq_false q]
          refine beq_false_of_ne fun z => q ?_
          have := congrArg (fun y : Str => y.cps.toList) z
          rw [h48] at this
          simpa using this
      by_cases c3 : s.cps.toList = [48]
      · have b1' : (s == ("0" : Str)) = true := by rw [b1]; exact decide_eq_true c3
        simp [-fLc_eq, hl, c1.1, c1.2, hcomp, hall, c2, oEq_str hs z0, b1', int_s]
        unfold numOf
        rw [if_pos ⟨c1', c2, .inl c3⟩]
      · have b1' : (s == ("0" : Str)) = false := by rw [b1]; exact decide_eq_false c3
        by_cases c4 : c0 = 48
        · have b2' : ((⟨#[c0]⟩ : Str) == ("0" : Str)) = true := by rw [b2]; exact decide_eq_true c4
          simp [-fLc_eq, hl, c1.1, c1.2, hcomp, hall, c2, oEq_str hs z0, b1', hx, oNe_str sc z0, b2']
          unfold numOf
          rw [if_neg (by rintro ⟨_, _, h | h⟩; exact c3 h; exact h (by rw [hcs, c4]; rfl))]
        · have b2' : ((⟨#[c0]⟩ : Str) == ("0" : Str)) = false := by rw [b2]; exact decide_eq_false c4
          simp [-fLc_eq, hl, c1.1, c1.2, hcomp, hall, c2, oEq_str hs z0, b1', hx, oNe_str sc z0, b2', int_s]
          unfold numOf
          rw [if_pos ⟨c1', c2, .inr (by rw [hcs]; simp [c4])⟩]
    · have c2' : s.cps.toList.all digB = false := by simpa using c2
      simp [-fLc_eq, hl, c1.1, c1.2, hcomp, hall, c2']
      unfold numOf
      rw [if_neg (by rintro ⟨_, h, _⟩; exact c2 h)]
  · have e : numOf s = -1 := by
      unfold numOf
      rw [if_neg (by rintro ⟨h, _⟩; exact c1 ⟨by omega, by omega⟩)]
    rw [e]
    by_cases c3 : (1 : Int) ≤ s.length
    · have c4 : ¬ (s.length : Int) ≤ 6 := fun h => c1 ⟨c3, h⟩
      simp [hl, c3, c4]
    · simp [hl, c3]
theorem digits_head (m : Nat) : (Nat.toDigits 10 m).head? = some '0' → m = 0 := by
  induction m using Nat.strongRecOn with
  | _ m ih =>
    by_cases h : m < 10
    · rw [Nat.toDigits_of_lt_base h]
      intro e
      have e2 : Nat.digitChar m = '0' := by simpa using e
      have key : ∀ d : Nat, d < 10 → Nat.digitChar d = '0' → d = 0 := by decide
      exact key m h e2
    · have hm : m % 10 < 10 := Nat.mod_lt m (by decide)
      have t : Nat.toDigits 10 (m / 10) ++ Nat.toDigits 10 (m % 10) = Nat.toDigits 10 (10 * (m / 10) + m % 10) := Nat.toDigits_append_toDigits (by decide) (by omega) hm
      rw [Nat.div_add_mod] at t
      rw [← t]
      intro e
      have hne : Nat.toDigits 10 (m / 10) ≠ [] := fun z => by
        have h := PySem.W.KIN.val_back (m / 10)
        rw [z] at h
        have : (0 : Nat) = m / 10 := h
        omega
      have e2 : (Nat.toDigits 10 (m / 10)).head? = some '0' := by
        cases q : Nat.toDigits 10 (m / 10) with
        | nil => exact absurd q hne
        | cons a l =>
          rw [q] at e
          simpa using e
      have := ih (m / 10) (by omega) e2
      omega
theorem numOf_tx {n : Int} (h0 : 0 ≤ n) (h1 : n < 1000000) : numOf (tx n) = n := by
  have hl := tx_len h0 h1
  have hd := tx_digits h0
  obtain ⟨m, rfl⟩ := Int.eq_ofNat_of_zero_le h0
  have es : (tx (m : Int)).cps.toList = (Nat.toDigits 10 m).map Char.toNat := PySem.W.KIN.signs_num m
  have hh : (tx (m : Int)).cps.toList = [48] ∨ (tx (m : Int)).cps.toList.head? ≠ some 48 := by
    by_cases c : (tx (m : Int)).cps.toList.head? = some 48
    · refine .inl ?_
      rw [es, List.head?_map] at c
      have c2 : (Nat.toDigits 10 m).head? = some '0' := by
        cases q : (Nat.toDigits 10 m).head? with
        | none => rw [q] at c; cases c
        | some ch =>
          rw [q] at c
          have e : ch.toNat = 48 := by simpa using c
          have e2 : ch = '0' := by
            apply Char.ext
            apply UInt32.toNat_inj.mp
            exact e
          rw [e2]
      have := digits_head m c2
      subst this
      rw [es]
      decide
    · exact .inr c
  unfold numOf
  rw [if_pos ⟨hl, List.all_eq_true.mpr fun c hc => decide_eq_true (hd c hc), hh⟩, es, PySem.W.KIN.val_back]
/-! ### a row's text -/
def Deed.parts : Deed → List Str
  | .put c w => ["put", tx c, tx w]
  | .flush c => ["flush", tx c]
  | .fence => ["fence"]
  | .swear c w => ["swear", tx c, tx w]
def Deed.line (d : Deed) : Str := Txt.join " " d.parts
def rowText (ds : List Deed) : Str := Txt.join "\n" (ds.map Deed.line)
theorem sp_str : (" " : Str) = ⟨#[32]⟩ := by decide +kernel
theorem nl_str : ("\n" : Str) = ⟨#[10]⟩ := by decide +kernel
theorem sp_len : (" " : Str).length = 1 := by decide +kernel
theorem nl_len : ("\n" : Str).length = 1 := by decide +kernel
/-- a word of a deed: small letters or figures, not long -/
def wordOk (s : Str) : Prop := (∀ c ∈ s.cps.toList, 48 ≤ c ∧ c < 128) ∧ 1 ≤ s.length ∧ s.length ≤ 6
theorem word_lit {s : Str} (h : (s.cps.toList.all fun c => decide (48 ≤ c ∧ c < 128)) = true) (h1 : 1 ≤ s.length) (h2 : s.length ≤ 6) : wordOk s := ⟨fun c hc => of_decide_eq_true (List.all_eq_true.mp h c hc), h1, h2⟩
theorem word_tx {n : Int} (h0 : 0 ≤ n) (h1 : n < 1000000) : wordOk (tx n) := ⟨fun c hc => by have := tx_digits h0 c hc; omega, tx_len h0 h1⟩
theorem parts_ok (d : Deed) (h : d.ok 256) : ∀ p ∈ d.parts, wordOk p := by
  have w1 : wordOk "put" := word_lit (by decide +kernel) (by decide +kernel) (by decide +kernel)
  have w2 : wordOk "flush" := word_lit (by decide +kernel) (by decide +kernel) (by decide +kernel)
  have w3 : wordOk "fence" := word_lit (by decide +kernel) (by decide +kernel) (by decide +kernel)
  have w4 : wordOk "swear" := word_lit (by decide +kernel) (by decide +kernel) (by decide +kernel)
  intro p hp
  cases d with
  | put c w =>
    obtain ⟨⟨h1, h2⟩, h3, h4⟩ := h
    simp [Deed.parts] at hp
    rcases hp with rfl | rfl | rfl
    · exact w1
    · exact word_tx h1 (by omega)
    · exact word_tx h3 (by omega)
  | flush c =>
    obtain ⟨h1, h2⟩ := h
    simp [Deed.parts] at hp
    rcases hp with rfl | rfl
    · exact w2
    · exact word_tx h1 (by omega)
  | fence =>
    simp [Deed.parts] at hp
    rw [hp]
    exact w3
  | swear c w =>
    obtain ⟨⟨h1, h2⟩, h3, h4⟩ := h
    simp [Deed.parts] at hp
    rcases hp with rfl | rfl | rfl
    · exact w4
    · exact word_tx h1 (by omega)
    · exact word_tx h3 (by omega)
theorem parts_len (d : Deed) : 1 ≤ d.parts.length ∧ d.parts.length ≤ 3 := by cases d <;> simp [Deed.parts]
theorem sum_le {α : Type} {f : α → Nat} {m : Nat} : ∀ {l : List α}, (∀ x ∈ l, f x ≤ m) → (l.map f).sum ≤ l.length * m
  | [], _ => Nat.zero_le _
  | x :: l, h => by
    have h1 := h x List.mem_cons_self
    have h2 := sum_le (f := f) fun y hy => h y (List.mem_cons_of_mem x hy)
    rw [List.map_cons, List.sum_cons, List.length_cons, Nat.succ_mul]
    omega
theorem line_len (d : Deed) (h : d.ok 256) : d.line.length ≤ 21 := by
  have h1 := join_len " " d.parts
  have h2 := sum_le (f := fun p : Str => p.length) (m := 6) fun p hp => (parts_ok d h p hp).2.2
  have h3 := parts_len d
  rw [sp_len] at h1
  unfold Deed.line
  omega
theorem line_mem (d : Deed) (h : d.ok 256) {c : Nat} (hc : c ∈ d.line.cps.toList) : c = 32 ∨ (48 ≤ c ∧ c < 128) := by
  unfold Deed.line at hc
  rw [sp_str] at hc
  rcases join_mem hc with h1 | ⟨p, hp, h1⟩
  · exact .inl h1
  · exact .inr ((parts_ok d h p hp).1 c h1)
theorem text_mem {ds : List Deed} (h : ∀ d ∈ ds, d.ok 256) {c : Nat} (hc : c ∈ (rowText ds).cps.toList) : c < 128 := by
  unfold rowText at hc
  rw [nl_str] at hc
  rcases join_mem hc with h1 | ⟨p, hp, h1⟩
  · omega
  · obtain ⟨d, hd, rfl⟩ := List.mem_map.mp hp
    have := line_mem d (h d hd) h1
    omega
theorem text_ok {ds : List Deed} (h : ∀ d ∈ ds, d.ok 256) : PyData.strOk (rowText ds) = true := strOk_of fun c hc => by have := text_mem h hc; omega
theorem text_len {ds : List Deed} (h : ∀ d ∈ ds, d.ok 256) : (rowText ds).length ≤ ds.length * 22 := by
  have h1 := join_len "\n" (ds.map Deed.line)
  have h2 := sum_le (f := fun p : Str => p.length) (m := 21) (l := ds.map Deed.line) fun p hp => by
    obtain ⟨d, hd, rfl⟩ := List.mem_map.mp hp
    exact line_len d (h d hd)
  rw [nl_len, List.length_map] at h1
  rw [List.length_map] at h2
  unfold rowText
  omega
theorem split_line (d : Deed) (h : d.ok 256) : Txt.split d.line " " = d.parts := by
  unfold Deed.line
  rw [sp_str]
  refine split_join (fun z => ?_) fun p hp hc => ?_
  · have := parts_len d
    rw [z] at this
    exact absurd this.1 (by decide)
  · have := (parts_ok d h p hp).1 32 hc
    omega
theorem split_text {ds : List Deed} (hne : ds ≠ []) (h : ∀ d ∈ ds, d.ok 256) : Txt.split (rowText ds) "\n" = ds.map Deed.line := by
  unfold rowText
  rw [nl_str]
  refine split_join (by simpa using hne) fun p hp hc => ?_
  obtain ⟨d, hd, rfl⟩ := List.mem_map.mp hp
  have := line_mem d (h d hd) hc
  omega
/-- the expression that writes a row: in it the row's name r, the deed's a, the part's b -/
noncomputable def fParts (a b : Nat) : LE := fBM isS oJoin (fC (.str " ")) (fCons (fLc (iA (fVar a)) (gN b) fYes (fCB oStr (fCons (fVar b) fNil)) [b]) fNil)
noncomputable def fText (r a b : Nat) : LE := fBM isS oJoin (fC (.str "\n")) (fCons (fLc (iA (fVar r)) (gN a) fYes (fParts a b) [a]) fNil)
def strD : D → D
  | .int i => .str (tx i)
  | d => d
theorem oJoin_lst {a : Str} {ys : List Str} (h : (ys.map fun y => y.length).sum + ys.length * a.length ≤ 16777216) (st : Store) : oJoin (.str a) [.lst (ys.map D.str)] st = .ok (.str (Txt.join a ys)) st := by
  have e : rdOf (.lst (ys.map D.str)) st = some (ys.map D.str) := rfl
  unfold oJoin
  dsimp only
  rw [e]
  dsimp only
  rw [strsOf_map]
  exact if_pos h
theorem small_log {i : Int} (h0 : 0 ≤ i) (h1 : i < 1000000) : i.natAbs.log2 < 1920 := by
  have h2 : i.natAbs < 2 ^ 1920 := Nat.lt_of_lt_of_le (show i.natAbs < 1000000 by omega) (by decide +kernel)
  by_cases c : i.natAbs = 0
  · rw [c]
    decide
  · exact (Nat.log2_lt c).mpr h2
theorem parts_at {a b : Nat} {env : DEnv} {st : Store} (d : Deed) (hd : d.ok 256) (ha : env[a]? = some (some d.d)) (hb : b < env.length) : fParts a b env st = .ok (.str d.line) st := by
  have body : ∀ (e : DEnv) (x : D), e[b]? = some (some x) → (∃ s, x = .str s) ∨ (∃ i : Int, x = .int i ∧ 0 ≤ i ∧ i < 1000000) → fCB oStr (fCons (fVar b) fNil) e st = .ok (strD x) st := fun e x he hx => by
    rcases hx with ⟨s, rfl⟩ | ⟨i, rfl, h0, h1⟩
    · simp [he, strD]
    · simp [he, strD, oStr_int (small_log h0 h1)]
      rfl
  have items : ∀ xs : List D, (∀ x ∈ xs, (∃ s, x = .str s) ∨ (∃ i : Int, x = .int i ∧ 0 ≤ i ∧ i < 1000000)) → lcRun gT (gN b) fYes (fCB oStr (fCons (fVar b) fNil)) (wipeD env [b]) xs st = .ok (xs.map strD) st := fun xs hxs => by
    refine lcRun_map rfl strD fun x hx => ⟨_, rfl, rfl, body _ x ?_ (hxs x hx)⟩
    exact List.getElem?_set_self (by simp [wipeD]; exact hb)
  obtain ⟨xs, hx, hxs, hm⟩ : ∃ xs, d.d = .tup xs ∧ (∀ x ∈ xs, (∃ s, x = .str s) ∨ (∃ i : Int, x = .int i ∧ 0 ≤ i ∧ i < 1000000)) ∧ xs.map strD = d.parts.map D.str := by
    cases d with
    | put c w =>
      obtain ⟨⟨h1, h2⟩, h3, h4⟩ := hd
      refine ⟨_, rfl, fun x hx => ?_, by simp [Deed.parts, strD]⟩
      simp at hx
      rcases hx with rfl | rfl | rfl
      · exact .inl ⟨_, rfl⟩
      · exact .inr ⟨c, rfl, h1, by omega⟩
      · exact .inr ⟨w, rfl, h3, by omega⟩
    | flush c =>
      obtain ⟨h1, h2⟩ := hd
      refine ⟨_, rfl, fun x hx => ?_, by simp [Deed.parts, strD]⟩
      simp at hx
      rcases hx with rfl | rfl
      · exact .inl ⟨_, rfl⟩
      · exact .inr ⟨c, rfl, h1, by omega⟩
    | fence =>
      refine ⟨_, rfl, fun x hx => ?_, by simp [Deed.parts, strD]⟩
      simp at hx
      rw [hx]
      exact .inl ⟨_, rfl⟩
    | swear c w =>
      obtain ⟨⟨h1, h2⟩, h3, h4⟩ := hd
      refine ⟨_, rfl, fun x hx => ?_, by simp [Deed.parts, strD]⟩
      simp at hx
      rcases hx with rfl | rfl | rfl
      · exact .inl ⟨_, rfl⟩
      · exact .inr ⟨c, rfl, h1, by omega⟩
      · exact .inr ⟨w, rfl, h3, by omega⟩
  have hj : oJoin (.str " ") [.lst (d.parts.map D.str)] st = .ok (.str d.line) st := by
    refine oJoin_lst ?_ st
    have h2 := sum_le (f := fun p : Str => p.length) (m := 6) fun p hp => (parts_ok d hd p hp).2.2
    have h3 := parts_len d
    rw [sp_len]
    omega
  have hlc : kLc (gN b) fYes (fCB oStr (fCons (fVar b) fNil)) (wipeD env [b]) (xs, gT) st = .ok (.lst (d.parts.map D.str)) st := by
    refine kLc_of (ys := d.parts.map D.str) ?_ ?_
    · rw [← hm]
      exact items xs hxs
    · have := (parts_len d).2
      rw [List.length_map]
      show _ ≤ 16777216
      omega
  unfold fParts
  rw [fBM_eq, fC_eq, Res.bind_at, kBM1_str, fCons_eq, fLc_eq, iA_eq, fVar_eq, ha, atV_some, Res.bind_at, hx, kWk_tup, Res.bind_at, hlc, Res.bind_at, kCons1_eq, fNil_eq, Res.bind_at, kCons2_eq, Res.bind_at, hj]
theorem text_at {r a b : Nat} {env : DEnv} {st : Store} {ds : List Deed} (hd : ∀ d ∈ ds, d.ok 256) (hl : ds.length ≤ 1000) (hr : env[r]? = some (some (.lst (ds.map Deed.d)))) (ha : a < env.length) (hb : b < env.length) : fText r a b env st = .ok (.str (rowText ds)) st := by
  have items : lcRun gT (gN a) fYes (fParts a b) (wipeD env [a]) (ds.map Deed.d) st = .ok ((ds.map Deed.line).map D.str) st := by
    obtain ⟨l, s, h1, h2, h3⟩ := lcRun_inv (g := gT) (lg := gN a) (ft := fYes) (fe := fParts a b) (envw := wipeD env [a]) (items := ds.map Deed.d) D.str (fun i l s => s = st ∧ l = (ds.take i).map Deed.line) (fun _ _ _ _ => rfl)
      (fun i x l s hx ⟨hs, hl2⟩ => by
        subst hs
        rw [List.getElem?_map] at hx
        cases q : ds[i]? with
        | none => rw [q] at hx; cases hx
        | some d =>
          rw [q] at hx
          cases hx
          have hlt := (List.getElem?_eq_some_iff.mp q).1
          have ec : ds[i] = d := (List.getElem?_eq_some_iff.mp q).2
          have hw : (wipeD env [a]).length = env.length := by simp [wipeD]
          refine ⟨_, _, true, _, rfl, rfl, fun _ => ⟨d.line, s, parts_at d (hd d (List.mem_of_getElem? q)) (List.getElem?_set_self (by rw [hw]; exact ha)) (by rw [List.length_set, hw]; exact hb), rfl, ?_⟩, fun h => by cases h⟩
          rw [List.take_succ_eq_append_getElem hlt, List.map_append, hl2, ec]
          rfl) (st := st) ⟨rfl, rfl⟩
    rw [h1, h2, h3]
    simp
  have hj : oJoin (.str "\n") [.lst ((ds.map Deed.line).map D.str)] st = .ok (.str (rowText ds)) st := by
    refine oJoin_lst ?_ st
    have h2 := sum_le (f := fun p : Str => p.length) (m := 21) (l := ds.map Deed.line) fun p hp => by
      obtain ⟨d, hd', rfl⟩ := List.mem_map.mp hp
      exact line_len d (hd d hd')
    rw [List.length_map] at h2
    rw [nl_len, List.length_map]
    omega
  have hlc : kLc (gN a) fYes (fParts a b) (wipeD env [a]) (ds.map Deed.d, gT) st = .ok (.lst ((ds.map Deed.line).map D.str)) st := kLc_of items (by
    rw [List.length_map, List.length_map]
    show _ ≤ 16777216
    omega)
  unfold fText
  rw [fBM_eq, fC_eq, Res.bind_at, kBM1_str, fCons_eq, fLc_eq, iA_eq, fVar_eq, hr, atV_some, Res.bind_at, kWk_lst, Res.bind_at, hlc, Res.bind_at, kCons1_eq, fNil_eq, Res.bind_at, kCons2_eq, Res.bind_at, hj]
theorem written_spec {ds : List Deed} (hd : ∀ d ∈ ds, d.ok 256) (hl : ds.length ≤ 1000) (st : Store) : m_written [.lst (ds.map Deed.d)] st = .ok (.str (rowText ds)) st := by
  have h := text_at (r := 0) (a := 1) (b := 2) (env := [some (.lst (ds.map Deed.d)), none, none]) (st := st) hd hl rfl (by simp) (by simp)
  unfold m_written
  rw [runB_eq]
  show outR ((fText 0 1 2 [some (.lst (ds.map Deed.d)), none, none] st).go _ RS.rt) = _
  rw [h]
  rfl
/-! ### k23: rows are drawn, written, read -/
theorem drawn_row {ns : List Int} {st : Store} {k : Nat} (S : Stt ns st k) {bound : Int} (h0 : 0 < bound) (h1 : bound < 1000000) :
    ∃ (ds : List Deed) (st' : Store), m_l_row [.ref k, .int bound] st = .ok (.lst (ds.map Deed.d)) st' ∧ (ds.length : Int) < bound ∧ (∀ d ∈ ds, d.ok 256) ∧ Stt ns st' k ∧ Keeps k st st' := by
  have hk := S.lt
  obtain ⟨n, s1, e1, hn0, hn1, S1, K1⟩ := drawn_spec (S.app (.lst [])) h0 (by omega)
  have hf1 : s1[st.length]? = some (.lst []) := K1.at_ (by rw [List.getElem?_append_right (Nat.le_refl _)]; simp) (by omega)
  have hr : kR1 [.int n] s1 = .ok (rgD 0 1 n.toNat, gT) s1 := kR1_of (by omega) s1
  obtain ⟨e2, s2, h2, o3, o4, o5, o6, ds, he2, hs2, hl2, hd2, S2, K2⟩ := forRun_inv (g := gT) (lg := gN 3) (items := rgD 0 1 n.toNat)
    (body := fSeq (fPar 4 5 (fCons (fCall 2 m_l_drawn (fCons (fVar 0) (fCons (fC (.int 256)) fNil))) (fCons (fCall 2 m_l_drawn (fCons (fVar 0) (fCons (fOp oIx (fLst (fCons (fC (.int 10)) (fCons (fC (.int 1000000)) fNil))) (fCall 2 m_l_drawn (fCons (fVar 0) (fCons (fC (.int 2)) fNil)))) fNil))) fNil))) (fSeq (fAsg (fLst (fCons (fTup (fCons (fC (.str "put")) (fCons (fVar 4) (fCons (fVar 5) fNil)))) (fCons (fTup (fCons (fC (.str "flush")) (fCons (fVar 4) fNil))) (fCons (fTup (fCons (fC (.str "fence")) fNil)) (fCons (fTup (fCons (fC (.str "swear")) (fCons (fVar 4) (fCons (fVar 5) fNil)))) fNil))))) (gN 6)) (fDrop (fBM isL oApp (fVar 2) (fCons (fOp oIx (fVar 6) (fCall 2 m_l_drawn (fCons (fVar 0) (fCons (fC (.int 4)) fNil)))) fNil)))))
    (fun i e s => ∃ o3 o4 o5 o6, ∃ ds : List Deed, e = [some (.ref k), some (.int bound), some (.ref st.length), o3, o4, o5, o6] ∧ s[st.length]? = some (.lst (ds.map Deed.d)) ∧ ds.length = i ∧ (∀ d ∈ ds, d.ok 256) ∧ Stt ns s k ∧ Keeps k st s)
    (fun _ _ _ _ => rfl)
    (fun i d e s hd ⟨o3, o4, o5, o6, ds, he, hs, hl, hds, Ss, Ks⟩ => by
      have hi : i < n.toNat := by
        have := (List.getElem?_eq_some_iff.mp hd).1
        simpa [rgD] using this
      subst he
      obtain ⟨c, t1, a1, hc0, hc1, T1, L1⟩ := drawn_spec Ss (many := 256) (by decide) (by decide)
      obtain ⟨b, t2, a2, hb0, hb1, T2, L2⟩ := drawn_spec T1 (many := 2) (by decide) (by decide)
      obtain ⟨m, hm, hm0, hm1⟩ : ∃ m : Int, atI [D.int 10, D.int 1000000] b = some (.int m) ∧ 0 < m ∧ m ≤ 1000000 := by
        rcases (show b = 0 ∨ b = 1 by omega) with rfl | rfl
        · exact ⟨10, by simp, by decide, by decide⟩
        · exact ⟨1000000, by simp, by decide, by decide⟩
      obtain ⟨v, t3, a3, hv0, hv1, T3, L3⟩ := drawn_spec T2 (many := m) hm0 (by omega)
      obtain ⟨q, t4, a4, hq0, hq1, T4, L4⟩ := drawn_spec T3 (many := 4) (by decide) (by decide)
      have hf4 : t4[st.length]? = some (.lst (ds.map Deed.d)) := (((L1.trans L2).trans L3).trans L4).at_ hs (by omega)
      have hf3 : t3[st.length]? = some (.lst (ds.map Deed.d)) := ((L1.trans L2).trans L3).at_ hs (by omega)
      obtain ⟨dd, hdd, hok⟩ : ∃ dd : Deed, atI [D.tup [.str "put", .int c, .int v], D.tup [.str "flush", .int c], D.tup [.str "fence"], D.tup [.str "swear", .int c, .int v]] q = some dd.d ∧ dd.ok 256 := by
        rcases (show q = 0 ∨ q = 1 ∨ q = 2 ∨ q = 3 by omega) with rfl | rfl | rfl | rfl
        · exact ⟨.put c v, by simp [Deed.d], ⟨⟨hc0, hc1⟩, hv0, by omega⟩⟩
        · exact ⟨.flush c, by simp [Deed.d], ⟨hc0, hc1⟩⟩
        · exact ⟨.fence, by simp [Deed.d], True.intro⟩
        · exact ⟨.swear c v, by simp [Deed.d], ⟨⟨hc0, hc1⟩, hv0, by omega⟩⟩
      have happ : oApp (.ref st.length) [dd.d] t4 = .ok .non (t4.set st.length (.lst (ds.map Deed.d ++ [dd.d]))) := oApp_ref hf4 (by rw [List.length_map, hl]; show i < 16777216; omega) _
      refine ⟨_, _, _, _, rfl, .inl (by simp [a1, a2, hm, a3, a4, hdd, kBM1_ref hf3, happ]; and_intros <;> rfl), _, _, _, _, ds ++ [dd], rfl, ?_, by simp [hl], ?_, T4.set (by omega) _, ?_⟩
      · rw [List.map_append]
        exact set_at hf4
      · intro x hx
        rcases List.mem_append.mp hx with hx | hx
        · exact hds x hx
        · rw [List.mem_singleton.mp hx]
          exact hok
      · exact (Ks.trans (((L1.trans L2).trans L3).trans L4)).setNew (Nat.le_refl _) _) (env := [some (.ref k), some (.int bound), some (.ref st.length), none, none, none, none]) (st := s1)
    ⟨none, none, none, none, [], rfl, hf1, rfl, (fun d h => by cases h), S1, (Keeps.app _).trans K1⟩
  subst he2
  refine ⟨ds, _, ?_, ?_, hd2, S2.set (f := st.length) (by omega) .dead, K2.setNew (Nat.le_refl _) .dead⟩
  · unfold m_l_row
    rw [runB_eq]
    unfold b_l_row
    simp [e1, hr, h2, oFz_ref hs2]
  · rw [hl2]
    simp [rgD]
    omega
/-! ### k23: read, the law -/
theorem numD_at : ∀ {xs : List D} {n i : Nat} {x : D}, xs[i]? = some x → (numD n xs)[i]? = some (.tup [.int ((n + i : Nat) : Int), x])
  | [], n, i, x, h => by cases h
  | y :: xs, n, 0, x, h => by
    have e : y = x := by simpa using h
    subst e
    simp [numD]
  | y :: xs, n, i + 1, x, h => by
    have ih := numD_at (xs := xs) (n := n + 1) (i := i) (x := x) (by simpa using h)
    have e : n + 1 + i = n + (i + 1) := by omega
    rw [e] at ih
    simpa [numD] using ih
theorem oSplit_str {a b : Str} (h : (b.length == 0) = false ∧ a.length + 2 ≤ lim) (st : Store) : oSplit (.str a) [.str b] st = .ok (.lst ((Txt.split a b).map D.str)) st := if_pos h
theorem deed_words (d : Deed) (h : d.ok 256) : ∃ w ws, d.parts = w :: ws ∧ wordOk w ∧ (∀ x ∈ ws, wordOk x) ∧ d.d = .tup (.str w :: ws.map fun x => .int (numOf x)) ∧ ws.length ≤ 2 := by
  have hp := parts_ok d h
  cases d with
  | put c w =>
    obtain ⟨⟨h1, h2⟩, h3, h4⟩ := h
    refine ⟨_, _, rfl, hp _ (by simp [Deed.parts]), fun x hx => hp x (by simp [Deed.parts]; simp at hx; rcases hx with h | h <;> simp [h]), ?_, by simp⟩
    simp [Deed.d, numOf_tx h1 (show c < 1000000 by omega), numOf_tx h3 (show w < 1000000 by omega)]
  | flush c =>
    obtain ⟨h1, h2⟩ := h
    refine ⟨_, _, rfl, hp _ (by simp [Deed.parts]), fun x hx => hp x (by simp [Deed.parts]; simp at hx; simp [hx]), ?_, by simp⟩
    simp [Deed.d, numOf_tx h1 (show c < 1000000 by omega)]
  | fence => exact ⟨_, _, rfl, hp _ (by simp [Deed.parts]), fun x hx => by simp at hx, by simp [Deed.d], by simp⟩
  | swear c w =>
    obtain ⟨⟨h1, h2⟩, h3, h4⟩ := h
    refine ⟨_, _, rfl, hp _ (by simp [Deed.parts]), fun x hx => hp x (by simp [Deed.parts]; simp at hx; rcases hx with h | h <;> simp [h]), ?_, by simp⟩
    simp [Deed.d, numOf_tx h1 (show c < 1000000 by omega), numOf_tx h3 (show w < 1000000 by omega)]
theorem word_strOk {x : Str} (h : wordOk x) : PyData.strOk x = true := strOk_of fun c hc => by have := h.1 c hc; omega
/-- [number_of(one) for one in rest] -/
theorem lc_nums {ws : List Str} (hw : ∀ x ∈ ws, wordOk x) (env : DEnv) (st : Store) (hl : 7 < env.length) : lcRun gT (gN 7) fYes (fCall 1 m_number_of (fCons (fVar 7) fNil)) (wipeD env [7]) (ws.map D.str) st = .ok (ws.map fun x => D.int (numOf x)) st := by
  obtain ⟨l, s, h1, h2, h3⟩ := lcRun_inv (g := gT) (lg := gN 7) (ft := fYes) (fe := fCall 1 m_number_of (fCons (fVar 7) fNil)) (envw := wipeD env [7]) (items := ws.map D.str) D.int (fun i l s => s = st ∧ l = (ws.take i).map numOf) (fun _ _ _ _ => rfl)
    (fun i x l s hx ⟨hs, hl2⟩ => by
      subst hs
      rw [List.getElem?_map] at hx
      cases q : ws[i]? with
      | none => rw [q] at hx; cases hx
      | some w =>
        rw [q] at hx
        cases hx
        have hlt := (List.getElem?_eq_some_iff.mp q).1
        have ec : ws[i] = w := (List.getElem?_eq_some_iff.mp q).2
        have hwo := hw w (List.mem_of_getElem? q)
        have e7 : ((wipeD env [7]).set 7 (some (.str w)))[7]? = some (some (.str w)) := List.getElem?_set_self (by simp [wipeD]; exact hl)
        refine ⟨_, _, true, _, rfl, rfl, fun _ => ⟨numOf w, s, ?_, rfl, ?_⟩, fun h => by cases h⟩
        · rw [fCall_eq, fCons_eq, fVar_eq, e7, atV_some, Res.bind_at, kCons1_eq, fNil_eq, Res.bind_at, kCons2_eq, Res.bind_at, kCall_1]
          exact number_spec w (word_strOk hwo) (Nat.le_trans hwo.2.2 (by decide)) s
        · rw [List.take_succ_eq_append_getElem hlt, List.map_append, hl2, ec]
          rfl) (st := st) ⟨rfl, rfl⟩
  rw [h1, h2, h3]
  simp
theorem read_spec {ds : List Deed} (hd : ∀ d ∈ ds, d.ok 256) (hl : ds.length ≤ 300) (st : Store) : m_read [.str (rowText ds)] st = .ok (.lst (ds.map Deed.d)) (st ++ [.dead]) := by
  have z0 : PyData.strOk "" = true := by decide +kernel
  have tl := text_len hd
  have tl2 : (rowText ds).length + 2 ≤ lim := by
    show _ ≤ 16777216
    omega
  have nl : (("\n" : Str).length == 0) = false := by decide +kernel
  have sl : ((" " : Str).length == 0) = false := by decide +kernel
  have it : ∃ xs : List D, fIf (fTest (fOp oNe (fVar 0) (fC (.str "")))) (fBM isS oSplit (fVar 0) (fCons (fC (.str "\n")) fNil)) (fLst fNil) [some (.str (rowText ds)), some (.ref st.length), none, none, none, none, none, none] (st ++ [.lst []]) = .ok (.lst (ds.map fun d => .str d.line)) (st ++ [.lst []]) := by
    refine ⟨[], ?_⟩
    cases ds with
    | nil =>
      have e : rowText [] = "" := by decide +kernel
      rw [e]
      simp [oNe_str z0 z0]
    | cons d ds =>
      have hs := split_text (by simp) hd
      have hne : (rowText (d :: ds) == ("" : Str)) = false := beq_false_of_ne fun z => by
        have e : Txt.split ("" : Str) "\n" = [("" : Str)] := by decide +kernel
        rw [z, e] at hs
        have h2 := congrArg (fun l : List Str => l.map (·.length)) hs
        have h3 := split_line d (hd d List.mem_cons_self)
        have h4 : d.line = "" := (List.cons.inj hs).1.symm
        have e5 : Txt.split ("" : Str) " " = [("" : Str)] := by decide +kernel
        rw [h4, e5] at h3
        have h6 := (parts_ok d (hd d List.mem_cons_self) "" (by rw [← h3]; exact List.mem_singleton.mpr rfl)).2.1
        exact absurd h6 (by decide +kernel)
      simp [oNe_str (text_ok hd) z0, hne, oSplit_str ⟨nl, tl2⟩, hs]
  obtain ⟨_, it⟩ := it
  obtain ⟨e2, s2, h2, o2, o3, o4, o5, o6, o7, he2, hs2⟩ := forRun_inv (g := gT) (lg := gTu [gN 2, gN 3]) (items := numD 0 (ds.map fun d => .str d.line))
    (body := (fSeq (fAsg (fBM isS oSplit (fVar 3) (fCons (fC (.str " ")) fNil)) (gSt (gN 4) (gN 5))) (fSeq (fAsg (fCB oTupOf (fCons (fOp oAdd (fLst (fCons (fVar 4) fNil)) (fLc (iA (fVar 5)) (gN 7) (fYes) (fCall 1 m_number_of (fCons (fVar 7) fNil)) [7])) fNil)) (gN 6)) (fSeq (fIfS ((fOr (fTest (fOp oEq (fVar 2) (fC (.int 300)))) (fNot (fTest (fCall 2 m_is_deed (fCons (fVar 6) (fCons (fC (.int 256)) fNil))))))) (fStuck) (fNext)) (fDrop (fBM isL oApp (fVar 1) (fCons (fVar 6) fNil)))))))
    (fun i e s => ∃ o2 o3 o4 o5 o6 o7, e = [some (.str (rowText ds)), some (.ref st.length), o2, o3, o4, o5, o6, o7] ∧ s = st ++ [.lst ((ds.take i).map Deed.d)])
    (fun _ _ _ _ => rfl)
    (fun i x e s hx ⟨o2, o3, o4, o5, o6, o7, he, hs⟩ => by
      obtain ⟨x', h1, hx2⟩ := numD_get hx
      rw [List.getElem?_map] at h1
      cases q : ds[i]? with
      | none => rw [q] at h1; cases h1
      | some d =>
        rw [q] at h1
        cases h1
        subst hx2 he hs
        have hlt := (List.getElem?_eq_some_iff.mp q).1
        have ec : ds[i] = d := (List.getElem?_eq_some_iff.mp q).2
        have hok := hd d (List.mem_of_getElem? q)
        obtain ⟨w, ws, p1, p2, p3, p4, p5⟩ := deed_words d hok
        have ll : d.line.length + 2 ≤ lim := by
          have := line_len d hok
          show _ ≤ 16777216
          omega
        have hat : (st ++ [Cell.lst ((ds.take i).map Deed.d)])[st.length]? = some (.lst ((ds.take i).map Deed.d)) := by
          rw [List.getElem?_append_right (Nat.le_refl _)]
          simp
        have hst : stK (gN 4) (gN 5) [some (.str (rowText ds)), some (.ref st.length), some (.int ((0 + i : Nat) : Int)), some (.str d.line), o4, o5, o6, o7] (st ++ [.lst ((ds.take i).map Deed.d)]) (some (.str w :: ws.map D.str)) = .nx [some (.str (rowText ds)), some (.ref st.length), some (.int ((0 + i : Nat) : Int)), some (.str d.line), some (.str w), some (.lst (ws.map D.str)), o6, o7] (st ++ [.lst ((ds.take i).map Deed.d)]) := stK_names (by rw [List.length_map]; omega)
        have hcomp : fLc (iA (fVar 5)) (gN 7) (fYes) (fCall 1 m_number_of (fCons (fVar 7) fNil)) [7] [some (.str (rowText ds)), some (.ref st.length), some (.int ((0 + i : Nat) : Int)), some (.str d.line), some (.str w), some (.lst (ws.map D.str)), o6, o7] (st ++ [.lst ((ds.take i).map Deed.d)]) = .ok (.lst (ws.map fun x => D.int (numOf x))) (st ++ [.lst ((ds.take i).map Deed.d)]) := by
          rw [fLc_eq, iA_eq, fVar_eq]
          show ((kWk (.lst (ws.map D.str)) _).bind _) = _
          rw [kWk_lst, Res.bind_at]
          exact kLc_of (lc_nums p3 _ _ (by simp)) (by rw [List.length_map]; show _ ≤ 16777216; omega)
        have hadd : oAdd (.lst [.str w]) (.lst (ws.map fun x => D.int (numOf x))) (st ++ [.lst ((ds.take i).map Deed.d)]) = .ok (.lst (.str w :: ws.map fun x => D.int (numOf x))) (st ++ [.lst ((ds.take i).map Deed.d)]) := by
          rw [oAdd_lst, if_pos (by rw [List.length_map]; show _ ≤ 16777216; simp; omega)]
          rfl
        have hdeed := deed_ok (many := 256) d hok (st ++ [.lst ((ds.take i).map Deed.d)])
        rw [p4] at hdeed
        have hi : ¬ ((i : Nat) : Int) = 300 := by omega
        have happ : oApp (.ref st.length) [.tup (.str w :: ws.map fun x => D.int (numOf x))] (st ++ [.lst ((ds.take i).map Deed.d)]) = .ok .non (st ++ [.lst ((ds.take (i + 1)).map Deed.d)]) := by
          rw [oApp_ref hat (by rw [List.length_map]; show _ < 16777216; have := List.length_take_le i ds; omega)]
          rw [List.set_append_right _ _ (Nat.le_refl _)]
          simp only [Nat.sub_self, List.set_cons_zero]
          rw [List.take_succ_eq_append_getElem hlt, List.map_append, ec, ← p4]
          rfl
        refine ⟨_, _, _, _, rfl, .inl (?_ : _ = RS.nx [some (.str (rowText ds)), some (.ref st.length), some (.int ((0 + i : Nat) : Int)), some (.str d.line), some (.str w), some (.lst (ws.map D.str)), some (.tup (.str w :: ws.map fun x => D.int (numOf x))), o7] (st ++ [.lst ((ds.take (i + 1)).map Deed.d)])), _, _, _, _, _, _, rfl, rfl⟩
        have hz : 0 + i = i := Nat.zero_add i
        rw [hz] at hst hcomp
        have hbm := kBM1_ref hat oApp
        generalize st ++ [Cell.lst ((ds.take i).map Deed.d)] = S1 at hat hst hcomp hadd hdeed happ hbm ⊢
        generalize st ++ [Cell.lst ((ds.take (i + 1)).map Deed.d)] = S2 at happ ⊢
        simp [-fLc_eq, oSplit_str ⟨sl, ll⟩, split_line d hok, p1, hst, hcomp, hadd, hi, hdeed, hbm, happ]) (env := [some (.str (rowText ds)), some (.ref st.length), none, none, none, none, none, none]) (st := st ++ [.lst []])
    ⟨none, none, none, none, none, none, rfl, rfl⟩
  have hlen : (numD 0 (ds.map fun d => D.str d.line)).length = ds.length := by rw [numD_length, List.length_map]
  rw [hlen, List.take_length] at hs2
  subst he2 hs2
  have hat : (st ++ [Cell.lst (ds.map Deed.d)])[st.length]? = some (.lst (ds.map Deed.d)) := by
    rw [List.getElem?_append_right (Nat.le_refl _)]
    simp
  unfold m_read
  rw [runB_eq]
  unfold b_read
  simp [-fIf_eq, it, h2, oFz_ref hat]
/-! ### k23: the law -/
theorem row_rdy {ds : List Deed} : rdyDs (ds.map Deed.d) = true ∧ depDs (ds.map Deed.d) ≤ 1 ∧ clrDs (ds.map Deed.d) = true ∧ lenDs (ds.map Deed.d) := by
  have s1 : PyData.strOk "put" = true := by decide +kernel
  have s2 : PyData.strOk "flush" = true := by decide +kernel
  have s3 : PyData.strOk "fence" = true := by decide +kernel
  have s4 : PyData.strOk "swear" = true := by decide +kernel
  refine ⟨rdyDs_all.mpr fun x hx => ?_, depDs_le.mpr fun x hx => ?_, clrDs_all.mpr fun x hx => ?_, lenDs_all.mpr fun x hx => ?_⟩ <;>
    (obtain ⟨d, _, rfl⟩ := List.mem_map.mp hx; cases d <;> simp [Deed.d, rdyD, rdyDs, depD, depDs, clrD, clrDs, lenD, lenDs, s1, s2, s3, s4])
theorem law_k23 (ns : List Int) (hn : ns.length ≤ 63) : ∃ st, m_law [.lck (ns.map D.int)] [] = .ok (.bl true) st := by
  obtain ⟨mixed, h1⟩ := start_spec ns []
  have S0 : Stt ns ([] ++ [Cell.lst [.lck (ns.map D.int), .int (0 : Nat), .int mixed, .int 0]]) 0 := ⟨0, mixed, 0, rfl⟩
  have hr : ∀ s, kR1 [.int 6] s = .ok (rgD 0 1 (6 : Int).toNat, gT) s := fun s => kR1_of (by decide) s
  obtain ⟨e2, s2, h2, _⟩ := forRun_inv (g := gT) (lg := gN 2) (items := rgD 0 1 (6 : Int).toNat)
    (body := (fSeq (fAsg (fCall 2 m_l_row (fCons (fVar 1) (fCons (fOp oIx (fLst (fCons (fC (.int 41)) (fCons (fC (.int 301)) fNil))) (fOp oDiv (fCall 2 m_l_drawn (fCons (fVar 1) (fCons (fC (.int 6)) fNil))) (fC (.int 5)))) fNil))) (gN 3)) (fSeq (fAsg (fText 3 5 6) (gN 4)) (fSeq (fIfS ((fOr (fNot (fTest (fCall 2 (m_l_same 6) (fCons (fCall 1 m_written (fCons (fVar 3) fNil)) (fCons (fVar 4) fNil))))) (fNot (fTest (fCall 2 (m_l_same 6) (fCons (fCall 1 m_read (fCons (fVar 4) fNil)) (fCons (fVar 3) fNil))))))) (fRet (fC (.bl false))) (fNext)) (fIfS ((fOr (fTest (fOp oNe (fCall 1 m_read (fCons (fCall 1 m_written (fCons (fVar 3) fNil)) fNil)) (fVar 3))) (fTest (fOp oNe (fCall 1 m_written (fCons (fCall 1 m_read (fCons (fVar 4) fNil)) fNil)) (fVar 4))))) (fRet (fC (.bl false))) (fNext))))))
    (fun i e s => ∃ o2 o3 o4 o5 o6, e = [some (.lck (ns.map D.int)), some (.ref 0), o2, o3, o4, o5, o6] ∧ Stt ns s 0)
    (fun _ _ _ _ => rfl)
    (fun i x e s hx ⟨o2, o3, o4, o5, o6, he, S⟩ => by
      subst he
      obtain ⟨v, t1, a1, v0, v1, T1, L1⟩ := drawn_spec S (many := 6) (by decide) (by decide)
      obtain ⟨b, hb, b0, b1⟩ : ∃ b : Int, atI [D.int 41, D.int 301] (v / 5) = some (.int b) ∧ 0 < b ∧ b ≤ 301 := by
        rcases (show v / 5 = 0 ∨ v / 5 = 1 by omega) with h | h <;> rw [h]
        · exact ⟨41, by simp, by decide, by decide⟩
        · exact ⟨301, by simp, by decide, by decide⟩
      obtain ⟨ds, t2, a2, hl, hok, T2, L2⟩ := drawn_row T1 (bound := b) b0 (by omega)
      have hl2 : ds.length ≤ 300 := by omega
      obtain ⟨r1, r2, r3, r4⟩ := row_rdy (ds := ds)
      have tk := text_ok hok
      have ht : ∀ o2 o4 o5 o6 s, fText 3 5 6 [some (.lck (ns.map D.int)), some (.ref 0), o2, some (.lst (ds.map Deed.d)), o4, o5, o6] s = .ok (.str (rowText ds)) s := fun _ _ _ _ s => text_at hok (by omega) rfl (by simp) (by simp)
      have hw : ∀ s, m_written [.lst (ds.map Deed.d)] s = .ok (.str (rowText ds)) s := fun s => written_spec hok (by omega) s
      have hrd : ∀ s, m_read [.str (rowText ds)] s = .ok (.lst (ds.map Deed.d)) (s ++ [.dead]) := fun s => read_spec hok hl2 s
      have s1 : ∀ s, m_l_same 6 [.str (rowText ds), .str (rowText ds)] s = .ok (.bl true) s := fun s => same_sees 6 (.str _) (.str _) (by simpa [rdyD] using tk) (by simp [lenD]) (by simp [depD])
      have s2 : ∀ s, m_l_same 6 [.lst (ds.map Deed.d), .lst (ds.map Deed.d)] s = .ok (.bl true) s := fun s => same_sees 6 (.lst (seess_self _ r3)) (.lst (seess_self _ r3)) (by simpa [rdyD] using r1) (by simp only [lenD]; exact ⟨by rw [List.length_map]; omega, r4⟩) (by simp only [depD]; omega)
      have n1 : ∀ s, oNe (.lst (ds.map Deed.d)) (.lst (ds.map Deed.d)) s = .ok (.bl false) s := fun s => by
        have hrr : rdyD (.lst (ds.map Deed.d)) = true := by simpa [rdyD] using r1
        have hdd : depD (.lst (ds.map Deed.d)) ≤ 64 := by simp only [depD]; omega
        rw [oNe_rdy hrr hrr hdd hdd, eqD_refl _ hrr]
        rfl
      have n2 : ∀ s, oNe (.str (rowText ds)) (.str (rowText ds)) s = .ok (.bl false) s := fun s => by
        rw [oNe_str tk tk]
        simp
      have hdv : (decide ((0 : Int) < 5 ∧ (5 : Int) < 1073741824)) = true := by decide
      generalize ds.map Deed.d = R at a2 ht hw hrd s2 n1
      refine ⟨_, _, [some (.lck (ns.map D.int)), some (.ref 0), some x, some (.lst R), some (.str (rowText ds)), o5, o6], t2 ++ [.dead] ++ [.dead] ++ [.dead], rfl, .inl ?_, _, _, _, _, _, rfl, ((T2.app _).app _).app _⟩
      simp [a1, hb, a2, ht, hw, hrd, s1, s2, n1, n2]) (env := [some (.lck (ns.map D.int)), some (.ref 0), none, none, none, none, none]) (st := [] ++ [Cell.lst [.lck (ns.map D.int), .int (0 : Nat), .int mixed, .int 0]])
    ⟨none, none, none, none, none, rfl, S0⟩
  refine ⟨s2, ?_⟩
  unfold m_law
  rw [runB_eq]
  unfold b_law
  unfold fText fParts at h2
  simp [h1, hr, h2]
  simp at h2
  rw [h2]
  rfl
end Fk
namespace Fq
open PySem PySem.Spec PyProof.Rows L2 Fk
def top (i : Nat) : Stmt := PySem.Challenge.pw_fencekeep_k23_rows_written_and_read.main.body.getD i (.Pass ⟨0, 0, 0, 0⟩)
abbrev s_l_start : Stmt := top 22
theorem sc_l_start : FnScope ["_law_script", "_law_mixed", "_law_cell"] ["_law_script"] (defScope s_l_start) := ⟨rfl, rfl, rfl, by decide +kernel, rfl, by decide +kernel, by decide +kernel⟩
def d_l_start : He.DefD := ⟨("_law_start", none), "_law_start", "_law_start", defArgs s_l_start, defBody s_l_start, defScope s_l_start, [], []⟩
abbrev s_l_drawn : Stmt := top 23
theorem sc_l_drawn : FnScope ["_law_state", "_law_many", "_law_found", "_law_cell"] ["_law_state", "_law_many"] (defScope s_l_drawn) := ⟨rfl, rfl, rfl, by decide +kernel, rfl, by decide +kernel, by decide +kernel⟩
def d_l_drawn : He.DefD := ⟨("_law_drawn", none), "_law_drawn", "_law_drawn", defArgs s_l_drawn, defBody s_l_drawn, defScope s_l_drawn, [], []⟩
abbrev s_l_row : Stmt := top 25
theorem sc_l_row : FnScope ["_law_state", "_law_bound", "_law_found", "_law_k", "_law_cell", "_law_worth", "_law_some"] ["_law_state", "_law_bound"] (defScope s_l_row) := ⟨rfl, rfl, rfl, by decide +kernel, rfl, by decide +kernel, by decide +kernel⟩
def d_l_row : He.DefD := ⟨("_law_row", none), "_law_row", "_law_row", defArgs s_l_row, defBody s_l_row, defScope s_l_row, [], []⟩
abbrev s_l_same : Stmt := top 24
theorem sc_l_same : FnScope ["_law_found", "_law_due", "_law_alike", "_law_k"] ["_law_found", "_law_due"] (defScope s_l_same) := ⟨rfl, rfl, rfl, by decide +kernel, rfl, by decide +kernel, by decide +kernel⟩
def d_l_same : He.DefD := ⟨("_law_same", none), "_law_same", "_law_same", defArgs s_l_same, defBody s_l_same, defScope s_l_same, [], []⟩
abbrev s_number_of : Stmt := top 19
theorem sc_number_of : FnScope ["word", "sign"] ["word"] (defScope s_number_of) := ⟨rfl, rfl, rfl, by decide +kernel, rfl, by decide +kernel, by decide +kernel⟩
def d_number_of : He.DefD := ⟨("number_of", none), "number_of", "number_of", defArgs s_number_of, defBody s_number_of, defScope s_number_of, [], []⟩
abbrev s_is_number : Stmt := top 12
theorem sc_is_number : FnScope ["thing", "low", "high"] ["thing", "low", "high"] (defScope s_is_number) := ⟨rfl, rfl, rfl, by decide +kernel, rfl, by decide +kernel, by decide +kernel⟩
def d_is_number : He.DefD := ⟨("is_number", none), "is_number", "is_number", defArgs s_is_number, defBody s_is_number, defScope s_is_number, [], []⟩
abbrev s_is_worth : Stmt := top 13
theorem sc_is_worth : FnScope ["thing"] ["thing"] (defScope s_is_worth) := ⟨rfl, rfl, rfl, by decide +kernel, rfl, by decide +kernel, by decide +kernel⟩
def d_is_worth : He.DefD := ⟨("is_worth", none), "is_worth", "is_worth", defArgs s_is_worth, defBody s_is_worth, defScope s_is_worth, [], []⟩
abbrev s_is_deed : Stmt := top 14
theorem sc_is_deed : FnScope ["deed", "many", "word", "rest"] ["deed", "many"] (defScope s_is_deed) := ⟨rfl, rfl, rfl, by decide +kernel, rfl, by decide +kernel, by decide +kernel⟩
def d_is_deed : He.DefD := ⟨("is_deed", none), "is_deed", "is_deed", defArgs s_is_deed, defBody s_is_deed, defScope s_is_deed, [], []⟩
abbrev s_read : Stmt := top 20
theorem sc_read : FnScope ["text", "found", "number", "line", "word", "rest", "deed", "one"] ["text"] (defScope s_read) := ⟨rfl, rfl, rfl, by decide +kernel, rfl, by decide +kernel, by decide +kernel⟩
def d_read : He.DefD := ⟨("read", none), "read", "read", defArgs s_read, defBody s_read, defScope s_read, [], []⟩
abbrev s_written : Stmt := top 18
theorem sc_written : FnScope ["row", "deed", "part"] ["row"] (defScope s_written) := ⟨rfl, rfl, rfl, by decide +kernel, rfl, by decide +kernel, by decide +kernel⟩
def d_written : He.DefD := ⟨("written", none), "written", "written", defArgs s_written, defBody s_written, defScope s_written, [], []⟩
abbrev s_law : Stmt := top 26
theorem sc_law : FnScope ["_law_script", "_law_state", "_law_turn", "_law_row_here", "_law_text", "_law_deed", "_law_part"] ["_law_script"] (defScope s_law) := ⟨rfl, rfl, rfl, by decide +kernel, rfl, by decide +kernel, by decide +kernel⟩
def d_law : He.DefD := ⟨("law", none), "law", "law", defArgs s_law, defBody s_law, defScope s_law, [], []⟩
def fn : List He.DefD := [d_l_start, d_l_drawn, d_l_row, d_l_same, d_number_of, d_is_number, d_is_worth, d_is_deed, d_read, d_written, d_law]
def fa : List He.Fa := [.glo "_law_start", .free "range", .free "len", .glo "_law_drawn", .glo "_law_row", .free "str", .free "list", .free "tuple", .free "isinstance", .glo "_law_same", .free "int", .free "bool", .free "enumerate", .str "FIGURES" "0123456789", .free "all", .int "MOST_FIGURES" 6, .glo "number_of", .glo "SIZES", .int "MOST_WORTH" 999999, .glo "is_number", .glo "is_worth", .int "MOST_CELLS" 256, .glo "is_deed", .int "MOST_DEEDS" 300, .glo "read", .glo "written", .glo "law"]
def tb : List TbD := [("SIZES", [("put", 3), ("flush", 2), ("fence", 1), ("swear", 3)])]
section
variable {P : Program} {w : World} {K : PySem.W.Frag} {mg : Str → Option Value} {base : Heap} {T : List (Addr × Str)}
theorem ok_l_start (z : Fx fa fn tb w K mg) : FoP P w K mg base T 1 ("_law_start", none) 1 m_l_start := by
  obtain ⟨fd, F⟩ := z.def_ 0 (d := d_l_start)
  exact fo_def F sc_l_start (fun _ _ _ _ _ _ us hl => match us, hl with | [_], _ => rfl) fun cdv A outer s H E hr => (s_seq (s_set sc_l_start.nd (x_int)) (s_seq (s_for po_of rfl (i_any (x_var 0)) (g_name sc_l_start.nd) (s_one (s_set sc_l_start.nd (x_mod (x_add (x_add (x_mul (x_var 1) (x_int)) (x_var 2)) (x_int)) (x_int))))) (s_one (s_ret (x_lstC (x_cons (x_var 0) (x_cons (x_int) (x_cons (x_var 1) (x_cons (x_int) x_nil)))))))))
theorem ok_l_drawn (z : Fx fa fn tb w K mg) : FoP P w K mg base T 1 ("_law_drawn", none) 2 m_l_drawn := by
  obtain ⟨fd, F⟩ := z.def_ 1 (d := d_l_drawn)
  exact fo_def F sc_l_drawn (fun _ _ _ _ _ _ us hl => match us, hl with | [_, _], _ => rfl) fun cdv A outer s H E hr => (s_seq (s_if (x_tgt (x_ix (x_var 0) (x_int)) (x_int)) (s_seq (s_set sc_l_drawn.nd (x_mod (x_ix (x_var 0) (x_int)) (x_var 1))) (s_seq (s_asg (x_div (x_ix (x_var 0) (x_int)) (x_var 1)) (g_sub (x_var 0) (x_int)) gok_sub) (s_one (s_ret (x_var 2))))) (s_nil)) (s_seq (s_asg (x_add (x_ix (x_var 0) (x_int)) (x_int)) (g_sub (x_var 0) (x_int)) gok_sub) (s_seq (s_if (x_tle (x_ix (x_var 0) (x_int)) (x_callB call_len sim_len (z.free 2) (x_cons (x_ix (x_var 0) (x_int)) x_nil))) (s_seq (s_set sc_l_drawn.nd (x_ix (x_ix (x_var 0) (x_int)) (x_sub (x_ix (x_var 0) (x_int)) (x_int)))) (s_seq (s_asg (x_if (x_tge (x_var 3) (x_pow (x_int) (x_int))) (x_div (x_var 3) (x_var 1)) (x_int)) (g_sub (x_var 0) (x_int)) gok_sub) (s_one (s_ret (x_mod (x_var 3) (x_var 1)))))) (s_nil)) (s_seq (s_asg (x_mod (x_add (x_mul (x_ix (x_var 0) (x_int)) (x_int)) (x_int)) (x_int)) (g_sub (x_var 0) (x_int)) gok_sub) (s_one (s_ret (x_mod (x_div (x_ix (x_var 0) (x_int)) (x_int)) (x_var 1))))))))
theorem ok_l_row (z : Fx fa fn tb w K mg) : FoP P w K mg base T 2 ("_law_row", none) 2 m_l_row := by
  obtain ⟨fd, F⟩ := z.def_ 2 (d := d_l_row)
  exact fo_def F sc_l_row (fun _ _ _ _ _ _ us hl => match us, hl with | [_, _], _ => rfl) fun cdv A outer s H E hr => (s_seq (s_set sc_l_row.nd (x_lstC x_nil)) (s_seq (s_for po_of rfl (i_range1 (z.free 1) (x_cons (x_call (ok_l_drawn z) hr px_of (z.glo 3) (x_cons (x_var 0) (x_cons (x_var 1) x_nil))) x_nil)) (g_name sc_l_row.nd) (s_seq (s_par rfl sc_l_row.nd (x_cons (x_call (ok_l_drawn z) hr px_of (z.glo 3) (x_cons (x_var 0) (x_cons (x_int) x_nil))) (x_cons (x_call (ok_l_drawn z) hr px_of (z.glo 3) (x_cons (x_var 0) (x_cons (x_ix (x_lst (x_cons (x_int) (x_cons (x_int) x_nil))) (x_call (ok_l_drawn z) hr px_of (z.glo 3) (x_cons (x_var 0) (x_cons (x_int) x_nil)))) x_nil))) x_nil))) (s_seq (s_set sc_l_row.nd (x_lst (x_cons (x_tup (x_cons (x_str) (x_cons (x_var 4) (x_cons (x_var 5) x_nil)))) (x_cons (x_tup (x_cons (x_str) (x_cons (x_var 4) x_nil))) (x_cons (x_tup (x_cons (x_str) x_nil)) (x_cons (x_tup (x_cons (x_str) (x_cons (x_var 4) (x_cons (x_var 5) x_nil)))) x_nil)))))) (s_one (s_drop (x_append (x_var 2) (x_ix (x_var 6) (x_call (ok_l_drawn z) hr px_of (z.glo 3) (x_cons (x_var 0) (x_cons (x_int) x_nil)))))))))) (s_one (s_ret (x_fz (x_var 2))))))
theorem ok_l_same : ∀ n : Nat, Fx fa fn tb w K mg → FoP P w K mg base T (n + 1) ("_law_same", none) 2 (m_l_same n)
  | 0, z => by
    obtain ⟨fd, F⟩ := z.def_ 3 (d := d_l_same)
    exact FoP.imp (fo_def (k := 0 + 0) F sc_l_same (fun _ _ _ _ _ _ us hl => match us, hl with | [_, _], _ => rfl) (fb := fStuck) fun cdv A outer s H E hr => ss_never) (fun _ _ _ _ _ _ _ _ _ p => p)
  | n + 1, z => by
    obtain ⟨fd, F⟩ := z.def_ 3 (d := d_l_same)
    have ih := fun z => ok_l_same n z
    have e : n + 1 + 1 = (n + 1) + 1 := by omega
    rw [e]
    exact fo_def F sc_l_same (fun _ _ _ _ _ _ us hl => match us, hl with | [_, _], _ => rfl) fun cdv A outer s H E hr => (s_seq (s_if (x_test (x_isiT (z.free 8) (.cons (z.free 7) (.cons (z.free 6) .nil)) (x_var 1))) (s_seq (s_if (x_tw (x_wor (x_tnot (x_test (x_isiT (z.free 8) (.cons (z.free 7) (.cons (z.free 6) .nil)) (x_var 0)))) (x_wor1 (x_tne hr (x_isi .lst (z.free 8) (z.free 6) (x_var 0)) (x_isi .lst (z.free 8) (z.free 6) (x_var 1)))))) (s_one (s_ret (x_bl))) (s_nil)) (s_seq (s_if (x_tne hr (x_callB call_len sim_len (z.free 2) (x_cons (x_var 0) x_nil)) (x_callB call_len sim_len (z.free 2) (x_cons (x_var 1) x_nil))) (s_one (s_ret (x_bl))) (s_nil)) (s_one (s_ret (x_eq hr (x_lc rfl sc_l_same.nd (i_range1 (z.free 1) (x_cons (x_callB call_len sim_len (z.free 2) (x_cons (x_var 1) x_nil)) x_nil)) (blkOk_by (own := [("_law_k", 3)]) (by kernel_rfl)) (fun _ _ _ _ _ => g_name sc_l_same.nd) (fun _ _ _ _ _ => x_ts1 (x_tnot (x_test (x_call (ih z) hr passL (z.glo 9) (x_cons (x_ix (x_var 0) (x_var 3)) (x_cons (x_ix (x_var 1) (x_var 3)) x_nil)) (hjk := Nat.le_refl _))))) (fun _ _ _ _ _ => (x_var 3))) (x_lst x_nil)))))) (s_nil)) (s_seq (s_set sc_l_same.nd ((x_and (x_eq hr (x_isi .bl (z.free 8) (z.free 11) (x_var 0)) (x_isi .bl (z.free 8) (z.free 11) (x_var 1))) (x_one (x_eq hr (x_isi .int (z.free 8) (z.free 10) (x_var 0)) (x_isi .int (z.free 8) (z.free 10) (x_var 1))))))) (s_one (s_ret ((x_and (x_var 2) (x_one (x_eq hr (x_var 0) (x_var 1)))))))))
theorem ok_number_of (z : Fx fa fn tb w K mg) : FoP P w K mg base T 1 ("number_of", none) 1 m_number_of := by
  obtain ⟨fd, F⟩ := z.def_ 4 (d := d_number_of)
  exact fo_def F sc_number_of (fun _ _ _ _ _ _ us hl => match us, hl with | [_], _ => rfl) fun cdv A outer s H E hr => (s_seq (s_if (x_tw (x_wor (x_tnot (x_tchain op_le op_le sim_le sim_le (x_int) (x_callB call_len sim_len (z.free 2) (x_cons (x_var 0) x_nil)) (x_gint (z.int 15)))) (x_wor1 (x_tnot (x_test (x_callB (cr_all rfl) sim_all (z.free 14) (x_cons (x_lc rfl sc_number_of.nd (i_any (x_var 0)) (blkOk_by (own := [("sign", 1)]) (by kernel_rfl)) (fun _ _ _ _ _ => g_name sc_number_of.nd) (fun _ _ _ _ _ => x_ts0) (fun _ _ _ _ _ => (x_in hr (x_var 1) (x_gstr (z.str 13))))) x_nil))))))) (s_one (s_ret (x_neg (x_int)))) (s_nil)) (s_one (s_ret (x_if (x_tw (x_wor (x_teq hr (x_var 0) (x_str)) (x_wor1 (x_tne hr (x_ix (x_var 0) (x_int)) (x_str))))) (x_callTy (L2.CallR.or call_int1 call_int_str) sim_int (z.free 10) (x_cons (x_var 0) x_nil)) (x_neg (x_int))))))
theorem ok_is_number (z : Fx fa fn tb w K mg) : FoP P w K mg base T 1 ("is_number", none) 3 m_is_number := by
  obtain ⟨fd, F⟩ := z.def_ 5 (d := d_is_number)
  exact fo_def F sc_is_number (fun _ _ _ _ _ _ us hl => match us, hl with | [_, _, _], _ => rfl) fun cdv A outer s H E hr => (s_one (s_ret ((x_and (x_isi .int (z.free 8) (z.free 10) (x_var 0)) (x_and (x_not (x_isi .bl (z.free 8) (z.free 11) (x_var 0))) (x_one (x_chain op_le op_le sim_le sim_le (x_var 1) (x_var 0) (x_var 2))))))))
theorem ok_is_worth (z : Fx fa fn tb w K mg) : FoP P w K mg base T 2 ("is_worth", none) 1 m_is_worth := by
  obtain ⟨fd, F⟩ := z.def_ 6 (d := d_is_worth)
  exact fo_def F sc_is_worth (fun _ _ _ _ _ _ us hl => match us, hl with | [_], _ => rfl) fun cdv A outer s H E hr => (s_one (s_ret (x_call (ok_is_number z) hr px_of (z.glo 19) (x_cons (x_var 0) (x_cons (x_int) (x_cons (x_gint (z.int 18)) x_nil))))))
theorem ok_is_deed (z : Fx fa fn tb w K mg) : FoP P w K mg base T 3 ("is_deed", none) 2 m_is_deed := by
  obtain ⟨fd, F⟩ := z.def_ 7 (d := d_is_deed)
  exact fo_def F sc_is_deed (fun _ _ _ _ _ _ us hl => match us, hl with | [_, _], _ => rfl) fun cdv A outer s H E hr => (s_seq (s_if (x_tw (x_wor (x_tnot (x_test (x_isi .tup (z.free 8) (z.free 7) (x_var 0)))) (x_wor (x_teq hr (x_var 0) (x_tup x_nil)) (x_wor1 (x_tnot (x_test (x_isi .str (z.free 8) (z.free 5) (x_ix (x_var 0) (x_int))))))))) (s_one (s_ret (x_bl))) (s_nil)) (s_seq (s_asg (x_var 0) (g_star rfl (g_name sc_is_deed.nd) (g_name sc_is_deed.nd)) (GPure.ok (gp_star (gp_name _) (gp_name _)))) (s_seq (s_if (x_tne hr (x_getI (z.tab 0 (t := ("SIZES", [("put", 3), ("flush", 2), ("fence", 1), ("swear", 3)]))) (z.glo 17) (x_var 2)) (x_callB call_len sim_len (z.free 2) (x_cons (x_var 0) x_nil))) (s_one (s_ret (x_bl))) (s_nil)) (s_one (s_ret ((x_or (x_eq hr (x_var 3) (x_lst x_nil)) (x_one ((x_and (x_call (ok_is_number z) hr px_of (z.glo 19) (x_cons (x_ix (x_var 3) (x_int)) (x_cons (x_int) (x_cons (x_sub (x_var 1) (x_int)) x_nil)))) (x_one ((x_or (x_eq hr (x_callB call_len sim_len (z.free 2) (x_cons (x_var 3) x_nil)) (x_int)) (x_one (x_call (ok_is_worth z) hr px_of (z.glo 20) (x_cons (x_ix (x_var 3) (x_int)) x_nil))))))))))))))))
theorem ok_read (z : Fx fa fn tb w K mg) : FoP P w K mg base T 4 ("read", none) 1 m_read := by
  obtain ⟨fd, F⟩ := z.def_ 8 (d := d_read)
  exact fo_def F sc_read (fun _ _ _ _ _ _ us hl => match us, hl with | [_], _ => rfl) fun cdv A outer s H E hr => (s_seq (s_set sc_read.nd (x_lstC x_nil)) (s_seq (s_for po_of rfl (i_en (z.free 12) (x_cons (x_if (x_tne hr (x_var 0) (x_str)) (x_bm PySem.F.plainAttrs_str PySem.F.slot_str_split PySem.F.type_str_split mt_split sim_split ty_str (x_var 0) (x_cons (x_str) x_nil)) (x_lst x_nil)) x_nil)) (g_tup rfl (g_cons (g_name sc_read.nd) (g_cons (g_name sc_read.nd) g_nil))) (s_seq (s_asg (x_bm PySem.F.plainAttrs_str PySem.F.slot_str_split PySem.F.type_str_split mt_split sim_split ty_str (x_var 3) (x_cons (x_str) x_nil)) (g_star rfl (g_name sc_read.nd) (g_name sc_read.nd)) (GPure.ok (gp_star (gp_name _) (gp_name _)))) (s_seq (s_set sc_read.nd (x_callTy call_tuple_of sim_tupOf (z.free 7) (x_cons (x_add (x_lst (x_cons (x_var 4) x_nil)) (x_lc rfl sc_read.nd (i_any (x_var 5)) (blkOk_by (own := [("one", 7)]) (by kernel_rfl)) (fun _ _ _ _ _ => g_name sc_read.nd) (fun _ _ _ _ _ => x_ts0) (fun _ _ _ _ _ => (x_call (ok_number_of z) hr passL (z.glo 16) (x_cons (x_var 7) x_nil))))) x_nil))) (s_seq (s_if (x_tw (x_wor (x_teq hr (x_var 2) (x_gint (z.int 23))) (x_wor1 (x_tnot (x_test (x_call (ok_is_deed z) hr px_of (z.glo 22) (x_cons (x_var 6) (x_cons (x_gint (z.int 21)) x_nil)))))))) (s_one (s_never)) (s_nil)) (s_one (s_drop (x_append (x_var 1) (x_var 6)))))))) (s_one (s_ret (x_fz (x_var 1))))))
theorem ok_written (z : Fx fa fn tb w K mg) : FoP P w K mg base T 1 ("written", none) 1 m_written := by
  obtain ⟨fd, F⟩ := z.def_ 9 (d := d_written)
  exact fo_def F sc_written (fun _ _ _ _ _ _ us hl => match us, hl with | [_], _ => rfl) fun cdv A outer s H E hr => (s_one (s_ret (x_bm PySem.F.plainAttrs_str PySem.F.slot_str_join PySem.F.type_str_join mt_join sim_join ty_str (x_str) (x_cons (x_lc rfl sc_written.nd (i_any (x_var 0)) (blkOk_by (own := [("deed", 1)]) (by kernel_rfl)) (fun _ _ _ _ _ => g_name sc_written.nd) (fun _ _ _ _ _ => x_ts0) (fun _ _ _ _ _ => (x_bm PySem.F.plainAttrs_str PySem.F.slot_str_join PySem.F.type_str_join mt_join sim_join ty_str (x_str) (x_cons (x_lc rfl sc_written.nd (i_any (x_var 1)) (blkOk_by (own := [("part", 2)]) (by kernel_rfl)) (fun _ _ _ _ _ => g_name sc_written.nd) (fun _ _ _ _ _ => x_ts0) (fun _ _ _ _ _ => (x_callTy (L2.CallR.or call_str_int SkE.call_str_str) sim_str (z.free 5) (x_cons (x_var 2) x_nil)))) x_nil)))) x_nil))))
theorem ok_law (z : Fx fa fn tb w K mg) {fd : FuncData} (F : FunD K "law" "law" (defArgs s_law) (defBody s_law) (defScope s_law) [] [] (He.fAd K ("law", none)) fd) : FnOk P w K mg base (L2.CX P w) 8 (He.fAd K ("law", none)) fd ["_law_script"] (spOf K [] 1 m_law) :=
  fn_def F sc_law fun cdv A outer s H E hr => (s_seq (s_set sc_law.nd (x_call (ok_l_start z) hr px_of (z.glo 0) (x_cons (x_var 0) x_nil))) (s_seq (s_for po_of rfl (i_range1 (z.free 1) (x_cons (x_int) x_nil)) (g_name sc_law.nd) (s_seq (s_set sc_law.nd (x_call (ok_l_row z) hr px_of (z.glo 4) (x_cons (x_var 1) (x_cons (x_ix (x_lst (x_cons (x_int) (x_cons (x_int) x_nil))) (x_div (x_call (ok_l_drawn z) hr px_of (z.glo 3) (x_cons (x_var 1) (x_cons (x_int) x_nil))) (x_int))) x_nil)))) (s_seq (s_set sc_law.nd (x_bm PySem.F.plainAttrs_str PySem.F.slot_str_join PySem.F.type_str_join mt_join sim_join ty_str (x_str) (x_cons (x_lc rfl sc_law.nd (i_any (x_var 3)) (blkOk_by (own := [("_law_deed", 5)]) (by kernel_rfl)) (fun _ _ _ _ _ => g_name sc_law.nd) (fun _ _ _ _ _ => x_ts0) (fun _ _ _ _ _ => (x_bm PySem.F.plainAttrs_str PySem.F.slot_str_join PySem.F.type_str_join mt_join sim_join ty_str (x_str) (x_cons (x_lc rfl sc_law.nd (i_any (x_var 5)) (blkOk_by (own := [("_law_part", 6)]) (by kernel_rfl)) (fun _ _ _ _ _ => g_name sc_law.nd) (fun _ _ _ _ _ => x_ts0) (fun _ _ _ _ _ => (x_callTy (L2.CallR.or call_str_int SkE.call_str_str) sim_str (z.free 5) (x_cons (x_var 6) x_nil)))) x_nil)))) x_nil))) (s_seq (s_if (x_tw (x_wor (x_tnot (x_test (x_call (ok_l_same 6 z) hr px_of (z.glo 9) (x_cons (x_call (ok_written z) hr px_of (z.glo 25) (x_cons (x_var 3) x_nil)) (x_cons (x_var 4) x_nil))))) (x_wor1 (x_tnot (x_test (x_call (ok_l_same 6 z) hr px_of (z.glo 9) (x_cons (x_call (ok_read z) hr px_of (z.glo 24) (x_cons (x_var 4) x_nil)) (x_cons (x_var 3) x_nil)))))))) (s_one (s_ret (x_bl))) (s_nil)) (s_one (s_if (x_tw (x_wor (x_tne hr (x_call (ok_read z) hr px_of (z.glo 24) (x_cons (x_call (ok_written z) hr px_of (z.glo 25) (x_cons (x_var 3) x_nil)) x_nil)) (x_var 3)) (x_wor1 (x_tne hr (x_call (ok_written z) hr px_of (z.glo 25) (x_cons (x_call (ok_read z) hr px_of (z.glo 24) (x_cons (x_var 4) x_nil)) x_nil)) (x_var 4))))) (s_one (s_ret (x_bl))) (s_nil))))))) (s_one (s_ret (x_bl)))))
end
end Fq
namespace Fq
open PySem PySem.Spec PyProof.Rows L2 Fk
def nm0 : List Str := ["KeepError", "BadText", "MOST_CELLS", "MOST_WORTH", "MOST_DEEDS", "PUT", "FLUSH", "FENCE", "SWEAR", "SIZES", "is_number", "is_worth", "is_deed", "FIGURES", "MOST_FIGURES", "written", "number_of", "read", "_law_start", "_law_drawn", "_law_same", "_law_row"]
abbrev nms : List Str := nm0
abbrev R : PySem.W.OpenRow := PySem.W.OpenLaw.row PySem.Challenge.rw_fencekeep_k23_rows_written_and_read
abbrev hk : PySem.W.Hook := hookF 6 fa fn tb
def ob (s : PySem.W.SharedT) : AlF := obsFG 6 fa fn tb (HandSHeadRun.getT s)
theorem ob_eq (s : PySem.W.SharedT) : ob s = hk.obs s.abs := obsFG_eq (HandSHeadRun.getT_eq s)
theorem run (w : World) : HandSHeadRun.RunEq R (PySem.W.view R.prog [26]) hk ob 4000 nms w :=
  PySem.W.byRow2 "special-get-raises" (P := fun w => HandSHeadRun.RunEq R (PySem.W.view R.prog [26]) hk ob 4000 nms w) (fun w os => by kernel_rfl) (fun w os => by kernel_rfl) w
theorem facts {P : Program} {w : World} {K : PySem.W.Frag} {h : Heap} {mg : Str → Option Value} {f : Addr} (X : K.In h) (G : h.Ns mainGlobals mg) (hfa : mg ("law" : Str) = some (.ref f)) (c : SaysF fa fn tb w K) :
    ∃ fd : FuncData, (∀ (s : Shared) (v : Value), BindsTo s fd ⟨[v], []⟩ [("_law_script", v)]) ∧ ∀ base : Heap, K.In base → base.Ns mainGlobals mg → FnOk P w K mg base (L2.CX P w) 8 f fd ["_law_script"] (spOf K [] 1 m_law) := by
  have z : Fx fa fn tb w K mg := ⟨h, X, G, c⟩
  obtain ⟨fd, F⟩ := z.def_ 10 (d := d_law)
  have e := hfa.symm.trans (z.glo (x := "law") 26)
  cases e
  have b := FunD.bindsA (ps := ["_law_script"]) F fun _ _ _ _ _ _ us hl => match us, hl with | [_], _ => rfl
  exact ⟨fd, fun s v => b s [v] rfl, fun base _ _ => ok_law z F⟩
end Fq
open PySem PySem.W PySem.Calls PyProof.Rows
theorem PySem.Challenge.cw_fencekeep_k23_rows_written_and_read_holds : PySem.Challenge.rw_fencekeep_k23_rows_written_and_read.Holds := by
  w_on; o_law
  refine HandSHeadRun.head_any (r := OpenLaw.row PySem.Challenge.rw_fencekeep_k23_rows_written_and_read) (q := view (OpenLaw.row PySem.Challenge.rw_fencekeep_k23_rows_written_and_read).prog [26]) (H := Fq.hk) (ob := Fq.ob) (M := 4000) (loose := Fq.nms) (d := HandSHeadRun.topDef (OpenLaw.row PySem.Challenge.rw_fencekeep_k23_rows_written_and_read).prog 26) (kwd := []) Fq.ob_eq
    (by kernel_rfl) (fun s => by kernel_rfl) Fq.run (by kernel_rfl) (by kernel_rfl) (by kernel_rfl) (by rfl) (by first | assumption | decide +kernel) (by decide +kernel) ⟨rfl, rfl, rfl, rfl, rfl, by decide +kernel⟩ ?hw ?hc
  case hw => w_witness2
  case hc =>
    refine LamX.walk_ofTsE (l := PySem.Challenge.rw_fencekeep_k23_rows_written_and_read) (n := 63) (k := 8) (x := "_law_script") (CX := fun w => L2.CX PySem.Challenge.rw_fencekeep_k23_rows_written_and_read.prog w) rfl (by decide) (by kernel_rfl) ⟨rfl, by decide, by decide⟩ ?F Fk.cx_none
    intro w mg fa h Y G hmg0
    obtain ⟨K, KX, c⟩ := Y
    have hmg : mg ("law" : PySem.Str) = some (.ref fa) := by
      have e : (HandSHeadRun.topDef (OpenLaw.row PySem.Challenge.rw_fencekeep_k23_rows_written_and_read).prog 26).name = ("law" : PySem.Str) := by kernel_rfl
      rw [← e]
      exact hmg0
    obtain ⟨fd, hb, hF⟩ := Fq.facts (P := (PySem.Challenge.rw_fencekeep_k23_rows_written_and_read).prog) (w := w) KX G hmg c
    refine ⟨K, KX, fd, [], Fk.spOf K [] 1 Fk.m_law, (fun p h => by cases h), (fun p h => by cases h), (fun p h => by cases h), hb, fun H a ns hl hbits hT hS => ?_, fun base k1 k2 _ => hF base k1 k2⟩
    obtain ⟨st, e⟩ := Fk.law_k23 ns hl
    exact Fk.law_sp (fun p h => by cases h) hS e _
