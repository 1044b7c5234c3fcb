import PyProof.Rows.All
import HandS.ForMost
import HandS.EndTab
import HandS.EndOwn
import HandS.TryMany
import HandS.CallSlots
import HandS.WordsExc
import HandS.Wide
import HandS.TupAny
import HandS.SortInts
import HandS.AnyAll
import HandS.Rev
import HandS.Zip
import HandS.GenOver
import PyProof.GenComp
import HandS.Lambda
import HandS.Style
import HandS.Dict
import HandS.DictTup
import HandS.HeadHook4
import HandS.HeadWalk
import HandS.Head2
import PySem.Challenge.RW_idealhall_k01_clocks
set_option Elab.async false
set_option linter.all false
set_option maxRecDepth 100000
set_option maxHeartbeats 1000000
/-! The layer M, part A: data, stores, outcomes; what they stand for in the abstract heap. -/
namespace Mx
open PySem PySem.Spec PyProof.Rows L2

/-- data: what a Python value is worth; loc: a place in the store; scr: the script -/
inductive D where
  | non | bl (b : Bool) | int (i : Int) | str (x : Str) | tup (xs : List D) | loc (n : Nat) | scr (ns : List Int)

mutual
def D.eqb : D → D → Bool
  | .non, .non => true
  | .bl a, .bl b => a == b
  | .int a, .int b => decide (a = b)
  | .str a, .str b => decide (a = b)
  | .tup a, .tup b => D.eqbs a b
  | .loc a, .loc b => Nat.beq a b
  | .scr a, .scr b => decide (a = b)
  | _, _ => false
def D.eqbs : List D → List D → Bool
  | [], [] => true
  | a :: r, b :: s => D.eqb a b && D.eqbs r s
  | _, _ => false
end
mutual
theorem D.eqb_eq : ∀ a b : D, D.eqb a b = true → a = b
  | .non, b, h => by cases b <;> simp [D.eqb] at h ⊢
  | .bl a, b, h => by cases b <;> simp_all [D.eqb]
  | .int a, b, h => by cases b <;> simp_all [D.eqb]
  | .str a, b, h => by cases b <;> simp_all [D.eqb]
  | .tup a, b, h => by
    cases b with
    | tup b => rw [D.eqbs_eq a b (by simpa [D.eqb] using h)]
    | _ => simp [D.eqb] at h
  | .loc a, b, h => by
    cases b with
    | loc b =>
      have e : Nat.beq a b = true := by simpa [D.eqb] using h
      rw [Nat.eq_of_beq_eq_true e]
    | _ => simp [D.eqb] at h
  | .scr a, b, h => by cases b <;> simp_all [D.eqb]
theorem D.eqbs_eq : ∀ a b : List D, D.eqbs a b = true → a = b
  | [], [], _ => rfl
  | a :: r, b :: s, h => by
    have h' : D.eqb a b = true ∧ D.eqbs r s = true := by simpa [D.eqbs] using h
    rw [D.eqb_eq a b h'.1, D.eqbs_eq r s h'.2]
  | [], _ :: _, h => by simp [D.eqbs] at h
  | _ :: _, [], h => by simp [D.eqbs] at h
end
mutual
theorem D.eqb_refl : ∀ a : D, D.eqb a a = true
  | .non => rfl
  | .bl a => by simp [D.eqb]
  | .int a => by simp [D.eqb]
  | .str a => by simp [D.eqb]
  | .tup a => by simp [D.eqb, D.eqbs_refl a]
  | .loc a => by simp [D.eqb, Nat.beq_refl]
  | .scr a => by simp [D.eqb]
theorem D.eqbs_refl : ∀ a : List D, D.eqbs a a = true
  | [] => rfl
  | a :: r => by simp [D.eqbs, D.eqb_refl a, D.eqbs_refl r]
end
instance : DecidableEq D := fun a b => if h : D.eqb a b = true then .isTrue (D.eqb_eq a b h) else .isFalse (fun e => h (e ▸ D.eqb_refl a))

inductive SO where
  | lst (xs : List D) | dK (kvs : List (Key × D)) | dT (kvs : List (List Key × D)) | ins (c : Str) (fs : List (Str × D))
  deriving DecidableEq
abbrev Store := List SO
structure Exc where
  cls : Str
  part : Option D
  deriving DecidableEq
inductive Out (α : Type) where
  | ok (a : α) (S : Store) | exc (x : Exc) (S : Store) | bad
abbrev Env' := List (Option D)
inductive OutS where
  | next (ρ : Env') (S : Store) | ret (d : D) (S : Store) | brk (ρ : Env') (S : Store) | cont (ρ : Env') (S : Store) | exc (x : Exc) (ρ : Env') (S : Store) | bad

/-- globals of the layer: the written part, the tables of code objects with the name that theirs bear, the classes by name -/
structure Gb where
  K : PySem.W.Frag
  T : List (Addr × Str)
  cA : Str → Option Addr

/-- where the store lies -/
structure Wd where
  H : Hp
  N : Nat
  at_ : Nat → Addr

def ScrAt (G : Gb) (w : Wd) (a : Addr) (xs : List V) : Prop :=
  (∃ o, w.H a = some (.frz o (.lst xs))) ∨
    ∃ (o : Obj) (its : Array Value) (n : Nat), G.K.lookup a = some o ∧ o.cls = .type "list" ∧ o.dict = none ∧ o.data = .seq its n ∧ its.size ≤ sizeLine ∧ Vals xs its.toList
theorem ScrAt.seq {G : Gb} {w : Wd} {a : Addr} {xs : List V} (h : ScrAt G w a xs) : SqL G.K w.H a xs := by
  rcases h with ⟨o, e⟩ | h
  · exact .inl (.inr ⟨o, e⟩)
  · exact .inr h

section
variable (G : Gb) (w : Wd)
mutual
def Rep : D → V → Prop
  | .non, v => v = .non
  | .bl b, v => v = .bl b
  | .int i, v => v = .int i
  | .str x, v => v = .str x
  | .tup xs, v => ∃ a vs, v = .ref a ∧ w.H a = some (.tup vs) ∧ Reps xs vs
  | .loc n, v => n < w.N ∧ v = .ref (w.at_ n)
  | .scr ns, v => ∃ a, v = .ref a ∧ ScrAt G w a (ns.map V.int)
def Reps : List D → List V → Prop
  | [], vs => vs = []
  | d :: ds, vs => ∃ v r, vs = v :: r ∧ Rep d v ∧ Reps ds r
end
def RepKV {κ : Type} : List (κ × D) → List (κ × V) → Prop
  | [], vs => vs = []
  | d :: ds, vs => ∃ v r, vs = v :: r ∧ d.1 = v.1 ∧ Rep G w d.2 v.2 ∧ RepKV ds r
def RepO : SO → HO → Prop
  | .lst xs, o => ∃ vs, o = .lst vs ∧ Reps G w xs vs
  | .dK kvs, o => ∃ vs, o = .dK vs ∧ RepKV G w kvs vs
  | .dT kvs, o => ∃ vs, o = .dT vs ∧ RepKV G w kvs vs
  | .ins c fs, o => ∃ C dx vs, o = .ins C dx vs ∧ G.cA c = some C ∧ RepKV G w fs vs
structure RepS (S : Store) : Prop where
  len : S.length = w.N
  at_ : ∀ (n : Nat) o, S[n]? = some o → ∃ u, w.H (w.at_ n) = some u ∧ RepO G w o u
  inj : ∀ i j, i < w.N → j < w.N → w.at_ i = w.at_ j → i = j
  tabs : LamX.Tabs G.T w.H
def RepE (ρ : Env') (σ : L2.St) : Prop := ρ.length = σ.length ∧ ∀ (i : Nat) d, ρ[i]? = some (some d) → ∃ v, σ[i]? = some (some v) ∧ Rep G w d v
def RepX (x : Exc) (cls : Value) (dd : Option Addr) : Prop := ∃ C, G.cA x.cls = some C ∧ cls = .ref C ∧
  match x.part with
  | none => True
  | some p => ∃ dx v, dd = some dx ∧ w.H dx = some (.xd [("part", v)]) ∧ Rep G w p v
end

/-- the world has grown -/
structure Ext (w w' : Wd) : Prop where
  le : w.N ≤ w'.N
  at_ : ∀ n, n < w.N → w'.at_ n = w.at_ n
  keep : ∀ a u, w.H a = some u → (∀ n, n < w.N → w.at_ n ≠ a) → (∀ ps, u ≠ .tbl ps) → w'.H a = some u
  tup : ∀ a xs, w.H a = some (.tup xs) → w'.H a = some (.tup xs)
  frz : ∀ a o u, w.H a = some (.frz o u) → w'.H a = some (.frz o u)
  fresh : ∀ n, w.N ≤ n → n < w'.N → ∀ u, w.H (w'.at_ n) = some u → ∃ ps, u = .tbl ps
  dom : ∀ a u, w.H a = some u → (∀ ps, u ≠ .tbl ps) → ∃ u', w'.H a = some u' ∧ ∀ ps, u' ≠ .tbl ps
theorem Ext.refl (w : Wd) : Ext w w := ⟨Nat.le_refl _, fun _ _ => rfl, fun _ _ e _ _ => e, fun _ _ e => e, fun _ _ _ e => e, fun n h h' => absurd (Nat.lt_of_lt_of_le h' h) (Nat.lt_irrefl _), fun _ u e ht => ⟨u, e, ht⟩⟩
theorem Ext.trans {w w1 w2 : Wd} (a : Ext w w1) (b : Ext w1 w2) : Ext w w2 where
  le := Nat.le_trans a.le b.le
  at_ := fun n h => (b.at_ n (Nat.lt_of_lt_of_le h a.le)).trans (a.at_ n h)
  keep := fun c u e h ht => b.keep c u (a.keep c u e h ht) (fun n hn => by
    by_cases h1 : n < w.N
    · rw [a.at_ n h1]; exact h n h1
    · intro z
      obtain ⟨ps, q⟩ := a.fresh n (Nat.le_of_not_lt h1) hn u (by rw [z]; exact e)
      exact ht ps q) ht
  tup := fun c xs e => b.tup c xs (a.tup c xs e)
  frz := fun c o u e => b.frz c o u (a.frz c o u e)
  fresh := fun n h1 h2 u q => by
    by_cases h : n < w1.N
    · rw [b.at_ n h] at q; exact a.fresh n h1 h u q
    · by_cases ht : ∀ ps, u ≠ .tbl ps
      · obtain ⟨u', e, h'⟩ := a.dom _ u q ht
        obtain ⟨ps, z⟩ := b.fresh n (Nat.le_of_not_lt h) h2 u' e
        exact absurd z (h' ps)
      · exact Classical.byContradiction fun hc => ht fun ps z => hc ⟨ps, z⟩
  dom := fun c u e ht => let ⟨u', e', h'⟩ := a.dom c u e ht; b.dom c u' e' h'

/-- what the readings lean on -/
structure ExtR (w w' : Wd) : Prop where
  le : w.N ≤ w'.N
  at_ : ∀ n, n < w.N → w'.at_ n = w.at_ n
  tup : ∀ a xs, w.H a = some (.tup xs) → w'.H a = some (.tup xs)
  frz : ∀ a o u, w.H a = some (.frz o u) → w'.H a = some (.frz o u)
theorem Ext.r {w w' : Wd} (x : Ext w w') : ExtR w w' := ⟨x.le, x.at_, x.tup, x.frz⟩
section
variable {G : Gb} {w w' : Wd}
theorem ScrAt.monoR {a : Addr} {xs : List V} (x : ExtR w w') (h : ScrAt G w a xs) : ScrAt G w' a xs := by
  rcases h with ⟨o, e⟩ | h
  · exact .inl ⟨o, x.frz a o _ e⟩
  · exact .inr h
mutual
theorem Rep.monoR (x : ExtR w w') : ∀ {d : D} {v : V}, Rep G w d v → Rep G w' d v
  | .non, _, h => by simpa only [Rep] using h
  | .bl _, _, h => by simpa only [Rep] using h
  | .int _, _, h => by simpa only [Rep] using h
  | .str _, _, h => by simpa only [Rep] using h
  | .tup xs, v, h => by
    simp only [Rep] at h ⊢
    obtain ⟨a, vs, e, e2, r⟩ := h
    exact ⟨a, vs, e, x.tup a vs e2, Reps.monoR x r⟩
  | .loc n, v, h => by
    simp only [Rep] at h ⊢
    exact ⟨Nat.lt_of_lt_of_le h.1 x.le, by rw [x.at_ n h.1]; exact h.2⟩
  | .scr ns, v, h => by
    simp only [Rep] at h ⊢
    obtain ⟨a, e, h⟩ := h
    exact ⟨a, e, h.monoR x⟩
theorem Reps.monoR (x : ExtR w w') : ∀ {ds : List D} {vs : List V}, Reps G w ds vs → Reps G w' ds vs
  | [], _, h => by simpa only [Reps] using h
  | d :: ds, vs, h => by
    simp only [Reps] at h ⊢
    obtain ⟨v, r, e, h1, h2⟩ := h
    exact ⟨v, r, e, Rep.monoR x h1, Reps.monoR x h2⟩
end
theorem RepKV.monoR {κ : Type} (x : ExtR w w') : ∀ {ds : List (κ × D)} {vs : List (κ × V)}, RepKV G w ds vs → RepKV G w' ds vs
  | [], _, h => by simpa only [RepKV] using h
  | d :: ds, vs, h => by
    simp only [RepKV] at h ⊢
    obtain ⟨v, r, e, h0, h1, h2⟩ := h
    exact ⟨v, r, e, h0, h1.monoR x, RepKV.monoR x h2⟩
theorem RepO.monoR (x : ExtR w w') : ∀ {o : SO} {u : HO}, RepO G w o u → RepO G w' o u
  | .lst xs, _, ⟨vs, e, r⟩ => ⟨vs, e, r.monoR x⟩
  | .dK kvs, _, ⟨vs, e, r⟩ => ⟨vs, e, r.monoR x⟩
  | .dT kvs, _, ⟨vs, e, r⟩ => ⟨vs, e, r.monoR x⟩
  | .ins c fs, _, ⟨C, dx, vs, e, h, r⟩ => ⟨C, dx, vs, e, h, r.monoR x⟩
theorem RepE.monoR {ρ : Env'} {σ : L2.St} (x : ExtR w w') (h : RepE G w ρ σ) : RepE G w' ρ σ := ⟨h.1, fun i d e => let ⟨v, h1, h2⟩ := h.2 i d e; ⟨v, h1, h2.monoR x⟩⟩
theorem ScrAt.mono {a : Addr} {xs : List V} (x : Ext w w') (h : ScrAt G w a xs) : ScrAt G w' a xs := h.monoR x.r
theorem Rep.mono (x : Ext w w') {d : D} {v : V} (h : Rep G w d v) : Rep G w' d v := h.monoR x.r
theorem Reps.mono (x : Ext w w') {ds : List D} {vs : List V} (h : Reps G w ds vs) : Reps G w' ds vs := h.monoR x.r
theorem RepKV.mono {κ : Type} (x : Ext w w') {ds : List (κ × D)} {vs : List (κ × V)} (h : RepKV G w ds vs) : RepKV G w' ds vs := h.monoR x.r
theorem RepO.mono (x : Ext w w') {o : SO} {u : HO} (h : RepO G w o u) : RepO G w' o u := h.monoR x.r
theorem RepE.mono {ρ : Env'} {σ : L2.St} (x : Ext w w') (h : RepE G w ρ σ) : RepE G w' ρ σ := h.monoR x.r
theorem RepO.notTbl {o : SO} {u : HO} (h : RepO G w o u) : (∀ ps, u ≠ .tbl ps) ∧ (∀ xs, u ≠ .tup xs) ∧ (∀ o y, u ≠ .frz o y) ∧ (∀ φ, u ≠ .ext φ) ∧ (∀ y, u ≠ .own y) ∧ Mut (some u) := by
  cases o with
  | lst xs => obtain ⟨vs, rfl, _⟩ := h; exact ⟨(fun _ z => nomatch z), (fun _ z => nomatch z), (fun _ _ z => nomatch z), (fun _ z => nomatch z), (fun _ z => nomatch z), trivial⟩
  | dK xs => obtain ⟨vs, rfl, _⟩ := h; exact ⟨(fun _ z => nomatch z), (fun _ z => nomatch z), (fun _ _ z => nomatch z), (fun _ z => nomatch z), (fun _ z => nomatch z), trivial⟩
  | dT xs => obtain ⟨vs, rfl, _⟩ := h; exact ⟨(fun _ z => nomatch z), (fun _ z => nomatch z), (fun _ _ z => nomatch z), (fun _ z => nomatch z), (fun _ z => nomatch z), trivial⟩
  | ins c fs => obtain ⟨C, dx, vs, rfl, _⟩ := h; exact ⟨(fun _ z => nomatch z), (fun _ z => nomatch z), (fun _ _ z => nomatch z), (fun _ z => nomatch z), (fun _ z => nomatch z), trivial⟩
theorem Reps.length : ∀ {ds : List D} {vs : List V}, Reps G w ds vs → ds.length = vs.length
  | [], _, h => by simp only [Reps] at h; rw [h]; rfl
  | d :: ds, _, h => by
    simp only [Reps] at h
    obtain ⟨v, r, rfl, _, h⟩ := h
    simp [Reps.length h]
theorem Reps.get : ∀ {ds : List D} {vs : List V} {i : Nat} {d : D}, Reps G w ds vs → ds[i]? = some d → ∃ v, vs[i]? = some v ∧ Rep G w d v
  | [], _, i, _, _, e => by simp at e
  | d :: ds, _, 0, _, h, e => by
    simp only [Reps] at h
    obtain ⟨v, r, rfl, h1, _⟩ := h
    simp at e
    subst e
    exact ⟨v, rfl, h1⟩
  | d :: ds, _, i + 1, _, h, e => by
    simp only [Reps] at h
    obtain ⟨v, r, rfl, _, h2⟩ := h
    obtain ⟨v', h3, h4⟩ := Reps.get (i := i) h2 (by simpa using e)
    exact ⟨v', by simpa using h3, h4⟩
theorem Reps.get' {ds : List D} {vs : List V} {i : Nat} {v : V} (r : Reps G w ds vs) (e : vs[i]? = some v) : ∃ d, ds[i]? = some d ∧ Rep G w d v := by
  have hl := r.length
  have hi : i < vs.length := (List.getElem?_eq_some_iff.mp e).1
  obtain ⟨d, hd⟩ : ∃ d, ds[i]? = some d := ⟨ds[i]'(by omega), List.getElem?_eq_getElem (by omega)⟩
  obtain ⟨v', e', r'⟩ := r.get hd
  rw [e] at e'
  cases e'
  exact ⟨d, hd, r'⟩
theorem Reps.set {d : D} {v : V} (r : Rep G w d v) : ∀ {ds : List D} {vs : List V} (i : Nat), Reps G w ds vs → Reps G w (ds.set i d) (vs.set i v)
  | [], _, _, h => by simp only [Reps] at h; rw [h]; simp [Reps]
  | _ :: _, _, 0, h => by
    simp only [Reps] at h
    obtain ⟨v', s, rfl, h1, h2⟩ := h
    exact ⟨v, s, rfl, r, h2⟩
  | _ :: _, _, i + 1, h => by
    simp only [Reps] at h
    obtain ⟨v', s, rfl, h1, h2⟩ := h
    exact ⟨v', s.set i v, rfl, h1, Reps.set r i h2⟩
theorem Reps.append : ∀ {ds es : List D} {vs us : List V}, Reps G w ds vs → Reps G w es us → Reps G w (ds ++ es) (vs ++ us)
  | [], _, _, _, h, h' => by simp only [Reps] at h; rw [h]; exact h'
  | d :: ds, es, _, us, h, h' => by
    simp only [Reps] at h
    obtain ⟨v, r, rfl, h1, h2⟩ := h
    exact ⟨v, r ++ us, rfl, h1, h2.append h'⟩
theorem Reps.take : ∀ {ds : List D} {vs : List V} (n : Nat), Reps G w ds vs → Reps G w (ds.take n) (vs.take n)
  | [], _, n, h => by simp only [Reps] at h; rw [h]; simp [Reps]
  | d :: ds, _, 0, h => by simp [Reps]
  | d :: ds, _, n + 1, h => by
    simp only [Reps] at h
    obtain ⟨v, r, rfl, h1, h2⟩ := h
    exact ⟨v, r.take n, rfl, h1, h2.take n⟩
theorem Reps.drop : ∀ {ds : List D} {vs : List V} (n : Nat), Reps G w ds vs → Reps G w (ds.drop n) (vs.drop n)
  | [], _, n, h => by simp only [Reps] at h; rw [h]; simp [Reps]
  | d :: ds, _, 0, h => h
  | d :: ds, _, n + 1, h => by
    simp only [Reps] at h
    obtain ⟨v, r, rfl, h1, h2⟩ := h
    exact h2.drop n
theorem Reps.cons {d : D} {v : V} {ds : List D} {vs : List V} (h : Rep G w d v) (hs : Reps G w ds vs) : Reps G w (d :: ds) (v :: vs) := ⟨v, vs, rfl, h, hs⟩
theorem Reps.nil : Reps G w [] [] := by simp [Reps]
theorem Reps.ints : ∀ {ns : List Int} {vs : List V}, Reps G w (ns.map D.int) vs ↔ vs = ns.map V.int
  | [], vs => by simp [Reps]
  | n :: ns, vs => by
    simp only [List.map_cons, Reps, Rep, Reps.ints]
    constructor
    · rintro ⟨v, r, rfl, rfl, rfl⟩; rfl
    · rintro rfl; exact ⟨_, _, rfl, rfl, rfl⟩
theorem RepE.get {ρ : Env'} {σ : L2.St} {i : Nat} {d : D} (h : RepE G w ρ σ) (e : ρ[i]? = some (some d)) : ∃ v, σ[i]? = some (some v) ∧ Rep G w d v := h.2 i d e
theorem RepE.set {ρ : Env'} {σ : L2.St} {d : D} {v : V} (h : RepE G w ρ σ) (r : Rep G w d v) (i : Nat) : RepE G w (ρ.set i (some d)) (σ.set i (some v)) := by
  refine ⟨by simp [h.1], fun j d' e => ?_⟩
  by_cases hj : i = j
  · subst hj
    by_cases hl : i < ρ.length
    · rw [List.getElem?_set_self hl] at e
      cases e
      exact ⟨v, List.getElem?_set_self (by rw [← h.1]; exact hl), r⟩
    · rw [List.getElem?_eq_none (by simpa using hl)] at e
      cases e
  · rw [List.getElem?_set_ne hj] at e ⊢
    exact h.2 j d' e

/-! ### the store grows, is written -/
def Wd.push (w : Wd) (p : Addr) (o : HO) : Wd := ⟨upd w.H p o, w.N + 1, fun n => if n = w.N then p else w.at_ n⟩
def Wd.up (w : Wd) (p : Addr) (o : HO) : Wd := ⟨upd w.H p o, w.N, w.at_⟩
theorem Wd.push_at {p : Addr} {o : HO} {n : Nat} (h : n < w.N) : (w.push p o).at_ n = w.at_ n := if_neg (Nat.ne_of_lt h)
theorem Wd.push_last {p : Addr} {o : HO} : (w.push p o).at_ w.N = p := if_pos rfl
theorem tabs_new {p : Addr} {o : HO} {T : List (Addr × Str)} (h : w.H p = none) (t : LamX.Tabs T w.H) : LamX.Tabs T (upd w.H p o) := t.ext fun b u e => by rw [upd_ne (ne_of_none e h)]; exact e
theorem Ext.pushed {p : Addr} {o : HO} (h : w.H p = none) : Ext w (w.push p o) where
  le := Nat.le_succ _
  at_ := fun n hn => Wd.push_at hn
  keep := fun a u e _ _ => (upd_ne (ne_of_none e h)).trans e
  tup := fun a xs e => (upd_ne (ne_of_none e h)).trans e
  frz := fun a o u e => (upd_ne (ne_of_none e h)).trans e
  fresh := fun n h1 h2 u q => by
    have e : n = w.N := Nat.le_antisymm (Nat.le_of_lt_succ h2) h1
    rw [e, Wd.push_last, h] at q
    cases q
  dom := fun a u e ht => ⟨u, (upd_ne (ne_of_none e h)).trans e, ht⟩
theorem Ext.grown {p : Addr} {o : HO} (h : w.H p = none) : Ext w (w.up p o) where
  le := Nat.le_refl _
  at_ := fun n hn => rfl
  keep := fun a u e _ _ => (upd_ne (ne_of_none e h)).trans e
  tup := fun a xs e => (upd_ne (ne_of_none e h)).trans e
  frz := fun a o u e => (upd_ne (ne_of_none e h)).trans e
  fresh := fun n h1 h2 => absurd (Nat.lt_of_lt_of_le h2 h1) (Nat.lt_irrefl _)
  dom := fun a u e ht => ⟨u, (upd_ne (ne_of_none e h)).trans e, ht⟩
theorem RepS.grown {S : Store} {p : Addr} {o : HO} (R : RepS G w S) (h : w.H p = none) : RepS G (w.up p o) S where
  len := R.len
  at_ := fun n so e => by
    obtain ⟨u, e1, r⟩ := R.at_ n so e
    exact ⟨u, (upd_ne (ne_of_none e1 h)).trans e1, r.mono (Ext.grown h)⟩
  inj := R.inj
  tabs := tabs_new h R.tabs
theorem RepS.lt {S : Store} {n : Nat} {o : SO} (R : RepS G w S) (e : S[n]? = some o) : n < w.N := by
  rw [← R.len]; exact (List.getElem?_eq_some_iff.mp e).1
theorem RepS.there {S : Store} {n : Nat} (R : RepS G w S) (h : n < w.N) : ∃ o, S[n]? = some o := ⟨S[n]'(by rw [R.len]; exact h), List.getElem?_eq_getElem _⟩
theorem RepS.pushed {S : Store} {p : Addr} {so : SO} {o : HO} (R : RepS G w S) (h : w.H p = none) (r : RepO G w so o) : RepS G (w.push p o) (S ++ [so]) where
  len := by simp [R.len, Wd.push]
  at_ := fun n u e => by
    by_cases hn : n < S.length
    · rw [List.getElem?_append_left hn] at e
      obtain ⟨v, e1, r1⟩ := R.at_ n u e
      rw [Wd.push_at (R.lt e)]
      exact ⟨v, (upd_ne (ne_of_none e1 h)).trans e1, r1.mono (Ext.pushed h)⟩
    · rw [List.getElem?_append_right (Nat.le_of_not_lt hn)] at e
      have hz : n - S.length = 0 := by
        have := (List.getElem?_eq_some_iff.mp e).1
        simp at this
        omega
      rw [hz] at e
      cases e
      have en : n = w.N := by rw [← R.len]; omega
      rw [en, Wd.push_last]
      exact ⟨o, upd_same, r.mono (Ext.pushed h)⟩
  inj := fun i j hi hj e => by
    have far : ∀ i, i < w.N → w.at_ i ≠ p := fun i hi z => by
      obtain ⟨so', e'⟩ := R.there hi
      obtain ⟨u, e1, _⟩ := R.at_ i so' e'
      rw [z, h] at e1
      cases e1
    have hi' : i < w.N + 1 := hi
    have hj' : j < w.N + 1 := hj
    rcases Nat.lt_or_ge i w.N with a | a <;> rcases Nat.lt_or_ge j w.N with b | b
    · rw [Wd.push_at a, Wd.push_at b] at e
      exact R.inj i j a b e
    · have ej : j = w.N := by omega
      rw [ej, Wd.push_at a, Wd.push_last] at e
      exact absurd e (far i a)
    · have ei : i = w.N := by omega
      rw [ei, Wd.push_at b, Wd.push_last] at e
      exact absurd e.symm (far j b)
    · omega
  tabs := tabs_new h R.tabs
theorem Ext.written {n : Nat} {u o : HO} (hn : n < w.N) (e : w.H (w.at_ n) = some u) (hu : ∀ xs, u ≠ .tup xs) (hz : ∀ o y, u ≠ .frz o y) (ho : ∀ ps, o ≠ .tbl ps) : Ext w (w.up (w.at_ n) o) where
  le := Nat.le_refl _
  at_ := fun n hn => rfl
  keep := fun a v e1 h _ => (upd_ne (Ne.symm (h n hn))).trans e1
  tup := fun a xs e1 => (upd_ne (fun z => by rw [z, e] at e1; exact hu xs (Option.some.inj e1))).trans e1
  frz := fun a o y e1 => (upd_ne (fun z => by rw [z, e] at e1; exact hz o y (Option.some.inj e1))).trans e1
  fresh := fun n h1 h2 => absurd (Nat.lt_of_lt_of_le h2 h1) (Nat.lt_irrefl _)
  dom := fun a v e1 ht => by
    by_cases h : a = w.at_ n
    · exact ⟨o, by rw [h]; exact upd_same, ho⟩
    · exact ⟨v, (upd_ne h).trans e1, ht⟩
theorem RepS.write {S : Store} {n : Nat} {so so' : SO} {o : HO} (R : RepS G w S) (e : S[n]? = some so) (r : RepO G w so' o) : RepS G (w.up (w.at_ n) o) (S.set n so') ∧ Ext w (w.up (w.at_ n) o) := by
  have hn := R.lt e
  obtain ⟨u, e1, r1⟩ := R.at_ n so e
  have nt := r1.notTbl
  have X : Ext w (w.up (w.at_ n) o) := Ext.written hn e1 nt.2.1 nt.2.2.1 r.notTbl.1
  refine ⟨⟨by simp [R.len, Wd.up], fun m v em => ?_, R.inj, ?_⟩, X⟩
  · by_cases hm : n = m
    · subst hm
      rw [List.getElem?_set_self (by rw [R.len]; exact hn)] at em
      cases em
      exact ⟨o, upd_same, r.mono X⟩
    · rw [List.getElem?_set_ne hm] at em
      obtain ⟨v', e2, r2⟩ := R.at_ m v em
      refine ⟨v', (upd_ne (fun z => hm (R.inj n m hn (R.lt em) z.symm))).trans e2, r2.mono X⟩
  · have ne : ∀ b v, w.H b = some v → (∀ so v', RepO G w so v' → v ≠ v') → b ≠ w.at_ n := fun b v e2 h z => by
      rw [z, e1] at e2
      exact h so u r1 (Option.some.inj e2).symm
    intro p hp
    obtain ⟨ps, h1, h2, h3⟩ := R.tabs p hp
    refine ⟨ps, (upd_ne (ne _ _ h1 fun so v' r z => r.notTbl.1 ps z.symm)).trans h1, h2, fun pos cv hc => ?_⟩
    obtain ⟨c, e2, e3⟩ := h3 pos cv hc
    exact ⟨c, e2, (upd_ne (ne _ _ e3 fun so v' r z => r.notTbl.2.2.2.1 _ z.symm)).trans e3⟩
/-- what a place holds -/
theorem RepS.lst {S : Store} {n : Nat} {xs : List D} (R : RepS G w S) (e : S[n]? = some (.lst xs)) : ∃ vs, w.H (w.at_ n) = some (.lst vs) ∧ Reps G w xs vs := by
  obtain ⟨u, e1, vs, rfl, r⟩ := R.at_ n _ e
  exact ⟨vs, e1, r⟩
theorem RepS.ins {S : Store} {n : Nat} {c : Str} {fs : List (Str × D)} (R : RepS G w S) (e : S[n]? = some (.ins c fs)) : ∃ C dx vs, w.H (w.at_ n) = some (.ins C dx vs) ∧ G.cA c = some C ∧ RepKV G w fs vs := by
  obtain ⟨u, e1, C, dx, vs, rfl, h, r⟩ := R.at_ n _ e
  exact ⟨C, dx, vs, e1, h, r⟩
/-- the store cut back -/
theorem RepS.cut {S : Store} {m : Nat} (R : RepS G w S) (h : m ≤ w.N) (hs : ∀ n o u, n < m → S[n]? = some o → RepO G w o u → RepO G ⟨w.H, m, w.at_⟩ o u) : RepS G ⟨w.H, m, w.at_⟩ (S.take m) where
  len := by rw [List.length_take, R.len]; exact Nat.min_eq_left h
  at_ := fun n o e => by
    have hn : n < m := by
      have := (List.getElem?_eq_some_iff.mp e).1
      rw [List.length_take] at this
      omega
    rw [List.getElem?_take_of_lt hn] at e
    obtain ⟨u, e1, r⟩ := R.at_ n o e
    exact ⟨u, e1, hs n o u hn e r⟩
  inj := fun i j hi hj e => R.inj i j (Nat.lt_of_lt_of_le hi h) (Nat.lt_of_lt_of_le hj h) e
  tabs := R.tabs
end
end Mx
set_option Elab.async false
set_option linter.all false
set_option maxRecDepth 100000
set_option maxHeartbeats 1000000
/-! The layer M, part B: judgements, expressions. -/
namespace Mx
open PySem PySem.Spec PyProof.Rows L2

def Out.bind {α β : Type} (o : Out α) (f : α → Store → Out β) : Out β := match o with
  | .ok a S => f a S
  | .exc x S => .exc x S
  | .bad => .bad
abbrev ME := Env' → Store → Out D
abbrev MT := Env' → Store → Out Bool
abbrev MA := Env' → Store → Out (List D)
abbrev XH := Value → Option Addr → Hp → Prop

section
variable (G : Gb)
def PostG {α β : Type} (w : Wd) (R : Wd → α → β → Prop) (o : Out α) (Q : β → Hp → Prop) (E : XH) : Prop := match o with
  | .ok a S' => ∀ w' b, Ext w w' → RepS G w' S' → R w' a b → Q b w'.H
  | .exc x S' => ∀ w' cls dd, Ext w w' → RepS G w' S' → RepX G w' x cls dd → E cls dd w'.H
  | .bad => False
abbrev RB : Wd → Bool → Bool → Prop := fun _ a b => a = b
/-- an expression's reading -/
def tE (W : WX) (m : ME) : TE := fun σ H Q => ∃ w ρ S, w.H = H ∧ RepE G w ρ σ ∧ RepS G w S ∧ PostG G w (Rep G) (m ρ S) Q (fun c d H' => W c d σ H')
def tT (W : WX) (m : MT) : TT := fun σ H Q => ∃ w ρ S, w.H = H ∧ RepE G w ρ σ ∧ RepS G w S ∧ PostG G w RB (m ρ S) Q (fun c d H' => W c d σ H')
def tAm (W : WX) (m : MA) : TA := fun σ H Q => ∃ w ρ S, w.H = H ∧ RepE G w ρ σ ∧ RepS G w S ∧ PostG G w (Reps G) (m ρ S) Q (fun c d H' => W c d σ H')
abbrev SE (X : Cx) (W : WX) (e : Expr) (m : ME) : Prop := PE X e (tE G W m)
abbrev ST (X : Cx) (W : WX) (e : Expr) (m : MT) : Prop := PT X e (tT G W m)
abbrev SW (X : Cx) (W : WX) (e : Expr) (m : MT) : Prop := PW X e (tT G W m)
abbrev SA (X : Cx) (W : WX) (es : List Expr) (m : MA) : Prop := PA X es (tAm G W m)
end

section
variable {G : Gb}
theorem PostG.ext {α β : Type} {w w1 : Wd} {R : Wd → α → β → Prop} {o : Out α} {Q : β → Hp → Prop} {E : XH} (x : Ext w w1) (h : PostG G w R o Q E) : PostG G w1 R o Q E := by
  cases o with
  | ok a S => exact fun w' b x' r q => h w' b (x.trans x') r q
  | exc e S => exact fun w' c d x' r q => h w' c d (x.trans x') r q
  | bad => exact h
/-- the first of two -/
theorem PostG.seq {α β γ δ : Type} {w : Wd} {R : Wd → α → β → Prop} {R' : Wd → γ → δ → Prop} {o : Out α} {f : α → Store → Out γ} {Q : δ → Hp → Prop} {E : XH} {Q1 : β → Hp → Prop}
    (h : PostG G w R' (o.bind f) Q E) (g : ∀ w1 a b S1, o = .ok a S1 → Ext w w1 → RepS G w1 S1 → R w1 a b → PostG G w1 R' (f a S1) Q E → Q1 b w1.H) : PostG G w R o Q1 E := by
  cases o with
  | ok a S => exact fun w' b x' r q => g w' a b S rfl x' r q (PostG.ext x' h)
  | exc e S => exact h
  | bad => exact h

theorem PE.imp {X : Cx} {e : Expr} {t t' : TE} (h : PE X e t) (i : ∀ σ H Q, t' σ H Q → t σ H Q) : PE X e t' := ⟨fun pins s σ H Q I q => h.run pins s σ H Q I (i σ H Q q)⟩
theorem PT.imp {X : Cx} {e : Expr} {t t' : TT} (h : PT X e t) (i : ∀ σ H Q, t' σ H Q → t σ H Q) : PT X e t' := ⟨fun pins s σ H Q I q => h.run pins s σ H Q I (i σ H Q q)⟩
theorem PW.imp {X : Cx} {e : Expr} {t t' : TT} (h : PW X e t) (i : ∀ σ H Q, t' σ H Q → t σ H Q) : PW X e t' := ⟨fun wh pins s σ H Q I q => h.run wh pins s σ H Q I (i σ H Q q)⟩
theorem PA.imp {X : Cx} {e : List Expr} {t t' : TA} (h : PA X e t) (i : ∀ σ H Q, t' σ H Q → t σ H Q) : PA X e t' := ⟨fun p pins s σ H Q I q => h.run p pins s σ H Q I (i σ H Q q)⟩
theorem PS.imp {X : Cx} {e : Stmt} {t t' : TS} (h : PS X e t) (i : ∀ D σ H, t' D σ H → t D σ H) : PS X e t' := ⟨fun pins s σ H D I q => h.run pins s σ H D I (i D σ H q)⟩
theorem PSs.imp {X : Cx} {e : List Stmt} {t t' : TS} (h : PSs X e t) (i : ∀ D σ H, t' D σ H → t D σ H) : PSs X e t' := ⟨fun pins s σ H D I q => h.run pins s σ H D I (i D σ H q)⟩
theorem PG.imp {X : Cx} {e : Expr} {t t' : TG} (h : PG X e t) (i : ∀ v σ H Q, t' v σ H Q → t v σ H Q) : PG X e t' := ⟨fun pins s σ H v u Q I r q => h.run pins s σ H v u Q I r (i v σ H Q q)⟩

/-! ### constants, names -/
def mC (d : D) : ME := fun _ S => .ok d S
def mV (i : Nat) : ME := fun ρ S => match ρ[i]? with
  | some (some d) => .ok d S
  | _ => .bad
variable {X : Cx} {W : WX} {a b c e : Expr} {es : List Expr} {ma mb mc : ME} {pos : Pos}
theorem se_int {i j} : SE G X W (.Constant (.int i) j pos) (mC (.int i)) := PE.imp pe_int fun σ H Q ⟨w, ρ, S, e, rE, rS, p⟩ => by subst e; exact p w _ (Ext.refl w) rS rfl
theorem se_bl {i j} : SE G X W (.Constant (.bool i) j pos) (mC (.bl i)) := PE.imp pe_bl fun σ H Q ⟨w, ρ, S, e, rE, rS, p⟩ => by subst e; exact p w _ (Ext.refl w) rS rfl
theorem se_str {i j} : SE G X W (.Constant (.str i) j pos) (mC (.str i)) := PE.imp pe_str fun σ H Q ⟨w, ρ, S, e, rE, rS, p⟩ => by subst e; exact p w _ (Ext.refl w) rS rfl
theorem se_non {j} : SE G X W (.Constant .none j pos) (mC .non) := PE.imp pe_non fun σ H Q ⟨w, ρ, S, e, rE, rS, p⟩ => by subst e; exact p w _ (Ext.refl w) rS rfl
theorem se_var (i : Nat) {x : Str} (hN : X.N[i]? = some x := by rfl) (hv : Vis X.env.scope x := by first | exact Or.inl rfl | exact Or.inr (Or.inl rfl) | exact Or.inr (Or.inr rfl)) (hd : (x == ("__debug__" : Str)) = false := by decide)
    (hcd : (x == ("__classdict__" : Str)) = false := by decide) : SE G X W (.Name x pos) (mV i) := PE.imp (pe_var hN hv hd hcd) fun σ H Q ⟨w, ρ, S, e, rE, rS, p⟩ => by
  subst e
  unfold mV at p
  cases h : ρ[i]? with
  | none => rw [h] at p; exact p.elim
  | some o =>
    cases o with
    | none => rw [h] at p; exact p.elim
    | some d =>
      rw [h] at p
      obtain ⟨v, e1, r⟩ := rE.get h
      exact ⟨v, e1, p w v (Ext.refl w) rS r⟩

/-! ### two operands -/
abbrev Op2 := D → D → Store → Out D
def mBin (f : Op2) (a b : ME) : ME := fun ρ S => (a ρ S).bind fun x S1 => (b ρ S1).bind fun y S2 => f x y S2
def OpM (G : Gb) (r : R2) (f : Op2) : Prop := ∀ w x y S v u (Q : VK) (E : XH), RepS G w S → Rep G w x v → Rep G w y u → PostG G w (Rep G) (f x y S) Q E → r v u w.H Q
theorem two {f : Op2} {r : R2} (hf : OpM G r f) {σ : L2.St} {H : Hp} {Q : VK} (h : tE G W (mBin f ma mb) σ H Q) : tOp r (tE G W ma) (tE G W mb) σ H Q := by
  obtain ⟨w, ρ, S, rfl, rE, rS, p⟩ := h
  refine ⟨w, ρ, S, rfl, rE, rS, PostG.seq p fun w1 x v S1 _ x1 r1 q1 p1 => ?_⟩
  refine ⟨w1, ρ, S1, rfl, rE.mono x1, r1, PostG.seq p1 fun w2 y u S2 _ x2 r2 q2 p2 => ?_⟩
  exact hf w2 x y S2 v u Q _ r2 (q1.mono x2) q2 p2
theorem se_op {op : Operator} {f : Op2} {r : R2} (ho : OpR X (binaryOp op) r) (hf : OpM G r f) (ha : SE G X W a ma) (hb : SE G X W b mb) : SE G X W (.BinOp a op b pos) (mBin f ma mb) :=
  PE.imp (pe_op ho ha hb) fun σ H Q h => two hf h
theorem se_cmp {op : CmpOp} {f : Op2} {r : R2} (ho : OpR X (compareOp op) r) (hf : OpM G r f) (ha : SE G X W a ma) (hb : SE G X W b mb)
    (hm : behindInMarks op b = false) : SE G X W (.Compare a [op] [b] pos) (mBin f ma mb) := PE.imp (pe_cmpR ho ha hb hm) fun σ H Q h => two hf h
theorem se_ix {f : Op2} {r : R2} (ho : IxR X r) (hf : OpM G r f) (ha : SE G X W a ma) (hb : SE G X W b mb) (hs : PlainIx b) : SE G X W (.Subscript a b pos) (mBin f ma mb) :=
  PE.imp (pe_ix ho ha hb hs) fun σ H Q h => two hf h
theorem OpM.or {r r' : R2} {f : Op2} (h : ∀ w x y S v u (Q : VK) (E : XH), RepS G w S → Rep G w x v → Rep G w y u → PostG G w (Rep G) (f x y S) Q E → r v u w.H Q ∨ r' v u w.H Q) :
    OpM G (fun x y H Q => r x y H Q ∨ r' x y H Q) f := h
/-- a value as it is -/
theorem PostG.val {w : Wd} {d : D} {v : V} {S : Store} {Q : VK} {E : XH} (p : PostG G w (Rep G) (.ok d S) Q E) (r : RepS G w S) (h : Rep G w d v) : Q v w.H := p w v (Ext.refl w) r h
/-- a new list, a new tuple -/
theorem PostG.newLst {w : Wd} {xs : List D} {vs : List V} {S : Store} {Q : VK} {E : XH} (p : PostG G w (Rep G) (.ok (.loc S.length) (S ++ [.lst xs])) Q E) (R : RepS G w S) (h : Reps G w xs vs) {q : Addr} (hq : w.H q = none) : Q (.ref q) (upd w.H q (.lst vs)) := by
  have z := p (w.push q (.lst vs)) (.ref q) (Ext.pushed hq) (R.pushed hq ⟨vs, rfl, h⟩)
  refine z ?_
  rw [R.len]
  exact ⟨Nat.lt_succ_self _, by rw [Wd.push_last]⟩
theorem PostG.newTup {w : Wd} {xs : List D} {vs : List V} {S : Store} {Q : VK} {E : XH} (p : PostG G w (Rep G) (.ok (.tup xs) S) Q E) (R : RepS G w S) (h : Reps G w xs vs) {q : Addr} (hq : w.H q = none) : Q (.ref q) (upd w.H q (.tup vs)) :=
  p (w.up q (.tup vs)) (.ref q) (Ext.grown hq) (R.grown hq) ⟨q, vs, rfl, upd_same, h.mono (Ext.grown hq)⟩

/-! ### numbers -/
def CMulM (i j : Int) : Prop := i.natAbs.log2 + j.natAbs.log2 < 100000000
instance (i j : Int) : Decidable (CMulM i j) := inferInstanceAs (Decidable (_ < _))
theorem CMulM.ok {i j : Int} (h : CMulM i j) : IntMulOk i j := by
  have b : ∀ x : Int, Builtin.Int.intBits x ≤ x.natAbs.log2 + 1 := fun x => by
    unfold Builtin.Int.intBits
    split <;> omega
  have h1 := b i
  have h2 := b j
  have h3 : i.natAbs.log2 + j.natAbs.log2 < 100000000 := h
  have e : bitsLine = 134217728 := by decide
  unfold IntMulOk
  intro z
  rw [Bool.and_eq_true] at z
  have z2 := z.2
  unfold Builtin.Int.intTooBig at z2
  have z3 := of_decide_eq_true z2
  rw [e] at z3
  omega
def CDivM (j : Int) : Prop := j ≠ 0 ∧ j.natAbs.log2 < 9000
instance (j : Int) : Decidable (CDivM j) := inferInstanceAs (Decidable (_ ∧ _))
theorem op_mulM : OpR X (binaryOp .Mult) (rI CMulM fun i j => .int (i * j)) := opI fun _ _ _ _ _ _ _ hc q => mul_int q hc.ok
theorem iop_mulM : OpR X (inplaceOp .Mult) (rI CMulM fun i j => .int (i * j)) := opI fun _ _ _ _ _ _ _ hc q => imul_int q hc.ok
theorem op_fdivM : OpR X (binaryOp .FloorDiv) (rI (fun _ j => CDivM j) fun i j => .int (i.fdiv j)) := opI fun i j _ _ _ _ _ hc q => floordiv_int hc.1 q (.inl (PyProof.noPylong_of_log2 hc.2))
def LIM : Nat := 16000000
theorem LIM_le : LIM < sizeLine := by rw [sizeLine_eq]; decide
theorem LIM_lt {n : Nat} (h : n ≤ LIM) : n < sizeLine := Nat.lt_of_le_of_lt h LIM_le
def addM : Op2 := fun x y S => match x, y with
  | .int i, .int j => .ok (.int (i + j)) S
  | .tup a, .tup b => if a.length + b.length ≤ LIM then .ok (.tup (a ++ b)) S else .bad
  | .loc a, .loc b => match S[a]?, S[b]? with
    | some (.lst xs), some (.lst ys) => if xs.length + ys.length ≤ LIM then .ok (.loc S.length) (S ++ [.lst (xs ++ ys)]) else .bad
    | _, _ => .bad
  | _, _ => .bad
def subM : Op2 := fun x y S => match x, y with
  | .int i, .int j => .ok (.int (i - j)) S
  | _, _ => .bad
def mulM : Op2 := fun x y S => match x, y with
  | .int i, .int j => if CMulM i j then .ok (.int (i * j)) S else .bad
  | .loc a, .int k => match S[a]? with
    | some (.lst xs) => if -(2 ^ 63) ≤ k ∧ k < 2 ^ 63 ∧ xs.length * k.toNat ≤ LIM then .ok (.loc S.length) (S ++ [.lst (List.replicate k.toNat xs).flatten]) else .bad
    | _ => .bad
  | _, _ => .bad
def divM : Op2 := fun x y S => match x, y with
  | .int i, .int j => if CDivM j then .ok (.int (i.fdiv j)) S else .bad
  | _, _ => .bad
def modM : Op2 := fun x y S => match x, y with
  | .int i, .int j => if j ≠ 0 then .ok (.int (i.fmod j)) S else .bad
  | _, _ => .bad
def powM : Op2 := fun x y S => match x, y with
  | .int i, .int j => if 0 ≤ j ∧ j ≤ 1000000 ∧ i.natAbs < 2 ^ 64 then .ok (.int (i ^ j.toNat)) S else .bad
  | _, _ => .bad
theorem op_addR (hK : X.K = G.K) : OpR X (binaryOp .Add) (fun x y H Q => (∃ i j, x = .int i ∧ y = .int j ∧ Q (.int (i + j)) H) ∨ (rCatA G.K x y H Q ∨ rCat x y H Q)) := by
  rw [← hK]
  exact op_add.or (op_catA.or op_cat)
theorem reps_rep (w : Wd) (k : Nat) {xs : List D} {vs : List V} (r : Reps G w xs vs) : Reps G w (List.replicate k xs).flatten (List.replicate k vs).flatten := by
  induction k with
  | zero => exact Reps.nil
  | succ k ih => rw [List.replicate_succ, List.replicate_succ, List.flatten_cons, List.flatten_cons]; exact r.append ih
theorem addM_ok : OpM G (fun x y H Q => (∃ i j, x = .int i ∧ y = .int j ∧ Q (.int (i + j)) H) ∨ (rCatA G.K x y H Q ∨ rCat x y H Q)) addM := by
  intro w x y S v u Q E R rx ry p
  unfold addM at p
  split at p
  · obtain rfl := rx
    obtain rfl := ry
    exact .inl ⟨_, _, rfl, rfl, p.val R rfl⟩
  · rename_i a b
    split at p
    · rename_i hl
      obtain ⟨pa, va, rfl, ha, qa⟩ := id rx
      obtain ⟨pb, vb, rfl, hb, qb⟩ := id ry
      refine .inr (.inl ⟨pa, pb, va, vb, rfl, rfl, SqT.of ha, SqT.of hb, ?_, fun z => ?_, fun _ z => ?_, fun _ _ q hq => ?_⟩)
      · rw [← qa.length, ← qb.length]; exact Nat.le_of_lt (LIM_lt hl)
      · have ea : a = [] := List.length_eq_zero_iff.mp (by rw [qa.length, z]; rfl)
        rw [ea] at p
        exact p.val R ry
      · have eb : b = [] := List.length_eq_zero_iff.mp (by rw [qb.length, z]; rfl)
        rw [eb, List.append_nil] at p
        exact p.val R rx
      · exact p.newTup R (qa.append qb) hq
    · exact p.elim
  · rename_i a b
    split at p
    · rename_i xs ys h1 h2
      split at p
      · rename_i hl
        obtain ⟨-, rfl⟩ := rx
        obtain ⟨-, rfl⟩ := ry
        obtain ⟨va, ha, qa⟩ := R.lst h1
        obtain ⟨vb, hb, qb⟩ := R.lst h2
        refine .inr (.inr ⟨_, _, va, vb, rfl, rfl, ha, hb, ?_, fun q hq => p.newLst R (qa.append qb) hq⟩)
        rw [← qa.length, ← qb.length]; exact Nat.le_of_lt (LIM_lt hl)
      · exact p.elim
    · exact p.elim
  · exact p.elim
theorem subM_ok : OpM G (rI0 fun i j => .int (i - j)) subM := by
  intro w x y S v u Q E R rx ry p
  unfold subM at p
  split at p
  · obtain rfl := rx
    obtain rfl := ry
    exact ⟨_, _, rfl, rfl, p.val R rfl⟩
  · exact p.elim
theorem mulM_ok : OpM G (fun x y H Q => rI CMulM (fun i j => .int (i * j)) x y H Q ∨ rRep x y H Q) mulM := by
  intro w x y S v u Q E R rx ry p
  unfold mulM at p
  split at p
  · split at p
    · rename_i h
      obtain rfl := rx
      obtain rfl := ry
      exact .inl ⟨_, _, rfl, rfl, h, p.val R rfl⟩
    · exact p.elim
  · split at p
    · rename_i xs h1
      split at p
      · rename_i hl
        obtain ⟨-, rfl⟩ := rx
        obtain rfl := ry
        obtain ⟨va, ha, qa⟩ := R.lst h1
        refine .inr ⟨_, _, va, rfl, rfl, ha, hl.1, hl.2.1, ?_, fun q hq => p.newLst R (reps_rep w _ qa) hq⟩
        rw [← qa.length]; exact Nat.le_of_lt (LIM_lt hl.2.2)
      · exact p.elim
    · exact p.elim
  · exact p.elim
theorem divM_ok : OpM G (rI (fun _ j => CDivM j) fun i j => .int (i.fdiv j)) divM := by
  intro w x y S v u Q E R rx ry p
  unfold divM at p
  split at p
  · split at p
    · rename_i h
      obtain rfl := rx
      obtain rfl := ry
      exact ⟨_, _, rfl, rfl, h, p.val R rfl⟩
    · exact p.elim
  · exact p.elim
theorem modM_ok : OpM G (rI (fun _ j => j ≠ 0) fun i j => .int (i.fmod j)) modM := by
  intro w x y S v u Q E R rx ry p
  unfold modM at p
  split at p
  · split at p
    · rename_i h
      obtain rfl := rx
      obtain rfl := ry
      exact ⟨_, _, rfl, rfl, h, p.val R rfl⟩
    · exact p.elim
  · exact p.elim
theorem powM_ok : OpM G (rI CPow fun i j => .int (i ^ j.toNat)) powM := by
  intro w x y S v u Q E R rx ry p
  unfold powM at p
  split at p
  · split at p
    · rename_i h
      obtain rfl := rx
      obtain rfl := ry
      exact ⟨_, _, rfl, rfl, h, p.val R rfl⟩
    · exact p.elim
  · exact p.elim
theorem se_add (hK : X.K = G.K) (ha : SE G X W a ma) (hb : SE G X W b mb) : SE G X W (.BinOp a .Add b pos) (mBin addM ma mb) := se_op (op_addR hK) addM_ok ha hb
theorem se_sub (ha : SE G X W a ma) (hb : SE G X W b mb) : SE G X W (.BinOp a .Sub b pos) (mBin subM ma mb) := se_op op_sub subM_ok ha hb
theorem se_mul (ha : SE G X W a ma) (hb : SE G X W b mb) : SE G X W (.BinOp a .Mult b pos) (mBin mulM ma mb) := se_op (op_mulM.or op_rep) mulM_ok ha hb
theorem se_div (ha : SE G X W a ma) (hb : SE G X W b mb) : SE G X W (.BinOp a .FloorDiv b pos) (mBin divM ma mb) := se_op op_fdivM divM_ok ha hb
theorem se_mod (ha : SE G X W a ma) (hb : SE G X W b mb) : SE G X W (.BinOp a .Mod b pos) (mBin modM ma mb) := se_op op_modN modM_ok ha hb
theorem se_pow (ha : SE G X W a ma) (hb : SE G X W b mb) : SE G X W (.BinOp a .Pow b pos) (mBin powM ma mb) := se_op op_pow powM_ok ha hb
/-- -a -/
def mNeg (a : ME) : ME := fun ρ S => (a ρ S).bind fun x S1 => match x with
  | .int i => .ok (.int (-i)) S1
  | _ => .bad
theorem se_neg (ha : SE G X W a ma) : SE G X W (.UnaryOp .USub a pos) (mNeg ma) := PE.imp (pe_un un_neg ha) fun σ H Q h => by
  obtain ⟨w, ρ, S, rfl, rE, rS, p⟩ := h
  refine ⟨w, ρ, S, rfl, rE, rS, PostG.seq p fun w1 x v S1 _ x1 r1 q1 p1 => ?_⟩
  cases x with
  | int i => obtain rfl := q1; exact ⟨i, rfl, p1.val r1 rfl⟩
  | _ => exact p1.elim

/-! ### comparisons -/
mutual
def pd : D → Option PyData
  | .non => some .none
  | .bl b => some (.bool b)
  | .int i => some (.int i)
  | .str x => some (.str x)
  | .tup xs => match pds xs with
    | some ds => some (.tuple ds)
    | none => none
  | .loc _ => none
  | .scr ns => some (.list (ns.map PyData.int))
def pds : List D → Option (List PyData)
  | [] => some []
  | x :: xs => match pd x, pds xs with
    | some d, some ds => some (d :: ds)
    | _, _ => none
end
def pdL (S : Store) : D → Option PyData
  | .loc n => match S[n]? with
    | some (.lst xs) => match pds xs with
      | some ds => some (.list ds)
      | none => none
    | _ => none
  | d => pd d
def eqB (S : Store) (x y : D) : Option Bool := match pdL S x, pdL S y with
  | some a, some b => if SeqAt.shaped a = true ∧ SeqAt.shaped b = true then some (PyData.eqv a b) else none
  | _, _ => none
def eqM : Op2 := fun x y S => match eqB S x y with
  | some k => .ok (.bl k) S
  | none => .bad
def neM : Op2 := fun x y S => match eqB S x y with
  | some k => .ok (.bl (!k)) S
  | none => .bad
theorem dpAll_ints {K : PySem.W.Frag} {H : Hp} : ∀ ns : List Int, DpAll K H (ns.map V.int) (ns.map PyData.int)
  | [] => .nil
  | n :: ns => .cons (.int n) (dpAll_ints ns)
mutual
theorem pd_ok {w : Wd} : ∀ {x : D} {v : V} {d : PyData}, Rep G w x v → pd x = some d → Dp G.K w.H v d
  | .non, _, _, r, e => by obtain rfl := r; cases e; exact .non
  | .bl b, _, _, r, e => by obtain rfl := r; cases e; exact .bl b
  | .int b, _, _, r, e => by obtain rfl := r; cases e; exact .int b
  | .str b, _, _, r, e => by obtain rfl := r; cases e; exact .str b
  | .tup xs, _, _, r, e => by
    obtain ⟨a, vs, rfl, ha, rs⟩ := r
    unfold pd at e
    split at e
    · rename_i ds hd
      cases e
      exact .tup (SqT.of ha) (pds_ok rs hd)
    · cases e
  | .loc n, _, _, r, e => by cases e
  | .scr ns, _, _, r, e => by
    obtain ⟨a, rfl, ha⟩ := r
    cases e
    exact .lst ha.seq (dpAll_ints ns)
theorem pds_ok {w : Wd} : ∀ {xs : List D} {vs : List V} {ds : List PyData}, Reps G w xs vs → pds xs = some ds → DpAll G.K w.H vs ds
  | [], _, _, r, e => by obtain rfl := r; cases e; exact .nil
  | x :: xs, _, _, r, e => by
    obtain ⟨v, rest, rfl, r1, r2⟩ := r
    unfold pds at e
    split at e
    · rename_i d ds h1 h2
      cases e
      exact .cons (pd_ok r1 h1) (pds_ok r2 h2)
    · cases e
end
theorem pdL_ok {w : Wd} {S : Store} (R : RepS G w S) {x : D} {v : V} {d : PyData} (r : Rep G w x v) (e : pdL S x = some d) : Dp G.K w.H v d := by
  unfold pdL at e
  split at e
  · split at e
    · rename_i n xs h1
      split at e
      · rename_i ds h2
        cases e
        obtain ⟨-, rfl⟩ := r
        obtain ⟨va, ha, qa⟩ := R.lst h1
        exact .lst (SqL.of ha) (pds_ok qa h2)
      · cases e
    · cases e
  · exact pd_ok r e
theorem eqB_ok {w : Wd} {S : Store} (R : RepS G w S) {x y : D} {v u : V} {k : Bool} (rx : Rep G w x v) (ry : Rep G w y u) (e : eqB S x y = some k) :
    ∃ a b, Dp G.K w.H v a ∧ Dp G.K w.H u b ∧ SeqAt.shaped a = true ∧ SeqAt.shaped b = true ∧ PyData.eqv a b = k := by
  unfold eqB at e
  split at e
  · rename_i a b h1 h2
    split at e
    · rename_i h
      cases e
      exact ⟨a, b, pdL_ok R rx h1, pdL_ok R ry h2, h.1, h.2, rfl⟩
    · cases e
  · cases e
theorem eqM_ok : OpM G (rEqD G.K) eqM := by
  intro w x y S v u Q E R rx ry p
  unfold eqM at p
  split at p
  · rename_i k hk
    obtain ⟨a, b, h1, h2, h3, h4, h5⟩ := eqB_ok R rx ry hk
    exact ⟨a, b, h1, h2, h3, h4, by rw [h5]; exact p.val R rfl⟩
  · exact p.elim
theorem neM_ok : OpM G (rNeD G.K) neM := by
  intro w x y S v u Q E R rx ry p
  unfold neM at p
  split at p
  · rename_i k hk
    obtain ⟨a, b, h1, h2, h3, h4, h5⟩ := eqB_ok R rx ry hk
    exact ⟨a, b, h1, h2, h3, h4, by rw [h5]; exact p.val R rfl⟩
  · exact p.elim
theorem se_eq (hK : X.K = G.K) (hu : X.A.units + 64 < cLine) (ha : SE G X W a ma) (hb : SE G X W b mb) : SE G X W (.Compare a [.Eq] [b] pos) (mBin eqM ma mb) :=
  se_cmp (r := rEqD G.K) (by rw [← hK]; exact op_eqD hu) eqM_ok ha hb (nomark _)
theorem se_ne (hK : X.K = G.K) (hu : X.A.units + 64 < cLine) (ha : SE G X W a ma) (hb : SE G X W b mb) : SE G X W (.Compare a [.NotEq] [b] pos) (mBin neM ma mb) :=
  se_cmp (r := rNeD G.K) (by rw [← hK]; exact op_neD hu) neM_ok ha hb (nomark _)
def cmpM (p : Int → Int → Bool) : Op2 := fun x y S => match x, y with
  | .int i, .int j => .ok (.bl (p i j)) S
  | _, _ => .bad
theorem cmpM_ok {p : Int → Int → Bool} : OpM G (rI0 fun i j => .bl (p i j)) (cmpM p) := by
  intro w x y S v u Q E R rx ry q
  unfold cmpM at q
  split at q
  · obtain rfl := rx
    obtain rfl := ry
    exact ⟨_, _, rfl, rfl, q.val R rfl⟩
  · exact q.elim
abbrev ltM : Op2 := cmpM fun i j => decide (i < j)
abbrev leM : Op2 := cmpM fun i j => decide (i ≤ j)
abbrev gtM : Op2 := cmpM fun i j => decide (j < i)
abbrev geM : Op2 := cmpM fun i j => decide (j ≤ i)
theorem se_lt (ha : SE G X W a ma) (hb : SE G X W b mb) : SE G X W (.Compare a [.Lt] [b] pos) (mBin ltM ma mb) := se_cmp op_lt cmpM_ok ha hb (nomark _)
theorem se_le (ha : SE G X W a ma) (hb : SE G X W b mb) : SE G X W (.Compare a [.LtE] [b] pos) (mBin leM ma mb) := se_cmp op_le cmpM_ok ha hb (nomark _)
theorem se_gt (ha : SE G X W a ma) (hb : SE G X W b mb) : SE G X W (.Compare a [.Gt] [b] pos) (mBin gtM ma mb) := se_cmp op_gt cmpM_ok ha hb (nomark _)
theorem se_ge (ha : SE G X W a ma) (hb : SE G X W b mb) : SE G X W (.Compare a [.GtE] [b] pos) (mBin geM ma mb) := se_cmp op_ge cmpM_ok ha hb (nomark _)
/-- two comparisons -/
def mChain (f f' : Op2) (a b c : ME) : ME := fun ρ S => (a ρ S).bind fun x S1 => (b ρ S1).bind fun y S2 => (f x y S2).bind fun k S3 => match k with
  | .bl true => (c ρ S3).bind fun z S4 => f' y z S4
  | .bl false => .ok (.bl false) S3
  | _ => .bad

/-! ### tests -/
def mTest (a : ME) : MT := fun ρ S => (a ρ S).bind fun x S1 => match x with
  | .bl k => .ok k S1
  | _ => .bad
theorem tb_of {m : ME} {σ : L2.St} {H : Hp} {Q : Bool → Hp → Prop} (h : tT G W (mTest m) σ H Q) : tTest (tE G W m) σ H Q := by
  obtain ⟨w, ρ, S, rfl, rE, rS, p⟩ := h
  refine ⟨w, ρ, S, rfl, rE, rS, PostG.seq p fun w1 x v S1 _ x1 r1 q1 p1 => ?_⟩
  cases x with
  | bl k => obtain rfl := q1; exact ⟨k, rfl, p1 w1 k (Ext.refl _) r1 rfl⟩
  | _ => exact p1.elim
theorem st_cmp {op : CmpOp} {f : Op2} {r : R2} (ho : OpR X (compareOp op) r) (hf : OpM G r f) (ha : SE G X W a ma) (hb : SE G X W b mb)
    (hm : behindInMarks op b = false) : ST G X W (.Compare a [op] [b] pos) (mTest (mBin f ma mb)) := PT.imp (pt_cmpR ho ha hb hm) fun σ H Q h => by
  obtain ⟨w, ρ, S, rfl, rE, rS, p⟩ := h
  have q := tb_of (G := G) (W := W) (m := mBin f ma mb) (σ := σ) (H := w.H) (Q := Q) ⟨w, ρ, S, rfl, rE, rS, p⟩
  exact two hf q
theorem st_eq (hK : X.K = G.K) (hu : X.A.units + 64 < cLine) (ha : SE G X W a ma) (hb : SE G X W b mb) : ST G X W (.Compare a [.Eq] [b] pos) (mTest (mBin eqM ma mb)) :=
  st_cmp (r := rEqD G.K) (by rw [← hK]; exact op_eqD hu) eqM_ok ha hb (nomark _)
theorem st_ne (hK : X.K = G.K) (hu : X.A.units + 64 < cLine) (ha : SE G X W a ma) (hb : SE G X W b mb) : ST G X W (.Compare a [.NotEq] [b] pos) (mTest (mBin neM ma mb)) :=
  st_cmp (r := rNeD G.K) (by rw [← hK]; exact op_neD hu) neM_ok ha hb (nomark _)
theorem st_lt (ha : SE G X W a ma) (hb : SE G X W b mb) : ST G X W (.Compare a [.Lt] [b] pos) (mTest (mBin ltM ma mb)) := st_cmp op_lt cmpM_ok ha hb (nomark _)
theorem st_le (ha : SE G X W a ma) (hb : SE G X W b mb) : ST G X W (.Compare a [.LtE] [b] pos) (mTest (mBin leM ma mb)) := st_cmp op_le cmpM_ok ha hb (nomark _)
theorem st_gt (ha : SE G X W a ma) (hb : SE G X W b mb) : ST G X W (.Compare a [.Gt] [b] pos) (mTest (mBin gtM ma mb)) := st_cmp op_gt cmpM_ok ha hb (nomark _)
theorem st_ge (ha : SE G X W a ma) (hb : SE G X W b mb) : ST G X W (.Compare a [.GtE] [b] pos) (mTest (mBin geM ma mb)) := st_cmp op_ge cmpM_ok ha hb (nomark _)
theorem chain_t {f f' : Op2} {r r' : R2} (hf : OpM G r f) (hf' : OpM G r' f') {σ : L2.St} {H : Hp} {Q : VK} (h : tE G W (mChain f f' ma mb mc) σ H Q) : tChain r r' (tE G W ma) (tE G W mb) (tE G W mc) σ H Q := by
  obtain ⟨w, ρ, S, rfl, rE, rS, p⟩ := h
  refine ⟨w, ρ, S, rfl, rE, rS, PostG.seq p fun w1 x v S1 _ x1 r1 q1 p1 => ?_⟩
  refine ⟨w1, ρ, S1, rfl, rE.mono x1, r1, PostG.seq p1 fun w2 y u S2 _ x2 r2 q2 p2 => ?_⟩
  refine hf w2 x y S2 v u _ _ r2 (q1.mono x2) q2 (PostG.seq p2 fun w3 k z S3 _ x3 r3 q3 p3 => ?_)
  cases k with
  | bl k =>
    obtain rfl := q3
    refine ⟨k, rfl, ?_⟩
    cases k with
    | true =>
      refine iteT ⟨w3, ρ, S3, rfl, ((rE.mono x1).mono x2).mono x3, r3, PostG.seq p3 fun w4 z' u' S4 _ x4 r4 q4 p4 => ?_⟩
      exact hf' w4 y z' S4 u u' Q _ r4 ((q2.mono x3).mono x4) q4 p4
    | false => exact iteF (p3.val r3 rfl)
  | _ => exact p3.elim
theorem se_chain {op op' : CmpOp} {f f' : Op2} {r r' : R2} (ho : OpR X (compareOp op) r) (hf : OpM G r f) (ho' : OpR X (compareOp op') r') (hf' : OpM G r' f') (ha : SE G X W a ma) (hb : SE G X W b mb) (hc : SE G X W c mc)
    (hm : lastMarks [op, op'] [b, c] = false := by with_unfolding_all rfl) : SE G X W (.Compare a [op, op'] [b, c] pos) (mChain f f' ma mb mc) := PE.imp (pe_chain ho ho' ha hb hc hm) fun σ H Q h => chain_t hf hf' h
theorem st_chain {op op' : CmpOp} {f f' : Op2} {r r' : R2} (ho : OpR X (compareOp op) r) (hf : OpM G r f) (ho' : OpR X (compareOp op') r') (hf' : OpM G r' f') (ha : SE G X W a ma) (hb : SE G X W b mb) (hc : SE G X W c mc)
    (hm : lastMarks [op, op'] [b, c] = false := by with_unfolding_all rfl) : ST G X W (.Compare a [op, op'] [b, c] pos) (mTest (mChain f f' ma mb mc)) := PT.imp (pt_chain ho ho' ha hb hc hm) fun σ H Q h => by
  obtain ⟨w, ρ, S, rfl, rE, rS, p⟩ := h
  exact chain_t hf hf' (tb_of (G := G) (W := W) (m := mChain f f' ma mb mc) (σ := σ) (H := w.H) (Q := Q) ⟨w, ρ, S, rfl, rE, rS, p⟩)

/-- and, or, not -/
def mAnd (a b : MT) : MT := fun ρ S => (a ρ S).bind fun x S1 => match x with
  | true => b ρ S1
  | false => .ok false S1
def mOr (a b : MT) : MT := fun ρ S => (a ρ S).bind fun x S1 => match x with
  | true => .ok true S1
  | false => b ρ S1
def mNot (a : MT) : MT := fun ρ S => (a ρ S).bind fun x S1 => .ok (!x) S1
variable {ta tb : MT} {rest : List Expr}
theorem sw_and1 (ha : ST G X W a ta) : SW G X W (.BoolOp .And [a] pos) ta := pw_and1 ha
theorem sw_or1 (ha : ST G X W a ta) : SW G X W (.BoolOp .Or [a] pos) ta := pw_or1 ha
theorem sw_and (ha : ST G X W a ta) (hb : SW G X W (.BoolOp .And (b :: rest) pos) tb) : SW G X W (.BoolOp .And (a :: b :: rest) pos) (mAnd ta tb) := PW.imp (pw_and ha hb) fun σ H Q h => by
  obtain ⟨w, ρ, S, rfl, rE, rS, p⟩ := h
  refine ⟨w, ρ, S, rfl, rE, rS, PostG.seq p fun w1 x v S1 _ x1 r1 q1 p1 => ?_⟩
  obtain rfl := q1
  cases x with
  | true => exact iteT ⟨w1, ρ, S1, rfl, rE.mono x1, r1, p1⟩
  | false => exact iteF (p1 w1 false (Ext.refl _) r1 rfl)
theorem sw_or (ha : ST G X W a ta) (hb : SW G X W (.BoolOp .Or (b :: rest) pos) tb) : SW G X W (.BoolOp .Or (a :: b :: rest) pos) (mOr ta tb) := PW.imp (pw_or ha hb) fun σ H Q h => by
  obtain ⟨w, ρ, S, rfl, rE, rS, p⟩ := h
  refine ⟨w, ρ, S, rfl, rE, rS, PostG.seq p fun w1 x v S1 _ x1 r1 q1 p1 => ?_⟩
  obtain rfl := q1
  cases x with
  | true => exact iteT (p1 w1 true (Ext.refl _) r1 rfl)
  | false => exact iteF ⟨w1, ρ, S1, rfl, rE.mono x1, r1, p1⟩
theorem st_not (ha : ST G X W a ta) : ST G X W (.UnaryOp .Not a pos) (mNot ta) := PT.imp (pt_not ha) fun σ H Q h => by
  obtain ⟨w, ρ, S, rfl, rE, rS, p⟩ := h
  refine ⟨w, ρ, S, rfl, rE, rS, PostG.seq p fun w1 x v S1 _ x1 r1 q1 p1 => ?_⟩
  obtain rfl := q1
  exact p1 w1 _ (Ext.refl _) r1 rfl
theorem st_val (ha : SE G X W a ma) (he : ∀ whole, isTrue a X.env whole = (do let v ← whole; standAt a.pos; holding [v] (truthy v)) := by intro _; rfl) : ST G X W a (mTest ma) := PT.imp (pt_val ha he) fun σ H Q h => tb_of h
def mIfE (c : MT) (a b : ME) : ME := fun ρ S => (c ρ S).bind fun x S1 => match x with
  | true => a ρ S1
  | false => b ρ S1
theorem se_if (hc : ST G X W c ta) (ha : SE G X W a ma) (hb : SE G X W b mb) : SE G X W (.IfExp c a b pos) (mIfE ta ma mb) := PE.imp (pe_ifExp hc ha hb) fun σ H Q h => by
  obtain ⟨w, ρ, S, rfl, rE, rS, p⟩ := h
  refine ⟨w, ρ, S, rfl, rE, rS, PostG.seq p fun w1 x v S1 _ x1 r1 q1 p1 => ?_⟩
  obtain rfl := q1
  cases x with
  | true => exact iteT ⟨w1, ρ, S1, rfl, rE.mono x1, r1, p1⟩
  | false => exact iteF ⟨w1, ρ, S1, rfl, rE.mono x1, r1, p1⟩

/-! ### argument lists, displays -/
def mNil : MA := fun _ S => .ok [] S
def mCons (a : ME) (r : MA) : MA := fun ρ S => (a ρ S).bind fun x S1 => (r ρ S1).bind fun xs S2 => .ok (x :: xs) S2
theorem sa_nil : SA G X W [] mNil := PA.imp pa_nil fun σ H Q h => by
  obtain ⟨w, ρ, S, rfl, rE, rS, p⟩ := h
  exact p w [] (Ext.refl _) rS rfl
theorem sa_cons {r : MA} (ha : SE G X W e ma) (hr : SA G X W es r) (hs : starEach (e :: es) X.env = (false, eval e X.env) :: starEach es X.env := by rfl) : SA G X W (e :: es) (mCons ma r) := PA.imp (pa_cons ha hr hs) fun σ H Q h => by
  obtain ⟨w, ρ, S, rfl, rE, rS, p⟩ := h
  refine ⟨w, ρ, S, rfl, rE, rS, PostG.seq p fun w1 x v S1 _ x1 r1 q1 p1 => ?_⟩
  refine ⟨w1, ρ, S1, rfl, rE.mono x1, r1, PostG.seq p1 fun w2 y u S2 _ x2 r2 q2 p2 => ?_⟩
  exact p2 w2 _ (Ext.refl _) r2 (Reps.cons (q1.mono x2) q2)
def mTup (r : MA) : ME := fun ρ S => (r ρ S).bind fun xs S1 => if xs.length ≤ LIM then .ok (.tup xs) S1 else .bad
def mLst (r : MA) : ME := fun ρ S => (r ρ S).bind fun xs S1 => if xs.length ≤ LIM then .ok (.loc S1.length) (S1 ++ [.lst xs]) else .bad
theorem se_tup {r : MA} {k} (h : SA G X W es r) : SE G X W (.Tuple es k pos) (mTup r) := PE.imp (pe_tup h) fun σ H Q h => by
  obtain ⟨w, ρ, S, rfl, rE, rS, p⟩ := h
  refine ⟨w, ρ, S, rfl, rE, rS, PostG.seq p fun w1 x v S1 _ x1 r1 q1 p1 => ?_⟩
  split at p1
  · rename_i hl
    exact ⟨by rw [← q1.length]; exact Nat.le_of_lt (LIM_lt hl), fun q hq => p1.newTup r1 q1 hq⟩
  · exact p1.elim
theorem se_lst {r : MA} (h : SA G X W es r) : SE G X W (.List es pos) (mLst r) := PE.imp (pe_lst h) fun σ H Q h => by
  obtain ⟨w, ρ, S, rfl, rE, rS, p⟩ := h
  refine ⟨w, ρ, S, rfl, rE, rS, PostG.seq p fun w1 x v S1 _ x1 r1 q1 p1 => ?_⟩
  split at p1
  · rename_i hl
    exact ⟨by rw [← q1.length]; exact Nat.le_of_lt (LIM_lt hl), fun q hq => p1.newLst r1 q1 hq⟩
  · exact p1.elim
end
end Mx
set_option Elab.async false
set_option linter.all false
set_option maxRecDepth 100000
set_option maxHeartbeats 1000000
/-! The layer M, part C: subscripts, slices, built-in calls, methods, fields. -/
namespace Mx
open PySem PySem.Spec PyProof.Rows L2
section
variable {G : Gb} {X : Cx} {W : WX} {a b c e : Expr} {es : List Expr} {ma mb mc : ME} {pos : Pos}

/-! ### xs[i], t[i] -/
def ixM : Op2 := fun x y S => match x, y with
  | .tup xs, .int i => match atI xs i with
    | some d => .ok d S
    | none => .bad
  | .loc n, .int i => match S[n]? with
    | some (.lst xs) => match atI xs i with
      | some d => .ok d S
      | none => .bad
    | _ => .bad
  | .scr ns, .int i => match atI ns i with
    | some d => .ok (.int d) S
    | none => .bad
  | _, _ => .bad
theorem atI_rep {w : Wd} {xs : List D} {vs : List V} {i : Int} {d : D} (r : Reps G w xs vs) (h : atI xs i = some d) : ∃ v, atI vs i = some v ∧ Rep G w d v := by
  unfold atI at h ⊢
  rw [← r.length]
  cases q : ixN xs.length i with
  | none => rw [q] at h; cases h
  | some j =>
    rw [q] at h
    exact r.get h
theorem ixM_ok : OpM G (fun x y H Q => rIxL G.K x y H Q ∨ rIxT G.K x y H Q) ixM := by
  intro w x y S v u Q E R rx ry p
  unfold ixM at p
  split at p
  · split at p
    · rename_i xs i _ d hd
      obtain ⟨q, vs, rfl, ha, qa⟩ := rx
      obtain rfl := ry
      obtain ⟨z, h1, h2⟩ := atI_rep qa hd
      exact .inr ⟨q, vs, i, z, rfl, rfl, SqT.of ha, h1, p.val R h2⟩
    · exact p.elim
  · split at p
    · rename_i n i _ xs h1
      split at p
      · rename_i d hd
        obtain ⟨-, rfl⟩ := rx
        obtain rfl := ry
        obtain ⟨vs, ha, qa⟩ := R.lst h1
        obtain ⟨z, h2, h3⟩ := atI_rep qa hd
        exact .inl ⟨_, vs, i, z, rfl, rfl, SqL.of ha, h2, p.val R h3⟩
      · exact p.elim
    · exact p.elim
  · split at p
    · rename_i ns i _ d hd
      obtain ⟨q, rfl, ha⟩ := rx
      obtain rfl := ry
      obtain ⟨z, h2, h3⟩ := atI_rep (G := G) (w := w) (Reps.ints.mpr rfl : Reps G w (ns.map D.int) (ns.map V.int)) (i := i) (d := .int d) (by
        unfold atI at hd ⊢
        rw [List.length_map]
        cases q : ixN ns.length i with
        | none => rw [q] at hd; cases hd
        | some j =>
          rw [q] at hd
          show (ns.map D.int)[j]? = _
          rw [List.getElem?_map]
          have hd' : ns[j]? = some d := hd
          rw [hd']
          rfl)
      exact .inl ⟨q, _, i, z, rfl, rfl, ha.seq, h2, p.val R h3⟩
    · exact p.elim
  · exact p.elim
theorem se_ixs (hK : X.K = G.K) (ha : SE G X W a ma) (hb : SE G X W b mb) (hs : PlainIx b := by intro _ _; rfl) : SE G X W (.Subscript a b pos) (mBin ixM ma mb) :=
  se_ix (r := fun x y H Q => rIxL G.K x y H Q ∨ rIxT G.K x y H Q) (by rw [← hK]; exact ix_list.or ix_tup) ixM_ok ha hb hs

/-! ### xs[a:b] -/
abbrev MO := Env' → Store → Out (Option Int)
def mNoP : MO := fun _ S => .ok none S
def mP (a : ME) : MO := fun ρ S => (a ρ S).bind fun x S1 => match x with
  | .int i => .ok (some i) S1
  | _ => .bad
abbrev RO : Wd → Option Int → Option Int → Prop := fun _ a b => a = b
def tOm (G : Gb) (W : WX) (m : MO) : TO := fun σ H Q => ∃ w ρ S, w.H = H ∧ RepE G w ρ σ ∧ RepS G w S ∧ PostG G w RO (m ρ S) Q (fun c d H' => W c d σ H')
abbrev SO' (G : Gb) (X : Cx) (W : WX) (e : Option Expr) (m : MO) : Prop := PO X e (tOm G W m)
theorem PO.imp {X : Cx} {e : Option Expr} {t t' : TO} (h : PO X e t) (i : ∀ σ H Q, t' σ H Q → t σ H Q) : PO X e t' := ⟨fun pins s σ H Q I q => h.run pins s σ H Q I (i σ H Q q)⟩
theorem so_none : SO' G X W none mNoP := PO.imp po_none fun σ H Q h => by
  obtain ⟨w, ρ, S, rfl, rE, rS, p⟩ := h
  exact p w none (Ext.refl _) rS rfl
theorem so_some (ha : SE G X W a ma) : SO' G X W (some a) (mP ma) := PO.imp (po_some ha) fun σ H Q h => by
  obtain ⟨w, ρ, S, rfl, rE, rS, p⟩ := h
  refine ⟨w, ρ, S, rfl, rE, rS, PostG.seq p fun w1 x v S1 _ x1 r1 q1 p1 => ?_⟩
  cases x with
  | int i => obtain rfl := q1; exact ⟨i, rfl, p1 w1 (some i) (Ext.refl _) r1 rfl⟩
  | _ => exact p1.elim
def cutD {α : Type} (xs : List α) (lo hi : Option Int) : List α := (xs.drop (HT.sIx xs.length 0 lo)).take (HT.sIx xs.length xs.length hi - HT.sIx xs.length 0 lo)
theorem cut_rep {w : Wd} {xs : List D} {vs : List V} {lo hi : Option Int} (r : Reps G w xs vs) : Reps G w (cutD xs lo hi) (cutV vs lo hi) := by
  unfold cutD cutV
  rw [← r.length]
  exact (r.drop _).take _
def slM (x : D) (lo hi : Option Int) (S : Store) : Out D := match x with
  | .tup xs => .ok (.tup (cutD xs lo hi)) S
  | .loc n => match S[n]? with
    | some (.lst xs) => .ok (.loc S.length) (S ++ [.lst (cutD xs lo hi)])
    | _ => .bad
  | .scr ns => .ok (.loc S.length) (S ++ [.lst ((cutD ns lo hi).map .int)])
  | _ => .bad
def mSl (a : ME) (l h : MO) : ME := fun ρ S => (a ρ S).bind fun x S1 => (l ρ S1).bind fun lo S2 => (h ρ S2).bind fun hi S3 => slM x lo hi S3
theorem cutV_map (ns : List Int) (lo hi : Option Int) : cutV (ns.map V.int) lo hi = (cutD ns lo hi).map V.int := by
  unfold cutV cutD
  rw [List.length_map, List.map_take, List.map_drop]
theorem se_sl (hK : X.K = G.K) {lo hi : Option Expr} {ml mh : MO} {p2 : Pos} (ha : SE G X W a ma) (hl : SO' G X W lo ml) (hh : SO' G X W hi mh) : SE G X W (.Subscript a (.Slice lo hi none p2) pos) (mSl ma ml mh) := by
  have hr : SlR X (fun x lo hi H Q => rSlL G.K x lo hi H Q ∨ rSlA G.K x lo hi H Q) := by rw [← hK]; exact sl_list.or sl_tupA
  refine PE.imp (pe_slice hr ha hl hh) fun σ H Q h => ?_
  obtain ⟨w, ρ, S, rfl, rE, rS, p⟩ := h
  refine ⟨w, ρ, S, rfl, rE, rS, PostG.seq p fun w1 x v S1 _ x1 r1 q1 p1 => ?_⟩
  refine ⟨w1, ρ, S1, rfl, rE.mono x1, r1, PostG.seq p1 fun w2 l u S2 _ x2 r2 q2 p2 => ?_⟩
  obtain rfl := q2
  refine ⟨w2, ρ, S2, rfl, (rE.mono x1).mono x2, r2, PostG.seq p2 fun w3 h u2 S3 _ x3 r3 q3 p3 => ?_⟩
  obtain rfl := q3
  have qx := (q1.mono x2).mono x3
  cases x with
  | tup xs =>
    obtain ⟨q, vs, rfl, e, r⟩ := id qx
    refine .inr ⟨q, vs, rfl, SqT.of e, fun z => ?_, fun z t ht => p3.newTup r3 (cut_rep r) ht⟩
    have ec : cutD xs l h = xs := by
      unfold cutD
      rw [r.length, z.1, z.2, List.drop_zero, Nat.sub_zero, ← r.length, List.take_length]
    rw [slM, ec] at p3
    exact p3.val r3 qx
  | loc n =>
    unfold slM at p3
    dsimp only at p3
    split at p3
    · rename_i xs h1
      obtain ⟨-, rfl⟩ := qx
      obtain ⟨vs, e, r⟩ := r3.lst h1
      exact .inl ⟨_, vs, rfl, SqL.of e, fun t ht => p3.newLst r3 (cut_rep r) ht⟩
    · exact p3.elim
  | scr ns =>
    obtain ⟨q, rfl, hs⟩ := qx
    refine .inl ⟨q, _, rfl, hs.seq, fun t ht => ?_⟩
    rw [cutV_map]
    exact p3.newLst r3 (Reps.ints.mpr rfl) ht
  | _ => exact p3.elim

/-! ### calls of built-in things by values -/
abbrev OpL := List D → Store → Out D
def mCB (f : OpL) (r : MA) : ME := fun ρ S => (r ρ S).bind fun xs S1 => f xs S1
def CallM (G : Gb) (r : List V → Hp → VK → Prop) (f : OpL) : Prop := ∀ w xs S vs (Q : VK) (E : XH), RepS G w S → Reps G w xs vs → PostG G w (Rep G) (f xs S) Q E → r vs w.H Q
theorem cb_of {r : List V → Hp → VK → Prop} {f : OpL} {mr : MA} (hf : CallM G r f) {σ : L2.St} {H : Hp} {Q : VK} (h : tE G W (mCB f mr) σ H Q) : tCB r (tAm G W mr) σ H Q := by
  obtain ⟨w, ρ, S, rfl, rE, rS, p⟩ := h
  refine ⟨w, ρ, S, rfl, rE, rS, PostG.seq p fun w1 xs vs S1 _ x1 r1 q1 p1 => ?_⟩
  exact hf w1 xs S1 vs Q _ r1 q1 p1
section
variable {r : List V → Hp → VK → Prop} {f : OpL} {mr : MA} {x : Str} {id T : String} {p : Pos}
theorem se_callB (hc : CallR X (.builtin id) r) (hf : CallM G r f) (hg : Gl X x) (hm : X.mg x = none) (hv : bootBuiltins x = some (.builtin id)) (ha : SA G X W (e :: es) mr) (hn : x ≠ "__name__" := by decide) (hdb : (x == ("__debug__" : Str)) = false := by decide)
    (he : starEach (e :: es) X.env = (false, eval e X.env) :: starEach es X.env := by rfl) (hpl : (backTo pos (starEach es X.env)).any (·.1) = false := by rfl) : SE G X W (.Call (.Name x p) (e :: es) [] pos) (mCB f mr) :=
  PE.imp (pe_callB hc hg hm hv ha hn hdb he hpl) fun _ _ _ h => cb_of hf h
theorem se_callTy (hc : CallR X (.type T) r) (hf : CallM G r f) (hg : Gl X x) (hm : X.mg x = none) (hv : bootBuiltins x = some (.type T)) (ha : SA G X W (e :: es) mr) (hn : x ≠ "__name__" := by decide) (hdb : (x == ("__debug__" : Str)) = false := by decide)
    (he : starEach (e :: es) X.env = (false, eval e X.env) :: starEach es X.env := by rfl) (hpl : (backTo pos (starEach es X.env)).any (·.1) = false := by rfl) : SE G X W (.Call (.Name x p) (e :: es) [] pos) (mCB f mr) :=
  PE.imp (pe_callTy hc hg hm hv ha hn hdb he hpl) fun _ _ _ h => cb_of hf h
end
theorem reps1 {w : Wd} {x : D} {vs : List V} (r : Reps G w [x] vs) : ∃ v, vs = [v] ∧ Rep G w x v := by
  obtain ⟨v, s, rfl, h, h2⟩ := r
  obtain rfl := h2
  exact ⟨v, rfl, h⟩
theorem reps2 {w : Wd} {x y : D} {vs : List V} (r : Reps G w [x, y] vs) : ∃ v u, vs = [v, u] ∧ Rep G w x v ∧ Rep G w y u := by
  obtain ⟨v, s, rfl, h, h2⟩ := r
  obtain ⟨u, rfl, h3⟩ := reps1 h2
  exact ⟨v, u, rfl, h, h3⟩
/-- what stands at a sequence -/
def seqOf (S : Store) : D → Option (List D)
  | .tup xs => some xs
  | .loc n => match S[n]? with
    | some (.lst xs) => some xs
    | _ => none
  | .scr ns => some (ns.map .int)
  | _ => none
theorem seq_ok {w : Wd} {S : Store} (R : RepS G w S) {x : D} {v : V} {xs : List D} (rx : Rep G w x v) (h : seqOf S x = some xs) : ∃ q vs, v = .ref q ∧ (SqL G.K w.H q vs ∨ SqT G.K w.H q vs) ∧ Reps G w xs vs := by
  cases x with
  | tup ys => cases h; obtain ⟨q, vs, rfl, e, r⟩ := rx; exact ⟨q, vs, rfl, .inr (SqT.of e), r⟩
  | loc n =>
    unfold seqOf at h
    dsimp only at h
    split at h
    · rename_i ys h1
      cases h
      obtain ⟨-, rfl⟩ := rx
      obtain ⟨vs, e, r⟩ := R.lst h1
      exact ⟨_, vs, rfl, .inl (SqL.of e), r⟩
    · cases h
  | scr ns => cases h; obtain ⟨q, rfl, hs⟩ := rx; exact ⟨q, _, rfl, .inl hs.seq, Reps.ints.mpr rfl⟩
  | _ => cases h
def lenM : OpL := fun xs S => match xs with
  | [x] => match seqOf S x with
    | some ys => .ok (.int ys.length) S
    | none => .bad
  | _ => .bad
theorem lenM_ok : CallM G (fun xs H Q => ∃ p ys, xs = [V.ref p] ∧ (SqL G.K H p ys ∨ SqT G.K H p ys) ∧ Q (.int ys.length) H) lenM := by
  intro w xs S vs Q E R r p
  unfold lenM at p
  split at p
  · split at p
    · rename_i x _ ys h
      obtain ⟨v, rfl, rx⟩ := reps1 r
      obtain ⟨q, us, rfl, hs, rs⟩ := seq_ok R rx h
      exact ⟨q, us, rfl, hs, by rw [← rs.length]; exact p.val R rfl⟩
    · exact p.elim
  · exact p.elim
def absM : OpL := fun xs S => match xs with
  | [.int i] => .ok (.int (if i < 0 then -i else i)) S
  | _ => .bad
theorem absM_ok : CallM G (fun xs H Q => ∃ i, xs = [V.int i] ∧ Q (.int (if i < 0 then -i else i)) H) absM := by
  intro w xs S vs Q E R r p
  unfold absM at p
  split at p
  · obtain ⟨v, rfl, rx⟩ := reps1 r
    obtain rfl := rx
    exact ⟨_, rfl, p.val R rfl⟩
  · exact p.elim
def max2M : OpL := fun xs S => match xs with
  | [.int i, .int j] => .ok (.int (if j > i then j else i)) S
  | _ => .bad
theorem max2M_ok : CallM G (fun xs H Q => ∃ i j, xs = [V.int i, V.int j] ∧ Q (.int (if j > i then j else i)) H) max2M := by
  intro w xs S vs Q E R r p
  unfold max2M at p
  split at p
  · obtain ⟨v, u, rfl, rx, ry⟩ := reps2 r
    obtain rfl := rx
    obtain rfl := ry
    exact ⟨_, _, rfl, p.val R rfl⟩
  · exact p.elim
def min2M : OpL := fun xs S => match xs with
  | [.int i, .int j] => .ok (.int (if j < i then j else i)) S
  | _ => .bad
theorem min2M_ok : CallM G (fun xs H Q => ∃ i j, xs = [V.int i, V.int j] ∧ Q (.int (if j < i then j else i)) H) min2M := by
  intro w xs S vs Q E R r p
  unfold min2M at p
  split at p
  · obtain ⟨v, u, rfl, rx, ry⟩ := reps2 r
    obtain rfl := rx
    obtain rfl := ry
    exact ⟨_, _, rfl, p.val R rfl⟩
  · exact p.elim
def int1M : OpL := fun xs S => match xs with
  | [.int i] => .ok (.int i) S
  | [.bl k] => .ok (.int (if k then 1 else 0)) S
  | _ => .bad
theorem int1M_ok : CallM G (fun xs H Q => (∃ i, xs = [V.int i] ∧ Q (.int i) H) ∨ ∃ k, xs = [V.bl k] ∧ Q (.int (if k then 1 else 0)) H) int1M := by
  intro w xs S vs Q E R r p
  unfold int1M at p
  split at p
  · obtain ⟨v, rfl, rx⟩ := reps1 r
    obtain rfl := rx
    exact .inl ⟨_, rfl, p.val R rfl⟩
  · obtain ⟨v, rfl, rx⟩ := reps1 r
    obtain rfl := rx
    exact .inr ⟨_, rfl, p.val R rfl⟩
  · exact p.elim
def listM : OpL := fun xs S => match xs with
  | [x] => match seqOf S x with
    | some ys => .ok (.loc S.length) (S ++ [.lst ys])
    | none => .bad
  | _ => .bad
theorem listM_ok : CallM G (fun xs H Q => ∃ p ys, xs = [V.ref p] ∧ (SqL G.K H p ys ∨ SqT G.K H p ys) ∧ ∀ l, H l = none → Q (.ref l) (upd H l (.lst ys))) listM := by
  intro w xs S vs Q E R r p
  unfold listM at p
  split at p
  · split at p
    · rename_i x _ ys h
      obtain ⟨v, rfl, rx⟩ := reps1 r
      obtain ⟨q, us, rfl, hs, rs⟩ := seq_ok R rx h
      exact ⟨q, us, rfl, hs, fun l hl => p.newLst R rs hl⟩
    · exact p.elim
  · exact p.elim
def tupleM : OpL := fun xs S => match xs with
  | [x] => match seqOf S x with
    | some ys => .ok (.tup ys) S
    | none => .bad
  | _ => .bad
theorem tupleM_ok : CallM G (fun xs H Q => ∃ p ys, xs = [V.ref p] ∧ ((SqL G.K H p ys ∧ ∀ l, H l = none → Q (.ref l) (upd H l (.tup ys))) ∨ (SqT G.K H p ys ∧ Q (.ref p) H))) tupleM := by
  intro w xs S vs Q E R r p
  unfold tupleM at p
  split at p
  · rename_i x
    split at p
    · rename_i ys h
      obtain ⟨v, rfl, rx⟩ := reps1 r
      cases x with
      | tup zs =>
        cases h
        obtain ⟨q, us, rfl, e, rs⟩ := id rx
        exact ⟨q, us, rfl, .inr ⟨SqT.of e, p.val R rx⟩⟩
      | loc n =>
        obtain ⟨-, rfl⟩ := rx
        unfold seqOf at h
        dsimp only at h
        split at h
        · rename_i zs h1
          cases h
          obtain ⟨us, e, rs⟩ := R.lst h1
          exact ⟨_, us, rfl, .inl ⟨SqL.of e, fun l hl => p.newTup R rs hl⟩⟩
        · cases h
      | scr ns =>
        cases h
        obtain ⟨q, rfl, hs⟩ := rx
        exact ⟨q, _, rfl, .inl ⟨hs.seq, fun l hl => p.newTup R (Reps.ints.mpr rfl) hl⟩⟩
      | _ => cases h
    · exact p.elim
  · exact p.elim
/-- a list of ints -/
def asInts : List D → Option (List Int)
  | [] => some []
  | .int i :: r => match asInts r with
    | some ns => some (i :: ns)
    | none => none
  | _ => none
theorem asInts_eq : ∀ {xs : List D} {ns : List Int}, asInts xs = some ns → xs = ns.map .int
  | [], _, h => by cases h; rfl
  | .int i :: r, _, h => by
    unfold asInts at h
    split at h
    · rename_i ns hn
      cases h
      rw [asInts_eq hn]
      rfl
    · cases h
  | .non :: r, _, h => by cases h
  | .bl _ :: r, _, h => by cases h
  | .str _ :: r, _, h => by cases h
  | .tup _ :: r, _, h => by cases h
  | .loc _ :: r, _, h => by cases h
  | .scr _ :: r, _, h => by cases h
theorem asInts_map : ∀ ns : List Int, asInts (ns.map .int) = some ns
  | [] => rfl
  | n :: ns => by simp [asInts, asInts_map ns]
/-- a list (not a tuple) of ints -/
def lstInts (S : Store) : D → Option (List Int)
  | .loc n => match S[n]? with
    | some (.lst xs) => asInts xs
    | _ => none
  | .scr ns => some ns
  | _ => none
theorem lstInts_ok {w : Wd} {S : Store} (R : RepS G w S) {x : D} {v : V} {ns : List Int} (rx : Rep G w x v) (h : lstInts S x = some ns) : ∃ q, v = .ref q ∧ SqL G.K w.H q (ns.map V.int) := by
  unfold lstInts at h
  split at h
  · rename_i n
    split at h
    · rename_i xs h1
      obtain ⟨-, rfl⟩ := rx
      obtain ⟨us, e, rs⟩ := R.lst h1
      rw [asInts_eq h] at rs
      rw [Reps.ints.mp rs] at e
      exact ⟨_, rfl, SqL.of e⟩
    · cases h
  · cases h
    obtain ⟨q, rfl, hs⟩ := rx
    exact ⟨q, rfl, hs.seq⟩
  · cases h
def sumM : OpL := fun xs S => match xs with
  | [x] => match lstInts S x with
    | some ns => .ok (.int ns.sum) S
    | none => .bad
  | _ => .bad
theorem sumM_ok : CallM G (rSum G.K) sumM := by
  intro w xs S vs Q E R r p
  unfold sumM at p
  split at p
  · split at p
    · rename_i x _ ns h
      obtain ⟨v, rfl, rx⟩ := reps1 r
      obtain ⟨q, rfl, hs⟩ := lstInts_ok R rx h
      exact ⟨q, ns, rfl, hs, p.val R rfl⟩
    · exact p.elim
  · exact p.elim
def maxI (n : Int) (ns : List Int) : Int := ns.foldl (fun a b => if b > a then b else a) n
theorem maxI_spec (ns : List Int) : ∀ n, maxI n ns ∈ n :: ns ∧ ∀ y ∈ n :: ns, y ≤ maxI n ns := by
  induction ns with
  | nil => intro n; simp [maxI]
  | cons m ns ih =>
    intro n
    have e : maxI n (m :: ns) = maxI (if m > n then m else n) ns := rfl
    obtain ⟨h1, h2⟩ := ih (if m > n then m else n)
    rw [e]
    refine ⟨?_, fun y hy => ?_⟩
    · rcases List.mem_cons.mp h1 with h | h
      · rw [h]; split <;> simp
      · exact List.mem_cons_of_mem _ (List.mem_cons_of_mem _ h)
    · have h0 := h2 _ List.mem_cons_self
      rcases List.mem_cons.mp hy with h | hy
      · rw [h]; generalize maxI (if m > n then m else n) ns = z at h0; split at h0 <;> omega
      · rcases List.mem_cons.mp hy with h | hy
        · rw [h]; generalize maxI (if m > n then m else n) ns = z at h0; split at h0 <;> omega
        · exact h2 y (List.mem_cons_of_mem _ hy)
def maxM : OpL := fun xs S => match xs with
  | [x] => match lstInts S x with
    | some (n :: ns) => .ok (.int (maxI n ns)) S
    | _ => .bad
  | _ => .bad
theorem maxM_ok : CallM G (rMax G.K) maxM := by
  intro w xs S vs Q E R r p
  unfold maxM at p
  split at p
  · split at p
    · rename_i x _ n ns h
      obtain ⟨v, rfl, rx⟩ := reps1 r
      obtain ⟨q, rfl, hs⟩ := lstInts_ok R rx h
      refine ⟨q, n :: ns, rfl, hs, Nat.succ_pos _, fun m hm hle => ?_⟩
      obtain ⟨h1, h2⟩ := maxI_spec ns n
      have e : m = maxI n ns := Int.le_antisymm (h2 m hm) (hle _ h1)
      rw [e]
      exact p.val R rfl
    · exact p.elim
  · exact p.elim
/-- sorted of ints -/
def insI (n : Int) : List Int → List Int
  | [] => [n]
  | m :: ms => if n ≤ m then n :: m :: ms else m :: insI n ms
def sortI (ns : List Int) : List Int := ns.foldr insI []
theorem insI_perm (n : Int) : ∀ ms, (insI n ms).Perm (n :: ms)
  | [] => List.Perm.refl _
  | m :: ms => by
    unfold insI
    split
    · exact List.Perm.refl _
    · exact ((insI_perm n ms).cons m).trans (List.Perm.swap _ _ _)
theorem sortI_perm : ∀ ns, (sortI ns).Perm ns
  | [] => List.Perm.refl _
  | n :: ns => (insI_perm n (sortI ns)).trans ((sortI_perm ns).cons n)
theorem insI_sorted (n : Int) : ∀ ms, ms.Pairwise (· ≤ ·) → (insI n ms).Pairwise (· ≤ ·)
  | [], _ => by simp [insI]
  | m :: ms, h => by
    unfold insI
    split
    · rename_i hn
      refine List.pairwise_cons.mpr ⟨fun y hy => ?_, h⟩
      rcases List.mem_cons.mp hy with e | hy
      · rw [e]; exact hn
      · exact Int.le_trans hn ((List.pairwise_cons.mp h).1 y hy)
    · rename_i hn
      refine List.pairwise_cons.mpr ⟨fun y hy => ?_, insI_sorted n ms (List.pairwise_cons.mp h).2⟩
      rcases List.mem_cons.mp ((insI_perm n ms).mem_iff.mp hy) with e | hy
      · rw [e]; omega
      · exact (List.pairwise_cons.mp h).1 y hy
theorem sortI_sorted : ∀ ns, (sortI ns).Pairwise (· ≤ ·)
  | [] => List.Pairwise.nil
  | n :: ns => insI_sorted n _ (sortI_sorted ns)
theorem perm_sorted_eq : ∀ {xs ys : List Int}, xs.Perm ys → xs.Pairwise (· ≤ ·) → ys.Pairwise (· ≤ ·) → xs = ys
  | [], ys, h, _, _ => (List.Perm.nil_eq h)
  | x :: xs, [], h, _, _ => by have := h.length_eq; simp at this
  | x :: xs, y :: ys, h, hx, hy => by
    have e : x = y := by
      have h1 : x ∈ y :: ys := h.mem_iff.mp List.mem_cons_self
      have h2 : y ∈ x :: xs := h.mem_iff.mpr List.mem_cons_self
      have a : y ≤ x := by
        rcases List.mem_cons.mp h1 with e | z
        · omega
        · exact (List.pairwise_cons.mp hy).1 x z
      have b : x ≤ y := by
        rcases List.mem_cons.mp h2 with e | z
        · omega
        · exact (List.pairwise_cons.mp hx).1 y z
      omega
    subst e
    rw [perm_sorted_eq (List.Perm.cons_inv h) (List.pairwise_cons.mp hx).2 (List.pairwise_cons.mp hy).2]
def sortedIM : OpL := fun xs S => match xs with
  | [x] => match lstInts S x with
    | some ns => .ok (.loc S.length) (S ++ [.lst ((sortI ns).map .int)])
    | none => .bad
  | _ => .bad
theorem sortedIM_ok : CallM G (rSortedI G.K) sortedIM := by
  intro w xs S vs Q E R r p
  unfold sortedIM at p
  split at p
  · split at p
    · rename_i x _ ns h
      obtain ⟨v, rfl, rx⟩ := reps1 r
      obtain ⟨q, rfl, hs⟩ := lstInts_ok R rx h
      refine ⟨q, ns, rfl, hs, fun ns' l hp hso hl => ?_⟩
      have e : ns' = sortI ns := perm_sorted_eq (hp.trans (sortI_perm ns).symm) hso (sortI_sorted ns)
      rw [e]
      exact p.newLst R (Reps.ints.mpr rfl) hl
    · exact p.elim
  · exact p.elim

/-! ### methods of lists -/
abbrev OpR' := D → List D → Store → Out D
def mBM (f : OpR') (o : ME) (r : MA) : ME := fun ρ S => (o ρ S).bind fun x S1 => match x with
  | .loc n => match S1[n]? with
    | some (.lst _) => (r ρ S1).bind fun xs S2 => f (.loc n) xs S2
    | _ => .bad
  | _ => .bad
def MtM' (G : Gb) (r : V → List V → Hp → VK → Prop) (f : OpR') : Prop := ∀ w x xs S v vs (Q : VK) (E : XH), RepS G w S → Rep G w x v → Reps G w xs vs → PostG G w (Rep G) (f x xs S) Q E → r v vs w.H Q
theorem bm_of {r : V → List V → Hp → VK → Prop} {f : OpR'} {mo : ME} {mr : MA} (hK : X.K = G.K) (hf : MtM' G r f) {σ : L2.St} {H : Hp} {Q : VK} (h : tE G W (mBM f mo mr) σ H Q) : tBM X.K "list" r (tE G W mo) (tAm G W mr) σ H Q := by
  obtain ⟨w, ρ, S, rfl, rE, rS, p⟩ := h
  refine ⟨w, ρ, S, rfl, rE, rS, PostG.seq p fun w1 x v S1 _ x1 r1 q1 p1 => ?_⟩
  cases x with
  | loc n =>
    dsimp only at p1
    split at p1
    · rename_i zs h1
      obtain ⟨us, e, rs⟩ := r1.lst h1
      refine ⟨?_, w1, ρ, S1, rfl, rE.mono x1, r1, PostG.seq p1 fun w2 xs vs S2 _ x2 r2 q2 p2 => hf w2 (.loc n) xs S2 v vs Q _ r2 (q1.mono x2) q2 p2⟩
      obtain ⟨-, rfl⟩ := q1
      exact .inl ⟨rfl, us, SqL.of e⟩
    · exact p1.elim
  | _ => exact p1.elim
theorem PostG.wr {w : Wd} {n : Nat} {xs : List D} {so : SO} {vs : List V} {S : Store} {d : D} {v : V} {Q : VK} {E : XH} (p : PostG G w (Rep G) (.ok d (S.set n (.lst xs))) Q E) (R : RepS G w S) (e : S[n]? = some so) (h : Reps G w xs vs) (hd : Rep G w d v) : Q v (upd w.H (w.at_ n) (.lst vs)) := by
  obtain ⟨r1, x1⟩ := R.write (so' := .lst xs) (o := .lst vs) e ⟨vs, rfl, h⟩
  exact p _ v x1 r1 (hd.mono x1)
def appendM : OpR' := fun x xs S => match x, xs with
  | .loc n, [y] => match S[n]? with
    | some (.lst zs) => if zs.length ≤ LIM then .ok .non (S.set n (.lst (zs ++ [y]))) else .bad
    | _ => .bad
  | _, _ => .bad
theorem appendM_ok : MtM' G rAppend appendM := by
  intro w x xs S v vs Q E R rx rs p
  unfold appendM at p
  split at p
  · split at p
    · rename_i n y _ zs h1
      split at p
      · rename_i hl
        obtain ⟨-, rfl⟩ := rx
        obtain ⟨u, rfl, ry⟩ := reps1 rs
        obtain ⟨us, e, rz⟩ := R.lst h1
        exact ⟨_, us, u, rfl, rfl, e, by rw [← rz.length]; exact LIM_lt hl, p.wr R h1 (rz.append (Reps.cons ry Reps.nil)) rfl⟩
      · exact p.elim
    · exact p.elim
  · exact p.elim
def popM : OpR' := fun x xs S => match x, xs with
  | .loc n, [] => match S[n]? with
    | some (.lst zs) => match zs[zs.length - 1]? with
      | some y => .ok y (S.set n (.lst zs.dropLast))
      | none => .bad
    | _ => .bad
  | _, _ => .bad
theorem reps_dropLast {w : Wd} {xs : List D} {vs : List V} (r : Reps G w xs vs) : Reps G w xs.dropLast vs.dropLast := by
  rw [List.dropLast_eq_take, List.dropLast_eq_take, ← r.length]
  exact r.take _
theorem popM_ok : MtM' G rPop popM := by
  intro w x xs S v vs Q E R rx rs p
  unfold popM at p
  split at p
  · split at p
    · rename_i n _ zs h1
      split at p
      · rename_i y hy
        obtain ⟨-, rfl⟩ := rx
        obtain rfl := rs
        obtain ⟨us, e, rz⟩ := R.lst h1
        obtain ⟨u, hu, ru⟩ := rz.get hy
        rw [rz.length] at hu
        exact ⟨_, us, u, rfl, rfl, e, hu, p.wr R h1 (reps_dropLast rz) ru⟩
      · exact p.elim
    · exact p.elim
  · exact p.elim
def popAtM : OpR' := fun x xs S => match x, xs with
  | .loc n, [.int i] => match S[n]? with
    | some (.lst zs) => if 0 ≤ i ∧ i < zs.length ∧ i < 2 ^ 62 then match zs[i.toNat]? with
      | some y => .ok y (S.set n (.lst (zs.eraseIdx i.toNat)))
      | none => .bad
      else .bad
    | _ => .bad
  | _, _ => .bad
theorem reps_erase {w : Wd} : ∀ {xs : List D} {vs : List V} (k : Nat), Reps G w xs vs → Reps G w (xs.eraseIdx k) (vs.eraseIdx k)
  | [], _, k, r => by obtain rfl := r; exact Reps.nil
  | x :: xs, _, 0, r => by obtain ⟨v, s, rfl, _, h⟩ := r; exact h
  | x :: xs, _, k + 1, r => by obtain ⟨v, s, rfl, h1, h⟩ := r; exact Reps.cons h1 (reps_erase k h)
def extendM : OpR' := fun x xs S => match x, xs with
  | .loc n, [.loc m] => match S[n]?, S[m]? with
    | some (.lst zs), some (.lst ys) => if zs.length + ys.length ≤ LIM then .ok .non (S.set n (.lst (zs ++ ys))) else .bad
    | _, _ => .bad
  | _, _ => .bad
theorem extendM_ok : MtM' G rExtend extendM := by
  intro w x xs S v vs Q E R rx rs p
  unfold extendM at p
  split at p
  · split at p
    · rename_i n m _ _ zs ys h1 h2
      split at p
      · rename_i hl
        obtain ⟨-, rfl⟩ := rx
        obtain ⟨u, rfl, ry⟩ := reps1 rs
        obtain ⟨-, rfl⟩ := ry
        obtain ⟨us, e, rz⟩ := R.lst h1
        obtain ⟨ts, e2, ry⟩ := R.lst h2
        exact ⟨_, _, us, ts, rfl, rfl, e, e2, by rw [← rz.length, ← ry.length]; exact Nat.le_of_lt (LIM_lt hl), p.wr R h1 (rz.append ry) rfl⟩
      · exact p.elim
    · exact p.elim
  · exact p.elim
section
variable {o : Expr} {mo : ME} {mr : MA} {cpos apos : Pos} {nm : Str} {id : String} {r : V → List V → Hp → VK → Prop} {f : OpR'}
theorem se_bm (hK : X.K = G.K) (slot : Slot "list" nm id) (hty : typeOf (.builtin id) = pure (.type "method_descriptor")) (hm : MtR X id r) (hf : MtM' G r f) (ho : SE G X W o mo) (ha : SA G X W (e :: es) mr)
    (hbase : attributeBase o nm X.env (eval o X.env) = eval o X.env := by rfl)
    (hfew : ((backTo cpos (starEach (e :: es) X.env)).all (fun x => !x.1) && (backToKw cpos (keywordEach [] X.env)).all (fun x => x.1.isSome)
      && decide ((e :: es).length + ([] : List Keyword).length + (if ([] : List Keyword).isEmpty then 0 else 1) < 30)) = true := by rfl)
    (hline : (apos.endLine == cpos.line) = true := by rfl) (hs : starEach (e :: es) X.env = (false, eval e X.env) :: starEach es X.env := by rfl) (hplain : (backTo cpos (starEach es X.env)).any (·.1) = false := by rfl) :
    SE G X W (.Call (.Attribute o nm apos) (e :: es) [] cpos) (mBM f mo mr) :=
  PE.imp (pe_bm PySem.F.plainAttrs_list slot hty hm ho ha hbase hfew hline hs hplain) fun _ _ _ h => bm_of hK hf h
theorem se_bm0 (hK : X.K = G.K) (slot : Slot "list" nm id) (hty : typeOf (.builtin id) = pure (.type "method_descriptor")) (hm : MtR X id r) (hf : MtM' G r f) (ho : SE G X W o mo)
    (hbase : attributeBase o nm X.env (eval o X.env) = eval o X.env := by rfl) (hline : (apos.endLine == cpos.line) = true := by rfl) :
    SE G X W (.Call (.Attribute o nm apos) [] [] cpos) (mBM f mo mNil) :=
  PE.imp (pe_bm0 PySem.F.plainAttrs_list slot hty hm ho hbase hline) fun σ H Q h => by
    obtain ⟨w, ρ, S, rfl, rE, rS, p⟩ := h
    refine ⟨w, ρ, S, rfl, rE, rS, PostG.seq p fun w1 x v S1 _ x1 r1 q1 p1 => ?_⟩
    cases x with
    | loc n =>
      dsimp only at p1
      split at p1
      · rename_i zs h1
        obtain ⟨us, e, rs⟩ := r1.lst h1
        refine ⟨?_, hf w1 (.loc n) [] S1 v [] Q _ r1 q1 Reps.nil p1⟩
        obtain ⟨-, rfl⟩ := q1
        exact .inl ⟨rfl, us, SqL.of e⟩
      · exact p1.elim
    | _ => exact p1.elim
end
end
end Mx
set_option Elab.async false
set_option linter.all false
set_option maxRecDepth 100000
set_option maxHeartbeats 1000000
/-! The layer M, part D: statements, loops, comprehensions. -/
namespace Mx
open PySem PySem.Spec PyProof.Rows L2
abbrev MS := Env' → Store → OutS
def Out.toS {α : Type} (o : Out α) (ρ : Env') (k : α → Store → OutS) : OutS := match o with
  | .ok a S => k a S
  | .exc x S => .exc x ρ S
  | .bad => .bad
section
variable (G : Gb)
def PostS (W : WX) (w : Wd) (o : OutS) (D : Ends) : Prop := match o with
  | .next ρ' S' => ∀ w' σ', Ext w w' → RepS G w' S' → RepE G w' ρ' σ' → D.nx σ' w'.H
  | .ret d S' => ∀ w' v, Ext w w' → RepS G w' S' → Rep G w' d v → D.rt v w'.H
  | .brk ρ' S' => ∀ w' σ', Ext w w' → RepS G w' S' → RepE G w' ρ' σ' → D.bk σ' w'.H
  | .cont ρ' S' => ∀ w' σ', Ext w w' → RepS G w' S' → RepE G w' ρ' σ' → D.ct σ' w'.H
  | .exc x ρ' S' => ∀ w' σ' cls dd, Ext w w' → RepS G w' S' → RepE G w' ρ' σ' → RepX G w' x cls dd → W cls dd σ' w'.H
  | .bad => False
def tSm (W : WX) (m : MS) : TS := fun D σ H => ∃ w ρ S, w.H = H ∧ RepE G w ρ σ ∧ RepS G w S ∧ PostS G W w (m ρ S) D
abbrev SS (X : Cx) (W : WX) (st : Stmt) (m : MS) : Prop := PS X st (tSm G W m)
abbrev SSs (X : Cx) (W : WX) (st : List Stmt) (m : MS) : Prop := PSs X st (tSm G W m)
end
section
variable {G : Gb} {X : Cx} {W : WX}
theorem PostS.ext {w w1 : Wd} {o : OutS} {D : Ends} (x : Ext w w1) (h : PostS G W w o D) : PostS G W w1 o D := by
  cases o with
  | next a S => exact fun w' b x' => h w' b (x.trans x')
  | ret a S => exact fun w' b x' => h w' b (x.trans x')
  | brk a S => exact fun w' b x' => h w' b (x.trans x')
  | cont a S => exact fun w' b x' => h w' b (x.trans x')
  | exc e ρ S => exact fun w' s c d x' => h w' s c d (x.trans x')
  | bad => exact h
theorem PostS.seqE {α β : Type} {w : Wd} {R : Wd → α → β → Prop} {o : Out α} {k : α → Store → OutS} {ρ : Env'} {σ : L2.St} {D : Ends} {Q1 : β → Hp → Prop} (h : PostS G W w (o.toS ρ k) D) (rE : RepE G w ρ σ)
    (g : ∀ w1 a b S1, o = .ok a S1 → Ext w w1 → RepS G w1 S1 → R w1 a b → PostS G W w1 (k a S1) D → Q1 b w1.H) : PostG G w R o Q1 (fun c d H' => W c d σ H') := by
  cases o with
  | ok a S => exact fun w' b x' r q => g w' a b S rfl x' r q (PostS.ext x' h)
  | exc e S => exact fun w' c d x' r q => h w' σ c d x' r (rE.mono x') q
  | bad => exact h
theorem PostS.nxt {w : Wd} {ρ : Env'} {S : Store} {σ : L2.St} {D : Ends} (h : PostS G W w (.next ρ S) D) (rE : RepE G w ρ σ) (r : RepS G w S) : D.nx σ w.H := h w σ (Ext.refl _) r rE

variable {a b c e : Expr} {es : List Expr} {ma mb mc : ME} {pos : Pos} {st : Stmt} {rest : List Stmt} {m m' : MS}
def msNil : MS := fun ρ S => .next ρ S
def OutS.thenS (o : OutS) (k : MS) : OutS := match o with
  | .next ρ S => k ρ S
  | o => o
def msSeq (m m' : MS) : MS := fun ρ S => (m ρ S).thenS m'
theorem sss_nil : SSs G X W [] msNil := PSs.imp pss_nil fun D σ H h => by
  obtain ⟨w, ρ, S, rfl, rE, rS, p⟩ := h
  exact p.nxt rE rS
theorem postS_then {w : Wd} {o : OutS} {k : MS} {D : Ends} (h : PostS G W w (o.thenS k) D) : PostS G W w o { D with nx := tSm G W k D } := by
  cases o with
  | next ρ S => exact fun w' σ' x r rE => ⟨w', ρ, S, rfl, rE, r, PostS.ext x h⟩
  | ret a S => exact h
  | brk a S => exact h
  | cont a S => exact h
  | exc e ρ S => exact h
  | bad => exact h
theorem sss_cons (h1 : SS G X W st m) (h2 : SSs G X W rest m') : SSs G X W (st :: rest) (msSeq m m') := PSs.imp (pss_cons h1 h2) fun D σ H h => by
  obtain ⟨w, ρ, S, rfl, rE, rS, p⟩ := h
  exact ⟨w, ρ, S, rfl, rE, rS, postS_then p⟩
theorem sss_one (h1 : SS G X W st m) : SSs G X W [st] m := pss_one h1
def msBrk : MS := fun ρ S => .brk ρ S
def msCont : MS := fun ρ S => .cont ρ S
theorem ss_pass : SS G X W (.Pass pos) msNil := PS.imp ps_pass fun D σ H h => by
  obtain ⟨w, ρ, S, rfl, rE, rS, p⟩ := h
  exact p.nxt rE rS
theorem ss_break : SS G X W (.Break pos) msBrk := PS.imp ps_break fun D σ H h => by
  obtain ⟨w, ρ, S, rfl, rE, rS, p⟩ := h
  exact p w σ (Ext.refl _) rS rE
theorem ss_continue : SS G X W (.Continue pos) msCont := PS.imp ps_continue fun D σ H h => by
  obtain ⟨w, ρ, S, rfl, rE, rS, p⟩ := h
  exact p w σ (Ext.refl _) rS rE
def msExpr (a : ME) : MS := fun ρ S => (a ρ S).toS ρ fun _ S1 => .next ρ S1
theorem ss_expr (ha : SE G X W a ma) (hs : swapsWith a none pos.line X.env = pure false := by rfl) : SS G X W (.Expr a pos) (msExpr ma) := PS.imp (ps_expr ha hs) fun D σ H h => by
  obtain ⟨w, ρ, S, rfl, rE, rS, p⟩ := h
  exact ⟨w, ρ, S, rfl, rE, rS, p.seqE rE fun w1 x v S1 _ x1 r1 q1 p1 => p1.nxt (rE.mono x1) r1⟩
def msRet (a : ME) : MS := fun ρ S => (a ρ S).toS ρ fun d S1 => .ret d S1
theorem ss_ret (ha : SE G X W a ma) : SS G X W (.Return (some a) pos) (msRet ma) := PS.imp (ps_ret ha) fun D σ H h => by
  obtain ⟨w, ρ, S, rfl, rE, rS, p⟩ := h
  exact ⟨w, ρ, S, rfl, rE, rS, p.seqE rE fun w1 x v S1 _ x1 r1 q1 p1 => p1 w1 v (Ext.refl _) r1 q1⟩
def msRetN : MS := fun ρ S => .ret .non S
theorem ss_retN : SS G X W (.Return none pos) msRetN := PS.imp ps_retN fun D σ H h => by
  obtain ⟨w, ρ, S, rfl, rE, rS, p⟩ := h
  exact p w .non (Ext.refl _) rS rfl
def msIf (c : MT) (m m' : MS) : MS := fun ρ S => (c ρ S).toS ρ fun k S1 => match k with
  | true => m ρ S1
  | false => m' ρ S1
theorem ss_if {tc : MT} {l l' : List Stmt} (hc : ST G X W c tc) (h1 : SSs G X W l m) (h2 : SSs G X W l' m') : SS G X W (.If c l l' pos) (msIf tc m m') := PS.imp (ps_if hc h1 h2) fun D σ H h => by
  obtain ⟨w, ρ, S, rfl, rE, rS, p⟩ := h
  refine ⟨w, ρ, S, rfl, rE, rS, p.seqE rE fun w1 x v S1 _ x1 r1 q1 p1 => ?_⟩
  obtain rfl := q1
  cases x with
  | true => exact iteT ⟨w1, ρ, S1, rfl, rE.mono x1, r1, p1⟩
  | false => exact iteF ⟨w1, ρ, S1, rfl, rE.mono x1, r1, p1⟩

/-! ### targets: a name, a tuple of names -/
inductive Tg where
  | one (i : Nat) | many (is : List Nat)
def setAll {α : Type} : List (Option α) → List Nat → List α → List (Option α)
  | ρ, i :: is, x :: xs => setAll (ρ.set i (some x)) is xs
  | ρ, _, _ => ρ
def bindT (t : Tg) (d : D) (ρ : Env') : Option Env' := match t with
  | .one i => some (ρ.set i (some d))
  | .many is => match d with
    | .tup xs => if xs.length = is.length then some (setAll ρ is xs) else none
    | _ => none
def gT (K : PySem.W.Frag) : Tg → TG
  | .one i => gName i
  | .many is => fun v σ H Q => ∃ a xs, v = .ref a ∧ SqT K H a xs ∧ xs.length = is.length ∧ Q (setAll σ is xs) H
def gTs (is : List Nat) : TGs := fun vs σ H Q => vs.length = is.length ∧ Q (setAll σ is vs) H
theorem PGs.imp {X : Cx} {e : List Expr} {t t' : TGs} (h : PGs X e t) (i : ∀ v σ H Q, t' v σ H Q → t v σ H Q) : PGs X e t' := ⟨fun pins s σ H v u Q I r q => h.run pins s σ H v u Q I r (i v σ H Q q)⟩
theorem gts_nil : PGs X [] (gTs []) := PGs.imp pgs_nil fun vs σ H Q h => ⟨List.length_eq_zero_iff.mp h.1, by have e := List.length_eq_zero_iff.mp h.1; subst e; exact h.2⟩
theorem gts_cons {i : Nat} {is : List Nat} {x : Str} (hN : X.N.Nodup) (hi : X.N[i]? = some x) (hx : Loc X.env.scope x) (h2 : PGs X es (gTs is))
    (hs : (assignEach (.Name x pos :: es) X.env).map (·.2) = assign (.Name x pos) X.env :: (assignEach es X.env).map (·.2) := by rfl)
    (hf : X.fn x = true ∨ X.env.scope.names.lookup x = some .local := by first | exact .inl rfl | exact .inr rfl | assumption) : PGs X (.Name x pos :: es) (gTs (i :: is)) :=
  PGs.imp (pgs_cons (pg_name hN hi hx hf) h2 hs) fun vs σ H Q h => by
    obtain ⟨hl, hq⟩ := h
    cases vs with
    | nil => cases hl
    | cons v r => exact ⟨v, r, rfl, by simpa using hl, hq⟩
theorem gt_one {i : Nat} {x : Str} (hN : X.N.Nodup) (hi : X.N[i]? = some x) (hx : Loc X.env.scope x) (hf : X.fn x = true ∨ X.env.scope.names.lookup x = some .local := by first | exact .inl rfl | exact .inr rfl | assumption) : PG X (.Name x pos) (gT X.K (.one i)) := pg_name hN hi hx hf
theorem gt_many {is : List Nat} {k : Nat} (hc : X.calm = true) (h : PGs X es (gTs is)) (hn : (assignEach es X.env).length = is.length := by rfl) (hst : (assignEach es X.env).findIdx? (·.1) = none := by rfl) : PG X (.Tuple es k pos) (gT X.K (.many is)) :=
  PG.imp (pg_tup (n := is.length) hc h hn hst) fun v σ H Q hq => by
    obtain ⟨a, xs, e, hs, hl, q⟩ := hq
    exact ⟨a, xs, e, hs, hl, hl, q⟩
theorem repE_setAll {w : Wd} : ∀ {is : List Nat} {xs : List D} {vs : List V} {ρ : Env'} {σ : L2.St}, RepE G w ρ σ → Reps G w xs vs → RepE G w (setAll ρ is xs) (setAll σ is vs)
  | [], _, _, _, _, h, _ => h
  | i :: is, [], _, _, _, h, r => by obtain rfl := r; exact h
  | i :: is, x :: xs, _, _, _, h, r => by
    obtain ⟨v, s, rfl, r1, r2⟩ := r
    simpa only [setAll] using repE_setAll (h.set r1 i) r2
/-- a target bound -/
theorem gT_of {w : Wd} {t : Tg} {d : D} {v : V} {ρ ρ' : Env'} {σ : L2.St} {Q : L2.St → Hp → Prop} (hb : bindT t d ρ = some ρ') (r : Rep G w d v) (rE : RepE G w ρ σ) (h : ∀ σ', RepE G w ρ' σ' → Q σ' w.H) : gT G.K t v σ w.H Q := by
  cases t with
  | one i => cases hb; exact h _ (rE.set r i)
  | many is =>
    unfold bindT at hb
    dsimp only at hb
    split at hb
    · rename_i xs
      split at hb
      · rename_i hl
        cases hb
        obtain ⟨a, vs, rfl, e, rs⟩ := r
        exact ⟨a, vs, rfl, SqT.of e, by rw [← rs.length]; exact hl, h _ (repE_setAll rE rs)⟩
      · cases hb
    · cases hb
def msAsg (t : Tg) (a : ME) : MS := fun ρ S => (a ρ S).toS ρ fun d S1 => match bindT t d ρ with
  | some ρ' => .next ρ' S1
  | none => .bad
theorem asg_of {t : Tg} {D : Ends} {σ : L2.St} {H : Hp} (hK : X.K = G.K) (h : tSm G W (msAsg t ma) D σ H) : tAsg (tE G W ma) (gT X.K t) D σ H := by
  rw [hK]
  obtain ⟨w, ρ, S, rfl, rE, rS, p⟩ := h
  refine ⟨w, ρ, S, rfl, rE, rS, p.seqE rE fun w1 x v S1 _ x1 r1 q1 p1 => ?_⟩
  cases hb : bindT t x ρ with
  | none => rw [hb] at p1; exact p1.elim
  | some ρ' =>
    rw [hb] at p1
    exact gT_of hb q1 (rE.mono x1) fun σ' rE' => p1.nxt rE' r1
theorem ss_set {i : Nat} {x : Str} {pos' : Pos} (hK : X.K = G.K) (hN : X.N.Nodup) (hi : X.N[i]? = some x) (hx : Loc X.env.scope x) (ha : SE G X W a ma) (hs : swapsWith a (some (.Name x pos')) pos.line X.env = pure false := by rfl)
    (hf : X.fn x = true ∨ X.env.scope.names.lookup x = some .local := by first | exact .inl rfl | exact .inr rfl | assumption) : SS G X W (.Assign [.Name x pos'] a pos) (msAsg (.one i) ma) := PS.imp (ps_set hN hi hx ha hs hf) fun D σ H h => asg_of hK h
theorem ss_asg {t : Tg} {tg : Expr} (hK : X.K = G.K) (ha : SE G X W a ma) (hg : PG X tg (gT X.K t)) (hs : swapsWithSole [tg] a pos.line X.env = pure false := by rfl) (hw : swappedStores [tg] a X.env = pure none := by rfl)
    (h1 : (assignEach [tg] X.env).map (·.2) = [assign tg X.env] := by rfl) : SS G X W (.Assign [tg] a pos) (msAsg t ma) := PS.imp (ps_asg ha hg hs hw h1) fun D σ H h => asg_of hK h
/-- a, b = x, y -/
def msPar (is : List Nat) (r : MA) : MS := fun ρ S => (r ρ S).toS ρ fun xs S1 => if xs.length = is.length then .next (setAll ρ is xs) S1 else .bad
theorem ss_par {i j : Nat} {x y : Str} {px py pt : Pos} {kt k2 pt2} {mr : MA} (hc : X.calm = true) (hN : X.N.Nodup) (hi : X.N[i]? = some x) (hj : X.N[j]? = some y) (hij : i ≠ j)
    (hx : X.env.scope.names.lookup x = some .local) (hy : X.env.scope.names.lookup y = some .local) (ha : SA G X W [a, b] mr)
    (hw : swappedStores [.Tuple [.Name x px, .Name y py] kt pt] (.Tuple [a, b] k2 pt2) X.env = pure (some [x, y]))
    (hs : swapsWithSole [.Tuple [.Name x px, .Name y py] kt pt] (.Tuple [a, b] k2 pt2) pos.line X.env = pure false := by rfl) :
    SS G X W (.Assign [.Tuple [.Name x px, .Name y py] kt pt] (.Tuple [a, b] k2 pt2) pos) (msPar [i, j] mr) := PS.imp (ps_par hc hN hi hj hij hx hy ha hw hs) fun D σ H h => by
  obtain ⟨w, ρ, S, rfl, rE, rS, p⟩ := h
  refine ⟨w, ρ, S, rfl, rE, rS, p.seqE rE fun w1 xs vs S1 _ x1 r1 q1 p1 => ?_⟩
  split at p1
  · rename_i hl
    have hv : vs.length = 2 := by rw [← q1.length]; exact hl
    match vs, hv with
    | [v, u], _ => exact ⟨v, u, rfl, p1.nxt (repE_setAll (is := [i, j]) (rE.mono x1) q1) r1⟩
  · exact p1.elim

/-! ### a op= e -/
def msAug (i : Nat) (f : Op2) (a : ME) : MS := fun ρ S => match ρ[i]? with
  | some (some x) => (a ρ S).toS ρ fun y S1 => (f x y S1).toS ρ fun z S2 => .next (ρ.set i (some z)) S2
  | _ => .bad
theorem ss_aug {i : Nat} {x : Str} {op : Operator} {r : R2} {f : Op2} {pos' : Pos} (hN : X.N.Nodup) (hi : X.N[i]? = some x) (hx : Loc X.env.scope x) (ha : SE G X W a ma) (ho : OpR X (inplaceOp op) r) (hf' : OpM G r f)
    (hf : X.fn x = true ∨ X.env.scope.names.lookup x = some .local := by first | exact .inl rfl | exact .inr rfl | assumption) : SS G X W (.AugAssign (.Name x pos') op a pos) (msAug i f ma) :=
  PS.imp (ps_aug (ti := r) hN hi hx ha (fun pins s σ H x y v u Q I rx ry q => ho pins s σ H x y v u Q I rx ry q) hf) fun D σ H h => by
    obtain ⟨w, ρ, S, rfl, rE, rS, p⟩ := h
    unfold msAug at p
    split at p
    · rename_i d hd
      obtain ⟨v, e1, rv⟩ := rE.get hd
      refine ⟨v, e1, w, ρ, S, rfl, rE, rS, p.seqE rE fun w1 y u S1 _ x1 r1 q1 p1 => ?_⟩
      exact hf' w1 d y S1 v u _ _ r1 (rv.mono x1) q1 (p1.seqE (rE.mono x1) fun w2 z t S2 _ x2 r2 q2 p2 => p2.nxt (((rE.mono x1).mono x2).set q2 i) r2)
    · exact p.elim
theorem iop_fdivM : OpR X (inplaceOp .FloorDiv) (rI (fun _ j => CDivM j ∧ 0 < j) fun i j => .int (i.fdiv j)) := opI fun i j _ _ _ _ _ hc q => by
  have h1 : (0 : Int) < j := hc.2
  exact ifloordiv_int hc.1.1 q (.inl (PyProof.noPylong_of_log2 hc.1.2))
def idivM : Op2 := fun x y S => match x, y with
  | .int i, .int j => if CDivM j ∧ 0 < j then .ok (.int (i.fdiv j)) S else .bad
  | _, _ => .bad
theorem idivM_ok : OpM G (rI (fun _ j => CDivM j ∧ 0 < j) fun i j => .int (i.fdiv j)) idivM := by
  intro w x y S v u Q E R rx ry p
  unfold idivM at p
  split at p
  · split at p
    · rename_i h
      obtain rfl := rx
      obtain rfl := ry
      exact ⟨_, _, rfl, rfl, h, p.val R rfl⟩
    · exact p.elim
  · exact p.elim
def imodM : Op2 := fun x y S => match x, y with
  | .int i, .int j => if 0 < j then .ok (.int (i % j)) S else .bad
  | _, _ => .bad
theorem imodM_ok : OpM G (rI (fun _ j => 0 < j) fun i j => .int (i % j)) imodM := by
  intro w x y S v u Q E R rx ry p
  unfold imodM at p
  split at p
  · split at p
    · rename_i h
      obtain rfl := rx
      obtain rfl := ry
      exact ⟨_, _, rfl, rfl, h, p.val R rfl⟩
    · exact p.elim
  · exact p.elim
def imulM : Op2 := fun x y S => match x, y with
  | .int i, .int j => if CMulM i j then .ok (.int (i * j)) S else .bad
  | _, _ => .bad
theorem imulM_ok : OpM G (rI CMulM fun i j => .int (i * j)) imulM := by
  intro w x y S v u Q E R rx ry p
  unfold imulM at p
  split at p
  · split at p
    · rename_i h
      obtain rfl := rx
      obtain rfl := ry
      exact ⟨_, _, rfl, rfl, h, p.val R rfl⟩
    · exact p.elim
  · exact p.elim
def iaddM : Op2 := fun x y S => match x, y with
  | .int i, .int j => .ok (.int (i + j)) S
  | _, _ => .bad
theorem iaddM_ok : OpM G (rI0 fun i j => .int (i + j)) iaddM := by
  intro w x y S v u Q E R rx ry p
  unfold iaddM at p
  split at p
  · obtain rfl := rx
    obtain rfl := ry
    exact ⟨_, _, rfl, rfl, p.val R rfl⟩
  · exact p.elim

/-! ### o[i] = e -/
abbrev Op3 := D → D → D → Store → Out Unit
def msSub (f : Op3) (o i a : ME) : MS := fun ρ S => (a ρ S).toS ρ fun d S1 => (o ρ S1).toS ρ fun x S2 => (i ρ S2).toS ρ fun y S3 => (f x y d S3).toS ρ fun _ S4 => .next ρ S4
abbrev RU : Wd → Unit → Unit → Prop := fun _ _ _ => True
def SetM (G : Gb) (t : TSet) (f : Op3) : Prop := ∀ w x y d S o i v (Q : Hp → Prop) (E : XH), RepS G w S → Rep G w x o → Rep G w y i → Rep G w d v → PostG G w RU (f x y d S) (fun (_ : Unit) H => Q H) E → t o i v w.H Q
theorem ss_sub {t : TSet} {f : Op3} {o i : Expr} {mo mi : ME} {pos' : Pos} (hs : PSet X t) (hf : SetM G t f) (ha : SE G X W a ma) (ho : SE G X W o mo) (hi : SE G X W i mi)
    (hasg : ∀ v, assign (.Subscript o i pos') X.env v = (do
      let ov ← holding [v] (eval o X.env)
      let iv ← holding [v, ov] (eval i X.env)
      standAt pos'
      holding [v, ov, iv] (setItem ov iv v)
      release [v, ov, iv] []) := by intro _; rfl)
    (h1 : swapsWithSole [.Subscript o i pos'] a pos.line X.env = pure false := by rfl) (hw : swappedStores [.Subscript o i pos'] a X.env = pure none := by rfl)
    (h2 : (assignEach [.Subscript o i pos'] X.env).map (·.2) = [assign (.Subscript o i pos') X.env] := by rfl) : SS G X W (.Assign [.Subscript o i pos'] a pos) (msSub f mo mi ma) :=
  PS.imp (ps_asg ha (pg_sub ho hi hs hasg) h1 hw h2) fun D σ H h => by
    obtain ⟨w, ρ, S, rfl, rE, rS, p⟩ := h
    refine ⟨w, ρ, S, rfl, rE, rS, p.seqE rE fun w1 d v S1 _ x1 r1 q1 p1 => ?_⟩
    refine ⟨w1, ρ, S1, rfl, rE.mono x1, r1, p1.seqE (rE.mono x1) fun w2 x ov S2 _ x2 r2 q2 p2 => ?_⟩
    refine ⟨w2, ρ, S2, rfl, (rE.mono x1).mono x2, r2, p2.seqE ((rE.mono x1).mono x2) fun w3 y iv S3 _ x3 r3 q3 p3 => ?_⟩
    exact hf w3 x y d S3 ov iv v _ _ r3 (q2.mono x3) q3 ((q1.mono x2).mono x3) (p3.seqE (((rE.mono x1).mono x2).mono x3) fun w4 _ _ S4 _ x4 r4 _ p4 => p4.nxt ((((rE.mono x1).mono x2).mono x3).mono x4) r4)
def setLM : Op3 := fun x y d S => match x, y with
  | .loc n, .int k => match S[n]? with
    | some (.lst xs) => match ixN xs.length k with
      | some j => .ok () (S.set n (.lst (xs.set j d)))
      | none => .bad
    | _ => .bad
  | _, _ => .bad
theorem PostG.wrU {w : Wd} {n : Nat} {xs : List D} {so : SO} {vs : List V} {S : Store} {Q : Hp → Prop} {E : XH} (p : PostG G w RU (.ok () (S.set n (.lst xs))) (fun (_ : Unit) H => Q H) E) (R : RepS G w S) (e : S[n]? = some so) (h : Reps G w xs vs) : Q (upd w.H (w.at_ n) (.lst vs)) := by
  obtain ⟨r1, x1⟩ := R.write (so' := .lst xs) (o := .lst vs) e ⟨vs, rfl, h⟩
  exact p _ () x1 r1 trivial
theorem setLM_ok : SetM G rSetL setLM := by
  intro w x y d S o i v Q E R rx ry rd p
  unfold setLM at p
  split at p
  · split at p
    · rename_i n k _ xs h1
      split at p
      · rename_i j hj
        obtain ⟨-, rfl⟩ := rx
        obtain rfl := ry
        obtain ⟨us, e, rz⟩ := R.lst h1
        exact ⟨_, us, k, j, rfl, rfl, e, by rw [← rz.length]; exact hj, p.wrU R h1 (rz.set rd j)⟩
      · exact p.elim
    · exact p.elim
  · exact p.elim
theorem ss_subL {o i : Expr} {mo mi : ME} {pos' : Pos} (ha : SE G X W a ma) (ho : SE G X W o mo) (hi : SE G X W i mi)
    (hasg : ∀ v, assign (.Subscript o i pos') X.env v = (do
      let ov ← holding [v] (eval o X.env)
      let iv ← holding [v, ov] (eval i X.env)
      standAt pos'
      holding [v, ov, iv] (setItem ov iv v)
      release [v, ov, iv] []) := by intro _; rfl)
    (h1 : swapsWithSole [.Subscript o i pos'] a pos.line X.env = pure false := by rfl) (hw : swappedStores [.Subscript o i pos'] a X.env = pure none := by rfl)
    (h2 : (assignEach [.Subscript o i pos'] X.env).map (·.2) = [assign (.Subscript o i pos') X.env] := by rfl) : SS G X W (.Assign [.Subscript o i pos'] a pos) (msSub setLM mo mi ma) := ss_sub set_list setLM_ok ha ho hi hasg h1 hw h2
/-- xs[i], a list's item, by values -/
theorem get_list : PGet X (rIxL X.K) := by
  intro pins s σ H o i ov iv Q I ro ri h
  obtain ⟨p, xs, k, z, rfl, rfl, hq, he, q⟩ := h
  cases ro
  obtain ⟨t, rfl⟩ := ri
  obtain ⟨its, r, pl, hz⟩ := I.list hq
  obtain ⟨j, h1, h2, h3, h4, h5⟩ := atI_get he
  obtain ⟨w, ew, rw'⟩ := r.get h2
  have hl := r.length
  have hn := line63
  have fin : EP X pins σ Q w s := ⟨z, H, I, rw', q⟩
  by_cases h0 : 0 ≤ k
  · have hj : k.toNat = j := by
      rw [seqIndex_of h0 h5] at h1
      exact Option.some.inj h1
    exact wpAny_getItem_list pl.isList h0 (by omega) (by rw [hj]; simpa using ew) fin
  · have hj : (k + (its.toArray.size : Int)).toNat = j := by
      rw [seqIndex_neg (by omega) h4] at h1
      rw [List.size_toArray, ← hl]
      exact Option.some.inj h1
    exact wpAny_getItem_list_neg pl.isList (by omega) (by rw [List.size_toArray] <;> omega) (by omega) (by rw [hj]; simpa using ew) fin
def ixLM : Op2 := fun x y S => match x, y with
  | .loc n, .int i => match S[n]? with
    | some (.lst xs) => match atI xs i with
      | some d => .ok d S
      | none => .bad
    | _ => .bad
  | _, _ => .bad
theorem ixLM_ok : OpM G (rIxL G.K) ixLM := by
  intro w x y S v u Q E R rx ry p
  unfold ixLM at p
  split at p
  · split at p
    · rename_i n i _ xs h1
      split at p
      · rename_i d hd
        obtain ⟨-, rfl⟩ := rx
        obtain rfl := ry
        obtain ⟨vs, ha, qa⟩ := R.lst h1
        obtain ⟨z, h2, h3⟩ := atI_rep qa hd
        exact ⟨_, vs, i, z, rfl, rfl, SqL.of ha, h2, p.val R h3⟩
      · exact p.elim
    · exact p.elim
  · exact p.elim
def msAugL (f : Op2) (o i a : ME) : MS := fun ρ S => (o ρ S).toS ρ fun x S1 => (i ρ S1).toS ρ fun y S2 => (ixLM x y S2).toS ρ fun d S3 => (a ρ S3).toS ρ fun z S4 => (f d z S4).toS ρ fun u S5 => (setLM x y u S5).toS ρ fun _ S6 => .next ρ S6
theorem ss_augL {o i : Expr} {mo mi : ME} {tpos : Pos} {op : Operator} {r : R2} {f : Op2} (hK : X.K = G.K) (ho : SE G X W o mo) (hi : SE G X W i mi) (ha : SE G X W a ma) (hop : OpR X (inplaceOp op) r) (hf : OpM G r f)
    (hst : ∀ ov iv new, augStore i ov iv new = (do holding [new, ov, iv] (setItem ov iv new); release [new, ov, iv] []; pure .next) := by intros; rfl) : SS G X W (.AugAssign (.Subscript o i tpos) op a pos) (msAugL f mo mi ma) := by
  have hg : PGet X (rIxL G.K) := by rw [← hK]; exact get_list
  refine PS.imp (ps_augS (tip := r) ho hi hg ha (fun pins s σ H x y v u Q I rx ry q => hop pins s σ H x y v u Q I rx ry q) set_list hst) fun D σ H h => ?_
  obtain ⟨w, ρ, S, rfl, rE, rS, p⟩ := h
  refine ⟨w, ρ, S, rfl, rE, rS, p.seqE rE fun w1 x ov S1 _ x1 r1 q1 p1 => ?_⟩
  have rE1 := rE.mono x1
  refine ⟨w1, ρ, S1, rfl, rE1, r1, p1.seqE rE1 fun w2 y iv S2 _ x2 r2 q2 p2 => ?_⟩
  have rE2 := rE1.mono x2
  refine ixLM_ok w2 x y S2 ov iv _ _ r2 (q1.mono x2) q2 (p2.seqE rE2 fun w3 d v S3 _ x3 r3 q3 p3 => ?_)
  have rE3 := rE2.mono x3
  refine ⟨w3, ρ, S3, rfl, rE3, r3, p3.seqE rE3 fun w4 z u S4 _ x4 r4 q4 p4 => ?_⟩
  have rE4 := rE3.mono x4
  refine hf w4 d z S4 v u _ _ r4 (q3.mono x4) q4 (p4.seqE rE4 fun w5 n nv S5 _ x5 r5 q5 p5 => ?_)
  have rE5 := rE4.mono x5
  refine setLM_ok w5 x y n S5 ov iv nv _ _ r5 ((((q1.mono x2).mono x3).mono x4).mono x5) (((q2.mono x3).mono x4).mono x5) q5 (p5.seqE rE5 fun w6 _ _ S6 _ x6 r6 _ p6 => ?_)
  exact p6.nxt (rE5.mono x6) r6

/-! ### while -/
def whileN (c : MT) (b : MS) : Nat → MS
  | 0 => fun _ _ => .bad
  | n + 1 => fun ρ S => (c ρ S).toS ρ fun k S1 => match k with
    | true => match b ρ S1 with
      | .next ρ2 S2 => whileN c b n ρ2 S2
      | .cont ρ2 S2 => whileN c b n ρ2 S2
      | .brk ρ2 S2 => .next ρ2 S2
      | .ret d S2 => .ret d S2
      | .exc x ρ2 S2 => .exc x ρ2 S2
      | .bad => .bad
    | false => .next ρ S1
def FUEL : Nat := 2 ^ 70
def msWhile (c : MT) (b : MS) : MS := whileN c b FUEL
theorem ss_while {tc : MT} {body : List Stmt} (hp : PassesOwn (model X.prog X.w) X.A X.env X.xe) (hc : ST G X W c tc) (hb : SSs G X W body m) : SS G X W (.While c body [] pos) (msWhile tc m) := PS.imp (ps_while hp hc hb) fun D σ H h => by
  refine ⟨fun n σ H => tSm G W (whileN tc m n) D σ H, ⟨FUEL, h⟩, fun n σ H hn => ?_⟩
  obtain ⟨w, ρ, S, rfl, rE, rS, p⟩ := hn
  cases n with
  | zero => exact p.elim
  | succ n =>
    refine ⟨w, ρ, S, rfl, rE, rS, PostS.seqE p rE fun w1 k k' S1 _ x1 r1 q1 p1 => ?_⟩
    obtain rfl := q1
    have rE1 := rE.mono x1
    cases k with
    | false => exact iteF (p1.nxt rE1 r1)
    | true =>
      refine iteT ⟨fun σ' H' => tSm G W (whileN tc m n) D σ' H', fun σ' H' h => ⟨n, Nat.lt_succ_self n, h⟩, w1, ρ, S1, rfl, rE1, r1, ?_⟩
      dsimp only at p1
      cases hm : m ρ S1 with
      | next ρ2 S2 => rw [hm] at p1; exact fun w' σ' x r e => ⟨w', ρ2, S2, rfl, e, r, PostS.ext x p1⟩
      | cont ρ2 S2 => rw [hm] at p1; exact fun w' σ' x r e => ⟨w', ρ2, S2, rfl, e, r, PostS.ext x p1⟩
      | brk ρ2 S2 => rw [hm] at p1; exact p1
      | ret d S2 => rw [hm] at p1; exact p1
      | exc x ρ2 S2 => rw [hm] at p1; exact p1
      | bad => rw [hm] at p1; exact p1

/-! ### what is walked: items that stand still; the list at a place -/
abbrev Src := Option Nat × List D
abbrev MI := Env' → Store → Out Src
def okSrc (s : Src) (S : Store) : Bool := match s.1 with
  | none => true
  | some n => decide (S[n]? = some (.lst s.2))
theorem ExtR.trans {w w1 w2 : Wd} (a : ExtR w w1) (b : ExtR w1 w2) : ExtR w w2 := ⟨Nat.le_trans a.le b.le, fun n h => (b.at_ n (Nat.lt_of_lt_of_le h a.le)).trans (a.at_ n h), fun c xs e => b.tup c xs (a.tup c xs e), fun c o u e => b.frz c o u (a.frz c o u e)⟩
def RI (G : Gb) (w : Wd) (s : Src) (J : It) : Prop := ∀ w' S', ExtR w w' → RepS G w' S' → okSrc s S' = true → ∀ i, match s.2[i]? with
  | some d => J.go i w'.H ∧ ∀ x H', J.yld i w'.H x H' → ∃ w'', w''.H = H' ∧ Ext w' w'' ∧ RepS G w'' S' ∧ Rep G w'' d x
  | none => J.stop i w'.H
def tIm (G : Gb) (W : WX) (m : MI) : TI := fun σ H R => ∃ w ρ S, w.H = H ∧ RepE G w ρ σ ∧ RepS G w S ∧ PostG G w (RI G) (m ρ S) R (fun c d H' => W c d σ H')
abbrev SI (G : Gb) (X : Cx) (W : WX) (tg iter : Expr) (m : MI) : Prop := PI X tg iter (tIm G W m)
theorem PI.imp {X : Cx} {tg e : Expr} {t t' : TI} (h : PI X tg e t) (i : ∀ σ H Q, t' σ H Q → t σ H Q) : PI X tg e t' := ⟨fun pins s σ H Q I q => h.run pins s σ H Q I (i σ H Q q)⟩
variable {tg iter : Expr} {mi : MI}
def miTup (a : ME) : MI := fun ρ S => (a ρ S).bind fun x S1 => match x with
  | .tup xs => .ok (none, xs) S1
  | _ => .bad
theorem si_tup (hK : X.K = G.K) (ha : SE G X W a ma) : SI G X W tg a (miTup ma) := PI.imp (pi_tup ha) fun σ H R h => by
  rw [hK]
  obtain ⟨w, ρ, S, rfl, rE, rS, p⟩ := h
  refine ⟨w, ρ, S, rfl, rE, rS, PostG.seq p fun w1 x v S1 _ x1 r1 q1 p1 => ?_⟩
  cases x with
  | tup xs =>
    obtain ⟨a, vs, rfl, e, rs⟩ := q1
    refine ⟨a, rfl, ⟨vs, SqT.of e⟩, p1 w1 (Itt G.K a) (Ext.refl _) r1 fun w' S' x' r' _ i => ?_⟩
    have e' := x'.tup a vs e
    have rs' := rs.monoR x'
    cases hd : xs[i]? with
    | some d =>
      obtain ⟨v, hv, rv⟩ := rs'.get hd
      refine ⟨⟨vs, v, SqT.of e', hv⟩, fun z H' y => ?_⟩
      obtain ⟨rfl, hz⟩ := y
      have ez := hz vs (SqT.of e')
      rw [hv] at ez
      cases ez
      exact ⟨w', rfl, Ext.refl _, r', rv⟩
    | none => exact ⟨vs, SqT.of e', by rw [← rs'.length]; exact List.getElem?_eq_none_iff.mp hd⟩
  | _ => exact p1.elim
def miLst (a : ME) : MI := fun ρ S => (a ρ S).bind fun x S1 => match x with
  | .loc n => match S1[n]? with
    | some (.lst xs) => .ok (some n, xs) S1
    | _ => .bad
  | _ => .bad
end
/-- a list of K may be another list only if it is the same: two readings of a tracked list -/
theorem sqL_one {K : PySem.W.Frag} {H : Hp} {a : Addr} {xs : List V} (h : H a = some (.lst xs)) (hk : K.lookup a = none) : ∀ ys, SqL K H a ys → ys = xs := by
  intro ys hy
  rcases hy with (hy | ⟨o, hy⟩) | ⟨o, its, n, q, _⟩
  · rw [h] at hy; cases hy; rfl
  · rw [h] at hy; cases hy
  · rw [hk] at q; cases q
end Mx
set_option Elab.async false
set_option linter.all false
set_option maxRecDepth 100000
set_option maxHeartbeats 1000000
/-! The layer M, part E: what is walked, for, comprehensions, calls of defs, raise, try. -/
namespace Mx
open PySem PySem.Spec PyProof.Rows L2
section
variable {G : Gb} {X : Cx} {W : WX} {a b c e : Expr} {es : List Expr} {ma mb mc : ME} {pos : Pos} {tg iter : Expr} {mi : MI} {m m' : MS}
theorem RI_list {w : Wd} {S : Store} (R : RepS G w S) {n : Nat} {xs : List D} (h1 : S[n]? = some (.lst xs)) : RI G w (some n, xs) (Itl G.K (w.at_ n)) := by
  intro w' S' x' r' ok i
  have h2 : S'[n]? = some (.lst xs) := by simpa [okSrc] using ok
  obtain ⟨us, e, rs⟩ := r'.lst h2
  rw [x'.at_ n (R.lt h1)] at e
  dsimp only
  cases hd : xs[i]? with
  | some d =>
    obtain ⟨v, hv, rv⟩ := rs.get hd
    refine ⟨⟨us, v, SqL.of e, hv⟩, fun z H' y => ?_⟩
    obtain ⟨rfl, hz⟩ := y
    have ez := hz us (SqL.of e)
    rw [hv] at ez
    cases ez
    exact ⟨w', rfl, Ext.refl _, r', rv⟩
  | none => exact ⟨us, SqL.of e, by rw [← rs.length]; exact List.getElem?_eq_none_iff.mp hd⟩
theorem si_lst (hK : X.K = G.K) (ha : SE G X W a ma) : SI G X W tg a (miLst ma) := PI.imp (pi_list ha) fun σ H R h => by
  rw [hK]
  obtain ⟨w, ρ, S, rfl, rE, rS, p⟩ := h
  refine ⟨w, ρ, S, rfl, rE, rS, PostG.seq p fun w1 x v S1 _ x1 r1 q1 p1 => ?_⟩
  cases x with
  | loc n =>
    dsimp only at p1
    split at p1
    · rename_i xs h1
      obtain ⟨-, rfl⟩ := q1
      obtain ⟨us, e, rs⟩ := r1.lst h1
      exact ⟨_, rfl, ⟨us, SqL.of e⟩, p1 w1 _ (Ext.refl _) r1 (RI_list r1 h1)⟩
    · exact p1.elim
  | _ => exact p1.elim
/-- a list or a tuple -/
def miSeq (a : ME) : MI := fun ρ S => (a ρ S).bind fun x S1 => match x with
  | .tup xs => .ok (none, xs) S1
  | .loc n => match S1[n]? with
    | some (.lst xs) => .ok (some n, xs) S1
    | _ => .bad
  | _ => .bad
theorem si_seq (hK : X.K = G.K) (ha : SE G X W a ma) : SI G X W tg a (miSeq ma) := by
  have h1 := si_tup (tg := tg) hK ha
  have h2 := si_lst (tg := tg) hK ha
  refine ⟨fun pins s σ H R I h => ?_⟩
  obtain ⟨w, ρ, S, rfl, rE, rS, p⟩ := h
  unfold miSeq at p
  cases hm : ma ρ S with
  | ok x S1 =>
    cases x with
    | tup xs =>
      refine h1.run pins s σ w.H R I ⟨w, ρ, S, rfl, rE, rS, ?_⟩
      unfold miTup
      rw [hm] at p ⊢
      exact p
    | loc n =>
      refine h2.run pins s σ w.H R I ⟨w, ρ, S, rfl, rE, rS, ?_⟩
      unfold miLst
      rw [hm] at p ⊢
      exact p
    | _ => rw [hm] at p; exact p.elim
  | exc x S1 =>
    refine h1.run pins s σ w.H R I ⟨w, ρ, S, rfl, rE, rS, ?_⟩
    unfold miTup
    rw [hm] at p ⊢
    exact p
  | bad => rw [hm] at p; exact p.elim
def rangeD (lo : Int) : Nat → List D
  | 0 => []
  | n + 1 => .int lo :: rangeD (lo + 1) n
theorem rangeD_get : ∀ (n : Nat) (lo : Int) (i : Nat), (rangeD lo n)[i]? = if i < n then some (.int (lo + i)) else none
  | 0, lo, i => by simp [rangeD]
  | n + 1, lo, 0 => by simp [rangeD]
  | n + 1, lo, i + 1 => by
    simp only [rangeD, List.getElem?_cons_succ, rangeD_get n (lo + 1) i, Nat.add_lt_add_iff_right]
    have : lo + 1 + (i : Int) = lo + ((i + 1 : Nat) : Int) := by omega
    rw [this]
theorem rangeD_length : ∀ (n : Nat) (lo : Int), (rangeD lo n).length = n
  | 0, lo => rfl
  | n + 1, lo => by simp [rangeD, rangeD_length n]
theorem RI_range {w : Wd} (lo : Int) (n : Nat) : RI G w (none, rangeD lo n) (Itr lo n) := by
  intro w' S' x' r' ok i
  dsimp only
  rw [rangeD_get]
  by_cases h : i < n
  · rw [if_pos h]
    refine ⟨h, fun z H' y => ?_⟩
    obtain ⟨rfl, rfl⟩ := y
    exact ⟨w', rfl, Ext.refl _, r', rfl⟩
  · rw [if_neg h]
    exact Nat.le_of_not_lt h
def inR (i : Int) : Bool := decide (-(2 ^ 62) ≤ i ∧ i < 2 ^ 62)
def miRange1 (r : MA) : MI := fun ρ S => (r ρ S).bind fun xs S1 => match xs with
  | [.int j] => if inR j then .ok (none, rangeD 0 j.toNat) S1 else .bad
  | _ => .bad
def miRange2 (r : MA) : MI := fun ρ S => (r ρ S).bind fun xs S1 => match xs with
  | [.int i, .int j] => if inR i && inR j then .ok (none, rangeD i (j - i).toNat) S1 else .bad
  | _ => .bad
theorem si_range1 {mr : MA} {p : Pos} (hg : Gl X "range") (hm : X.mg "range" = none) (ha : SA G X W [a] mr) (hs : starEach [a] X.env = [(false, eval a X.env)] := by rfl) : SI G X W tg (.Call (.Name "range" p) [a] [] pos) (miRange1 mr) :=
  PI.imp (pi_range1 hg hm ha hs) fun σ H R h => by
    obtain ⟨w, ρ, S, rfl, rE, rS, q⟩ := h
    refine ⟨w, ρ, S, rfl, rE, rS, PostG.seq q fun w1 xs vs S1 he x1 r1 q1 p1 => ?_⟩
    clear he
    split at p1
    · rename_i j
      split at p1
      · rename_i hj
        obtain ⟨v, rfl, rx⟩ := reps1 q1
        obtain rfl := rx
        have hj' : -(2 ^ 62) ≤ j ∧ j < 2 ^ 62 := of_decide_eq_true hj
        exact ⟨j, rfl, hj'.1, hj'.2, p1 w1 _ (Ext.refl _) r1 (RI_range 0 _)⟩
      · exact p1.elim
    · exact p1.elim
theorem si_range2 {mr : MA} {p : Pos} (hg : Gl X "range") (hm : X.mg "range" = none) (ha : SA G X W [a, b] mr) (hs : starEach [a, b] X.env = [(false, eval a X.env), (false, eval b X.env)] := by rfl) (hs2 : starEach [b] X.env = [(false, eval b X.env)] := by rfl) :
    SI G X W tg (.Call (.Name "range" p) [a, b] [] pos) (miRange2 mr) :=
  PI.imp (pi_range2 hg hm ha hs hs2) fun σ H R h => by
    obtain ⟨w, ρ, S, rfl, rE, rS, q⟩ := h
    refine ⟨w, ρ, S, rfl, rE, rS, PostG.seq q fun w1 xs vs S1 he x1 r1 q1 p1 => ?_⟩
    clear he
    split at p1
    · rename_i i j
      split at p1
      · rename_i hj
        obtain ⟨v, u, rfl, rx, ry⟩ := reps2 q1
        obtain rfl := rx
        obtain rfl := ry
        rw [Bool.and_eq_true] at hj
        have h1 : -(2 ^ 62) ≤ i ∧ i < 2 ^ 62 := of_decide_eq_true hj.1
        have h2 : -(2 ^ 62) ≤ j ∧ j < 2 ^ 62 := of_decide_eq_true hj.2
        exact ⟨i, j, rfl, ⟨h1.1, h1.2, h2.1, h2.2⟩, p1 w1 _ (Ext.refl _) r1 (RI_range i _)⟩
      · exact p1.elim
    · exact p1.elim

/-! ### for -/
def forL (s : Src) (t : Tg) (b : MS) : List D → MS
  | [] => fun ρ S => if okSrc s S then .next ρ S else .bad
  | x :: xs => fun ρ S => if okSrc s S then match bindT t x ρ with
    | some ρ1 => match b ρ1 S with
      | .next ρ2 S2 => forL s t b xs ρ2 S2
      | .cont ρ2 S2 => forL s t b xs ρ2 S2
      | .brk ρ2 S2 => .next ρ2 S2
      | .ret d S2 => .ret d S2
      | .exc x ρ2 S2 => .exc x ρ2 S2
      | .bad => .bad
    | none => .bad
    else .bad
def msFor (mi : MI) (t : Tg) (b : MS) : MS := fun ρ S => (mi ρ S).toS ρ fun s S1 => forL s t b s.2 ρ S1
theorem drop_at {α : Type} {l : List α} {i : Nat} {x : α} {xs : List α} (h : l.drop i = x :: xs) : l[i]? = some x ∧ l.drop (i + 1) = xs := by
  constructor
  · have := List.getElem?_drop (xs := l) (i := i) (j := 0)
    rw [h] at this
    simpa using this.symm
  · rw [← List.drop_drop, h]
    rfl
theorem ss_for {t : Tg} {body : List Stmt} (hK : X.K = G.K) (hp : PassesOwn (model X.prog X.w) X.A X.env X.xe) (hc : X.calm = true) (hi : SI G X W tg iter mi) (hg : PG X tg (gT X.K t)) (hb : SSs G X W body m)
    (hs : ∀ x, foldedSetIterable iter X.env x = pure x := by intro _; rfl) : SS G X W (.For tg iter body [] pos) (msFor mi t m) := PS.imp (ps_for hp hc hi hg hb hs) fun D σ H h => by
  rw [hK]
  obtain ⟨w, ρ, S, rfl, rE, rS, p⟩ := h
  refine ⟨w, ρ, S, rfl, rE, rS, p.seqE rE fun w1 s J S1 _ x1 r1 q1 p1 => ?_⟩
  refine ⟨fun i n σ H => n = s.2.length - i ∧ ∃ w' ρ' S', w'.H = H ∧ Ext w1 w' ∧ RepE G w' ρ' σ ∧ RepS G w' S' ∧ PostS G W w' (forL s t m (s.2.drop i) ρ' S') D,
    ⟨s.2.length, rfl, w1, ρ, S1, rfl, Ext.refl _, rE.mono x1, r1, p1⟩, fun i n σ2 H2 h2 => ?_⟩
  obtain ⟨hn, w', ρ', S', rfl, x', rE', r', p'⟩ := h2
  cases hd : s.2.drop i with
  | nil =>
    rw [hd] at p'
    unfold forL at p'
    split at p'
    · rename_i hok
      have z := q1 w' S' x'.r r' hok i
      have hl : s.2.length ≤ i := List.drop_eq_nil_iff.mp hd
      rw [List.getElem?_eq_none hl] at z
      exact .inl ⟨z, p'.nxt rE' r'⟩
    · exact p'.elim
  | cons d ds =>
    rw [hd] at p'
    unfold forL at p'
    split at p'
    · rename_i hok
      obtain ⟨h3, h4⟩ := drop_at hd
      have z := q1 w' S' x'.r r' hok i
      rw [h3] at z
      have hil : i < s.2.length := (List.getElem?_eq_some_iff.mp h3).1
      refine .inr ⟨z.1, fun σ3 H3 => n - 1 = s.2.length - (i + 1) ∧ ∃ w' ρ' S', w'.H = H3 ∧ Ext w1 w' ∧ RepE G w' ρ' σ3 ∧ RepS G w' S' ∧ PostS G W w' (forL s t m ds ρ' S') D, fun σ3 H3 h5 => ?_, fun v H3 y => ?_⟩
      · obtain ⟨e1, w4, ρ4, S4, e2, x4, rE4, r4, p4⟩ := h5
        exact ⟨n - 1, by omega, e1, w4, ρ4, S4, e2, x4, rE4, r4, by rw [h4]; exact p4⟩
      · obtain ⟨w3, rfl, x3, r3, q3⟩ := z.2 v H3 y
        cases hb' : bindT t d ρ' with
        | none => rw [hb'] at p'; exact p'.elim
        | some ρ1 =>
          rw [hb'] at p'
          dsimp only at p'
          refine gT_of hb' q3 (rE'.mono x3) fun σ4 rE4 => ⟨w3, ρ1, S', rfl, rE4, r3, ?_⟩
          have p3 := PostS.ext x3 p'
          cases hm : m ρ1 S' with
          | next ρ2 S2 => rw [hm] at p3; exact fun w5 σ5 x5 r5 e5 => ⟨by omega, w5, ρ2, S2, rfl, (x'.trans x3).trans x5, e5, r5, PostS.ext x5 p3⟩
          | cont ρ2 S2 => rw [hm] at p3; exact fun w5 σ5 x5 r5 e5 => ⟨by omega, w5, ρ2, S2, rfl, (x'.trans x3).trans x5, e5, r5, PostS.ext x5 p3⟩
          | brk ρ2 S2 => rw [hm] at p3; exact p3
          | ret d S2 => rw [hm] at p3; exact p3
          | exc x ρ2 S2 => rw [hm] at p3; exact p3
          | bad => rw [hm] at p3; exact p3
    · exact p'.elim

/-! ### [e for t in iter if c] -/
def wipeM (ρ : Env') : List Nat → Env'
  | [] => ρ
  | v :: vs => (wipeM ρ vs).set v none
theorem wipe_rep {w : Wd} {ρ : Env'} {σ : L2.St} (h : RepE G w ρ σ) : ∀ vs, RepE G w (wipeM ρ vs) (wipe σ vs)
  | [] => h
  | v :: vs => by
    obtain ⟨h1, h2⟩ := wipe_rep h vs
    refine ⟨by simp [wipeM, wipe, h1], fun i d e => ?_⟩
    unfold wipeM at e
    unfold wipe
    by_cases hi : v = i
    · subst hi
      by_cases hl : v < (wipeM ρ vs).length
      · rw [List.getElem?_set_self hl] at e; cases e
      · rw [List.getElem?_eq_none (by simpa using hl)] at e; cases e
    · rw [List.getElem?_set_ne hi] at e ⊢
      exact h2 i d e
theorem wipe_set {σ : L2.St} {i : Nat} {o : Option V} : ∀ {vs : List Nat}, i ∈ vs → wipe (σ.set i o) vs = wipe σ vs
  | v :: vs, h => by
    unfold wipe
    by_cases hv : i ∈ vs
    · rw [wipe_set hv]
    · have e : i = v := by
        rcases List.mem_cons.mp h with e | z
        · exact e
        · exact absurd z hv
      subst e
      have : ∀ us : List Nat, i ∉ us → wipe (σ.set i o) us = (wipe σ us).set i o := by
        intro us
        induction us with
        | nil => intro _; rfl
        | cons u us ih =>
          intro hu
          unfold wipe
          rw [ih (fun z => hu (List.mem_cons_of_mem _ z)), List.set_comm]
          exact fun z => hu (by rw [z]; exact List.mem_cons_self)
      rw [this vs hv, List.set_set]
theorem wipe_setAll : ∀ {is : List Nat} {xs : List V} {σ : L2.St} {vs : List Nat}, (∀ i ∈ is, i ∈ vs) → wipe (setAll σ is xs) vs = wipe σ vs
  | [], _, _, _, _ => rfl
  | i :: is, [], _, _, _ => rfl
  | i :: is, x :: xs, σ, vs, h => by
    show wipe (setAll (σ.set i (some x)) is xs) vs = _
    rw [wipe_setAll (fun j hj => h j (List.mem_cons_of_mem _ hj)), wipe_set (h i List.mem_cons_self)]
theorem wipe_wipe {σ : L2.St} : ∀ {vs : List Nat}, wipe (wipe σ vs) vs = wipe σ vs := by
  intro vs
  have key : ∀ us : List Nat, (∀ i ∈ us, i ∈ vs) → wipe (wipe σ us) vs = wipe σ vs := by
    intro us
    induction us with
    | nil => intro _; rfl
    | cons u us ih =>
      intro h
      show wipe ((wipe σ us).set u none) vs = _
      rw [wipe_set (h u List.mem_cons_self), ih fun i hi => h i (List.mem_cons_of_mem _ hi)]
  exact key vs fun _ h => h
def Tg.slots : Tg → List Nat
  | .one i => [i]
  | .many is => is
/-- .. with what it leaves of the slots -/
theorem gT_ofW {w : Wd} {t : Tg} {d : D} {v : V} {ρ ρ' : Env'} {σ : L2.St} {vs : List Nat} {Q : L2.St → Hp → Prop} (hb : bindT t d ρ = some ρ') (r : Rep G w d v) (rE : RepE G w ρ σ) (ht : ∀ i ∈ t.slots, i ∈ vs)
    (h : ∀ σ', RepE G w ρ' σ' → wipe σ' vs = wipe σ vs → Q σ' w.H) : gT G.K t v σ w.H Q := by
  cases t with
  | one i => cases hb; exact h _ (rE.set r i) (wipe_set (ht i List.mem_cons_self))
  | many is =>
    unfold bindT at hb
    dsimp only at hb
    split at hb
    · rename_i xs
      split at hb
      · rename_i hl
        cases hb
        obtain ⟨a, vs', rfl, e, rs⟩ := r
        exact ⟨a, vs', rfl, SqT.of e, by rw [← rs.length]; exact hl, h _ (repE_setAll rE rs) (wipe_setAll ht)⟩
      · cases hb
    · cases hb
/-- the tests of a clause -/
def tTests (G : Gb) (W : WX) (m : MT) : TT := tT G W m
def Out.noX {α : Type} (o : Out α) : Out α := match o with
  | .ok a S => .ok a S
  | .exc _ _ => .bad
  | .bad => .bad
def compL (s : Src) (t : Tg) (c : MT) (e : ME) (ρ0 : Env') : List D → Store → Out (List D)
  | [], S => if okSrc s S then .ok [] S else .bad
  | x :: xs, S => if okSrc s S then match bindT t x ρ0 with
    | some ρ1 => (c ρ1 S).noX.bind fun k S1 => match k with
      | true => (e ρ1 S1).noX.bind fun y S2 => (compL s t c e ρ0 xs S2).bind fun ys S3 => .ok (y :: ys) S3
      | false => compL s t c e ρ0 xs S1
    | none => .bad
    else .bad
def mLc (vs : List Nat) (mi : MI) (t : Tg) (c : MT) (e : ME) : ME := fun ρ S => (mi ρ S).bind fun s S1 => if s.2.length ≤ LIM then (compL s t c e (wipeM ρ vs) s.2 S1).bind fun ys S2 => .ok (.loc S2.length) (S2 ++ [.lst ys]) else .bad
abbrev W0 : WX := fun _ _ _ _ => False
abbrev X0 : XH := fun _ _ _ => False
def mYes : MT := fun _ S => .ok true S
/-- the list that is being made stands apart -/
structure Apart' (w0 w : Wd) (D : Addr) (acc : List V) : Prop where
  ext : Ext w0 w
  at_ : w.H D = some (.lst acc)
  far : ∀ n, n < w.N → w.at_ n ≠ D
theorem Apart'.mono {w0 w w' : Wd} {D : Addr} {acc : List V} (h : Apart' w0 w D acc) (x : Ext w w') : Apart' w0 w' D acc where
  ext := h.ext.trans x
  at_ := x.keep D _ h.at_ h.far fun ps z => nomatch z
  far := fun n hn => by
    by_cases h1 : n < w.N
    · rw [x.at_ n h1]; exact h.far n h1
    · intro z
      obtain ⟨ps, q⟩ := x.fresh n (Nat.le_of_not_lt h1) hn _ (by rw [z]; exact h.at_)
      cases q
theorem Apart'.write {w0 w : Wd} {D : Addr} {acc acc' : List V} (h0 : w0.H D = none) (h : Apart' w0 w D acc) : Apart' w0 (w.up D (.lst acc')) D acc' where
  ext := { le := h.ext.le, at_ := h.ext.at_, keep := fun a u e hn ht => (upd_ne (ne_of_none e h0)).trans (h.ext.keep a u e hn ht), tup := fun a xs e => (upd_ne (ne_of_none e h0)).trans (h.ext.tup a xs e),
           frz := fun a o u e => (upd_ne (ne_of_none e h0)).trans (h.ext.frz a o u e), fresh := h.ext.fresh,
           dom := fun a u e ht => let ⟨u', e', h'⟩ := h.ext.dom a u e ht; ⟨u', (upd_ne (ne_of_none e h0)).trans e', h'⟩ }
  at_ := upd_same
  far := h.far
/-- D's list is written: what is told of the rest is told on -/
theorem up_ne {w : Wd} {D : Addr} {acc acc' : List V} (h : w.H D = some (.lst acc)) {b : Addr} {u : HO} (e : w.H b = some u) (hu : ∀ xs, u ≠ .lst xs) : (w.up D (.lst acc')).H b = some u := (upd_ne (fun z => by rw [z, h] at e; exact hu acc (Option.some.inj e).symm)).trans e
mutual
theorem Rep.up {w : Wd} {D : Addr} {acc acc' : List V} (h : w.H D = some (.lst acc)) : ∀ {d : Mx.D} {v : V}, Rep G w d v → Rep G (w.up D (.lst acc')) d v
  | .non, _, r => by simpa only [Rep] using r
  | .bl _, _, r => by simpa only [Rep] using r
  | .int _, _, r => by simpa only [Rep] using r
  | .str _, _, r => by simpa only [Rep] using r
  | .tup xs, v, r => by
    simp only [Rep] at r ⊢
    obtain ⟨a, vs, e, e2, r⟩ := r
    exact ⟨a, vs, e, up_ne h e2 (fun xs z => nomatch z), Reps.up h r⟩
  | .loc n, v, r => by simpa only [Rep, Wd.up] using r
  | .scr ns, v, r => by
    simp only [Rep] at r ⊢
    obtain ⟨a, e, r⟩ := r
    refine ⟨a, e, ?_⟩
    rcases r with ⟨o, r⟩ | r
    · exact .inl ⟨o, up_ne h r (fun xs z => nomatch z)⟩
    · exact .inr r
theorem Reps.up {w : Wd} {D : Addr} {acc acc' : List V} (h : w.H D = some (.lst acc)) : ∀ {ds : List Mx.D} {vs : List V}, Reps G w ds vs → Reps G (w.up D (.lst acc')) ds vs
  | [], _, r => by simpa only [Reps] using r
  | d :: ds, vs, r => by
    simp only [Reps] at r ⊢
    obtain ⟨v, s, e, h1, h2⟩ := r
    exact ⟨v, s, e, Rep.up h h1, Reps.up h h2⟩
end
theorem RepKV.up {κ : Type} {w : Wd} {D : Addr} {acc acc' : List V} (h : w.H D = some (.lst acc)) : ∀ {ds : List (κ × Mx.D)} {vs : List (κ × V)}, RepKV G w ds vs → RepKV G (w.up D (.lst acc')) ds vs
  | [], _, r => by simpa only [RepKV] using r
  | d :: ds, vs, r => by
    simp only [RepKV] at r ⊢
    obtain ⟨v, s, e, h0, h1, h2⟩ := r
    exact ⟨v, s, e, h0, h1.up h, RepKV.up h h2⟩
theorem RepO.up {w : Wd} {D : Addr} {acc acc' : List V} (h : w.H D = some (.lst acc)) : ∀ {o : SO} {u : HO}, RepO G w o u → RepO G (w.up D (.lst acc')) o u
  | .lst xs, _, ⟨vs, e, r⟩ => ⟨vs, e, r.up h⟩
  | .dK kvs, _, ⟨vs, e, r⟩ => ⟨vs, e, r.up h⟩
  | .dT kvs, _, ⟨vs, e, r⟩ => ⟨vs, e, r.up h⟩
  | .ins c fs, _, ⟨C, dx, vs, e, z, r⟩ => ⟨C, dx, vs, e, z, r.up h⟩
theorem RepE.up {w : Wd} {D : Addr} {acc acc' : List V} (h : w.H D = some (.lst acc)) {ρ : Env'} {σ : L2.St} (r : RepE G w ρ σ) : RepE G (w.up D (.lst acc')) ρ σ := ⟨r.1, fun i d e => let ⟨v, h1, h2⟩ := r.2 i d e; ⟨v, h1, h2.up h⟩⟩
theorem RepS.up {w : Wd} {D : Addr} {acc acc' : List V} (h : w.H D = some (.lst acc)) (far : ∀ n, n < w.N → w.at_ n ≠ D) {S : Store} (R : RepS G w S) : RepS G (w.up D (.lst acc')) S where
  len := R.len
  at_ := fun n o e => by
    obtain ⟨u, e1, r⟩ := R.at_ n o e
    exact ⟨u, (upd_ne (far n (R.lt e))).trans e1, r.up h⟩
  inj := R.inj
  tabs := fun p hp => by
    obtain ⟨ps, h1, h2, h3⟩ := R.tabs p hp
    refine ⟨ps, up_ne h h1 (fun xs z => nomatch z), h2, fun pos cv hc => ?_⟩
    obtain ⟨c, e2, e3⟩ := h3 pos cv hc
    exact ⟨c, e2, up_ne h e3 (fun xs z => nomatch z)⟩
/-- D is laid into the store -/
theorem Apart'.adopt {w0 w : Wd} {D : Addr} {acc : List V} {S : Store} {ys : List Mx.D} (h0 : w0.H D = none) (h : Apart' w0 w D acc) (R : RepS G w S) (r : Reps G w ys acc) :
    ∃ w', w'.H = w.H ∧ Ext w0 w' ∧ RepS G w' (S ++ [.lst ys]) ∧ Rep G w' (.loc S.length) (.ref D) := by
  have same : ∀ n, n < w.N → (if n = w.N then D else w.at_ n) = w.at_ n := fun n hn => if_neg (Nat.ne_of_lt hn)
  have XR : ExtR w ⟨w.H, w.N + 1, fun n => if n = w.N then D else w.at_ n⟩ := ⟨Nat.le_succ _, same, fun a xs e => e, fun a o u e => e⟩
  refine ⟨⟨w.H, w.N + 1, fun n => if n = w.N then D else w.at_ n⟩, rfl, ?_, ?_, ?_⟩
  · exact { le := Nat.le_succ_of_le h.ext.le, at_ := fun n hn => (same n (Nat.lt_of_lt_of_le hn h.ext.le)).trans (h.ext.at_ n hn), keep := h.ext.keep, tup := h.ext.tup, frz := h.ext.frz, dom := h.ext.dom,
            fresh := fun n h1 h2 u q => by
              have q' : w0.H (if n = w.N then D else w.at_ n) = some u := q
              by_cases hn : n = w.N
              · rw [if_pos hn, h0] at q'; cases q'
              · rw [if_neg hn] at q'
                have h2' : n < w.N + 1 := h2
                exact h.ext.fresh n h1 (by omega) u q' }
  · refine ⟨by simp [R.len], fun n o e => ?_, fun i j hi hj e => ?_, R.tabs⟩
    · by_cases hn : n < S.length
      · rw [List.getElem?_append_left hn] at e
        obtain ⟨u, e1, r1⟩ := R.at_ n o e
        refine ⟨u, ?_, r1.monoR XR⟩
        show w.H (if n = w.N then D else w.at_ n) = _
        rw [same n (R.lt e)]
        exact e1
      · rw [List.getElem?_append_right (Nat.le_of_not_lt hn)] at e
        have hz : n - S.length = 0 := by
          have := (List.getElem?_eq_some_iff.mp e).1
          simp at this
          omega
        rw [hz] at e
        cases e
        have en : n = w.N := by rw [← R.len]; omega
        refine ⟨.lst acc, ?_, acc, rfl, r.monoR XR⟩
        show w.H (if n = w.N then D else w.at_ n) = _
        rw [if_pos en]
        exact h.at_
    · have hi' : i < w.N + 1 := hi
      have hj' : j < w.N + 1 := hj
      have e' : (if i = w.N then D else w.at_ i) = (if j = w.N then D else w.at_ j) := e
      rcases Nat.lt_or_ge i w.N with a | a <;> rcases Nat.lt_or_ge j w.N with b | b
      · rw [same i a, same j b] at e'
        exact R.inj i j a b e'
      · have ej : j = w.N := by omega
        rw [same i a, if_pos ej] at e'
        exact absurd e' (h.far i a)
      · have ei : i = w.N := by omega
        rw [same j b, if_pos ei] at e'
        exact absurd e'.symm (h.far j b)
      · omega
  · refine ⟨by rw [R.len]; exact Nat.lt_succ_self _, ?_⟩
    show V.ref D = V.ref (if S.length = w.N then D else w.at_ S.length)
    rw [if_pos R.len]
theorem PostG.seqB {α β γ δ : Type} {w0 w : Wd} {R : Wd → α → β → Prop} {R' : Wd → γ → δ → Prop} {o : Out α} {f : α → Store → Out γ} {Q : δ → Hp → Prop} {E : XH} {Q1 : β → Hp → Prop}
    (h : PostG G w0 R' (o.noX.bind f) Q E) (g : ∀ w1 a b S1, Ext w w1 → RepS G w1 S1 → R w1 a b → PostG G w0 R' (f a S1) Q E → Q1 b w1.H) : PostG G w R o Q1 X0 := by
  cases o with
  | ok a S => exact fun w' b x' r q => g w' a b S x' r q h
  | exc e S => exact h.elim
  | bad => exact h
abbrev STs (G : Gb) (X : Cx) (W : WX) (ifs : List Expr) (m : MT) : Prop := PTs X ifs (tT G W m)
theorem PTs.imp {X : Cx} {e : List Expr} {t t' : TT} (h : PTs X e t) (i : ∀ σ H Q, t' σ H Q → t σ H Q) : PTs X e t' := ⟨fun pins s σ H Q I q => h.run pins s σ H Q I (i σ H Q q)⟩
theorem sts_nil : STs G X W [] mYes := PTs.imp pts_nil fun σ H Q h => by
  obtain ⟨w, ρ, S, rfl, rE, rS, p⟩ := h
  exact p w true (Ext.refl _) rS rfl
theorem sts_one {tc : MT} (h : ST G X W c tc) : STs G X W [c] tc := pts_one h
theorem lc_of {t : Tg} {vs : List Nat} {tc : MT} {me : ME} (ht : ∀ i ∈ t.slots, i ∈ vs) {σ : L2.St} {H : Hp} {Q : VK} (h : tE G W (mLc vs mi t tc me) σ H Q) : tLc (tIm G W mi) (gT G.K t) (tT G W0 tc) (tE G W0 me) vs σ H Q := by
  obtain ⟨w, ρ, S, rfl, rE, rS, p⟩ := h
  refine ⟨w, ρ, S, rfl, rE, rS, PostG.seq p fun w1 s J S1 he x1 r1 q1 p1 => ?_⟩
  clear he
  split at p1
  · rename_i hl
    intro D hD
    refine ⟨fun i n H => n = s.2.length - i ∧ ∃ w' S' accD accV, w'.H = H ∧ Apart' w1 w' D accV ∧ RepS G w' S' ∧ Reps G w' accD accV ∧ accD.length ≤ i ∧
        PostG G w1 (Rep G) ((compL s t tc me (wipeM ρ vs) (s.2.drop i) S').bind fun ys S2 => .ok (.loc S2.length) (S2 ++ [.lst (accD ++ ys)])) Q (fun c d H' => W c d σ H'),
      ⟨s.2.length, rfl, w1.up D (.lst []), S1, [], [], rfl, ⟨Ext.grown hD, upd_same, fun n hn z => ?_⟩, r1.grown hD, Reps.nil, Nat.le_refl _, by simpa using p1⟩, fun i n H2 h2 => ?_⟩
    · obtain ⟨o, ho⟩ := r1.there (show n < w1.N from hn)
      obtain ⟨u, e1, _⟩ := r1.at_ n o ho
      rw [show w1.at_ n = D from z, hD] at e1
      cases e1
    · obtain ⟨hn, w', S', accD, accV, rfl, A, r', ra, hacc, p'⟩ := h2
      cases hd : s.2.drop i with
      | nil =>
        rw [hd] at p'
        unfold compL at p'
        by_cases hok : okSrc s S' = true
        · rw [if_pos hok] at p'
          have z := q1 w' S' A.ext.r r' hok i
          have hl : s.2.length ≤ i := List.drop_eq_nil_iff.mp hd
          rw [List.getElem?_eq_none hl] at z
          refine .inl ⟨z, ?_⟩
          obtain ⟨w2, e2, x2, r2, q2⟩ := A.adopt hD r' ra
          have p3 : PostG G w1 (Rep G) (.ok (.loc S'.length) (S' ++ [.lst (accD ++ [])])) Q (fun c d H' => W c d σ H') := p'
          rw [List.append_nil] at p3
          have p2 := p3 w2 (.ref D) x2 r2 q2
          rw [e2] at p2
          exact p2
        · rw [if_neg hok] at p'; exact p'.elim
      | cons d ds =>
        rw [hd] at p'
        unfold compL at p'
        by_cases hok : okSrc s S' = true
        · rw [if_pos hok] at p'
          obtain ⟨h3, h4⟩ := drop_at hd
          have z := q1 w' S' A.ext.r r' hok i
          rw [h3] at z
          have hil : i < s.2.length := (List.getElem?_eq_some_iff.mp h3).1
          refine .inr ⟨z.1, fun H3 => n - 1 = s.2.length - (i + 1) ∧ ∃ w' S' accD accV, w'.H = H3 ∧ Apart' w1 w' D accV ∧ RepS G w' S' ∧ Reps G w' accD accV ∧ accD.length ≤ i + 1 ∧
            PostG G w1 (Rep G) ((compL s t tc me (wipeM ρ vs) ds S').bind fun ys S2 => .ok (.loc S2.length) (S2 ++ [.lst (accD ++ ys)])) Q (fun c d H' => W c d σ H'), fun H3 h5 => ?_, fun v H3 y => ?_⟩
          · obtain ⟨e1, w4, S4, aD, aV, e2, A4, r4, ra4, ha4, p4⟩ := h5
            exact ⟨n - 1, by omega, e1, w4, S4, aD, aV, e2, A4, r4, ra4, ha4, by rw [h4]; exact p4⟩
          · obtain ⟨w3, rfl, x3, r3, q3⟩ := z.2 v H3 y
            have A3 := A.mono x3
            cases hb' : bindT t d (wipeM ρ vs) with
            | none => rw [hb'] at p'; exact p'.elim
            | some ρ1 =>
              rw [hb'] at p'
              dsimp only at p'
              refine gT_ofW hb' q3 (wipe_rep ((rE.mono x1).mono A3.ext) vs) ht fun σ4 rE4 hw => ⟨hw.trans wipe_wipe, w3, ρ1, S', rfl, rE4, r3, ?_⟩
              have p3 : PostG G w1 (Rep G) ((tc ρ1 S').noX.bind fun k S1 => Out.bind (match k with
                | true => (me ρ1 S1).noX.bind fun y S2 => (compL s t tc me (wipeM ρ vs) ds S2).bind fun ys S3 => .ok (y :: ys) S3
                | false => compL s t tc me (wipeM ρ vs) ds S1) fun ys S2 => .ok (.loc S2.length) (S2 ++ [.lst (accD ++ ys)])) Q (fun c d H' => W c d σ H') := by
                cases htc : tc ρ1 S' with
                | ok k S1 => rw [htc] at p'; exact p'
                | exc x S1 => rw [htc] at p'; exact p'.elim
                | bad => rw [htc] at p'; exact p'.elim
              refine PostG.seqB p3 fun w4 k k' S4 x4 r4 q4 p4 => ?_
              obtain rfl := q4
              have A4 := A3.mono x4
              cases k with
              | false => exact iteF ⟨by omega, w4, S4, accD, accV, rfl, A4, r4, (ra.mono x3).mono x4, Nat.le_succ_of_le hacc, p4⟩
              | true =>
                dsimp only at p4
                refine iteT ⟨w4, ρ1, S4, rfl, rE4.mono x4, r4, ?_⟩
                have p5 : PostG G w1 (Rep G) ((me ρ1 S4).noX.bind fun y S2 => (compL s t tc me (wipeM ρ vs) ds S2).bind fun ys S3 => .ok (.loc S3.length) (S3 ++ [.lst ((accD ++ [y]) ++ ys)])) Q (fun c d H' => W c d σ H') := by
                  cases hme : me ρ1 S4 with
                  | ok y S5 =>
                    rw [hme] at p4
                    show PostG G w1 (Rep G) ((compL s t tc me (wipeM ρ vs) ds S5).bind fun ys S3 => .ok (.loc S3.length) (S3 ++ [.lst ((accD ++ [y]) ++ ys)])) Q _
                    have p4' : PostG G w1 (Rep G) (Out.bind ((compL s t tc me (wipeM ρ vs) ds S5).bind fun ys S3 => .ok (y :: ys) S3) fun ys S2 => .ok (.loc S2.length) (S2 ++ [.lst (accD ++ ys)])) Q (fun c d H' => W c d σ H') := p4
                    cases hcl : compL s t tc me (wipeM ρ vs) ds S5 with
                    | ok ys S6 =>
                      rw [hcl] at p4'
                      have p6 : PostG G w1 (Rep G) (.ok (.loc S6.length) (S6 ++ [.lst (accD ++ y :: ys)])) Q (fun c d H' => W c d σ H') := p4'
                      show PostG G w1 (Rep G) (.ok (.loc S6.length) (S6 ++ [.lst ((accD ++ [y]) ++ ys)])) Q _
                      rw [List.append_assoc]
                      exact p6
                    | exc x S6 => rw [hcl] at p4'; exact p4'
                    | bad => rw [hcl] at p4'; exact p4'
                  | exc x S1 => rw [hme] at p4; exact p4.elim
                  | bad => rw [hme] at p4; exact p4.elim
                refine PostG.seqB p5 fun w5 yd yv S5 x5 r5 q5 p6 => ?_
                have A5 := A4.mono x5
                have ra5 := ((ra.mono x3).mono x4).mono x5
                refine ⟨accV, A5.at_, ?_, by omega, w5.up D (.lst (accV ++ [yv])), S5, accD ++ [yd], accV ++ [yv], rfl, A5.write hD, r5.up A5.at_ A5.far, (ra5.append (Reps.cons q5 Reps.nil)).up A5.at_, by rw [List.length_append]; exact Nat.succ_le_succ hacc, p6⟩
                rw [← ra5.length]
                exact LIM_lt (by omega)
        · rw [if_neg hok] at p'; exact p'.elim
  · exact p1.elim
variable {elt : Expr} {ifs : List Expr} {scope : Scope} {own : List (Str × Nat)} {t : Tg} {tc : MT} {me : ME}
theorem se_lc (hK : X.K = G.K) (hc : X.calm = true) (hN : X.N.Nodup) (hi : SI G X W tg iter mi) (ok : BlkOk X.N X.env.scope scope own) (hts : ∀ i ∈ t.slots, i ∈ own.map (·.2))
    (hg : ∀ (s : Shared) (H : Hp) (C : Addr) (cl : List (Str × Addr)) (fp : List Addr), PG (X.blk s H scope (compEnvC scope cl C X.env) fp) tg (gT X.K t))
    (ht : ∀ (s : Shared) (H : Hp) (C : Addr) (cl : List (Str × Addr)) (fp : List Addr), STs G (X.blk s H scope (compEnvC scope cl C X.env) fp) W0 ifs tc)
    (he : ∀ (s : Shared) (H : Hp) (C : Addr) (cl : List (Str × Addr)) (fp : List Addr), SE G (X.blk s H scope (compEnvC scope cl C X.env) fp) W0 elt me)
    (hs : ∀ x, foldedSetIterable iter X.env x = pure x := by intro _; rfl) : SE G X W (.ListComp elt [⟨tg, iter, ifs, 0⟩] scope pos) (mLc (own.map (·.2)) mi t tc me) :=
  PE.imp (pe_lc hc hN hi ok (by rw [← hK] at *; exact hg) ht he hs) fun σ H Q h => lc_of hts h
theorem ss_setLc {i : Nat} {y : Str} {py spos : Pos} (hK : X.K = G.K) (hc : X.calm = true) (hN : X.N.Nodup) (hy : X.N[i]? = some y) (hyl : X.env.scope.names.lookup y = some .local)
    (hsw : swapsWith (.ListComp elt [⟨tg, iter, ifs, 0⟩] scope pos) (some (.Name y py)) spos.line X.env = pure true) (hi : SI G X W tg iter mi) (ok : BlkOk X.N X.env.scope scope own) (hts : ∀ i ∈ t.slots, i ∈ own.map (·.2))
    (hg : ∀ (s : Shared) (H : Hp) (C : Addr) (cl : List (Str × Addr)) (fp : List Addr), PG (X.blk s H scope (compEnvC scope cl C X.env) fp) tg (gT X.K t))
    (ht : ∀ (s : Shared) (H : Hp) (C : Addr) (cl : List (Str × Addr)) (fp : List Addr), STs G (X.blk s H scope (compEnvC scope cl C X.env) fp) W0 ifs tc)
    (he : ∀ (s : Shared) (H : Hp) (C : Addr) (cl : List (Str × Addr)) (fp : List Addr), SE G (X.blk s H scope (compEnvC scope cl C X.env) fp) W0 elt me)
    (hs : ∀ x, foldedSetIterable iter X.env x = pure x := by intro _; rfl) : SS G X W (.Assign [.Name y py] (.ListComp elt [⟨tg, iter, ifs, 0⟩] scope pos) spos) (msAsg (.one i) (mLc (own.map (·.2)) mi t tc me)) :=
  PS.imp (ps_setLc (g := gT G.K t) hc hN hy hyl hsw hi ok (by rw [← hK]; exact hg) ht he hs) fun D σ H h => by
    have h' := asg_of hK h
    obtain ⟨w, ρ, S, rfl, rE, rS, p⟩ := h
    refine lc_of (W := W) hts (Q := fun x H1 => gName i x σ H1 D.nx) ⟨w, ρ, S, rfl, rE, rS, ?_⟩
    exact p.seqE rE fun w1 x v S1 _ x1 r1 q1 p1 => p1.nxt ((rE.mono x1).set q1 i) r1
end
end Mx
set_option Elab.async false
set_option linter.all false
set_option maxRecDepth 100000
set_option maxHeartbeats 1000000
/-! The layer M, part F: calls of defs, what a def is worth, raise. -/
namespace Mx
open PySem PySem.Spec PyProof.Rows L2

/-! ### the store cut back behind a call -/
mutual
def D.blw (m : Nat) : D → Bool
  | .loc n => decide (n < m)
  | .tup xs => D.blws m xs
  | _ => true
def D.blws (m : Nat) : List D → Bool
  | [] => true
  | x :: xs => D.blw m x && D.blws m xs
end
def kvBelow {κ : Type} (m : Nat) : List (κ × D) → Bool
  | [] => true
  | x :: xs => D.blw m x.2 && kvBelow m xs
def SO.blw (m : Nat) : SO → Bool
  | .lst xs => D.blws m xs
  | .dK kvs => kvBelow m kvs
  | .dT kvs => kvBelow m kvs
  | .ins _ fs => kvBelow m fs
def Store.blw (m : Nat) : Store → Bool
  | [] => true
  | o :: r => SO.blw m o && Store.blw m r
section
variable {G : Gb}
mutual
theorem rep_below {w : Wd} : ∀ {d : D} {v : V}, Rep G w d v → D.blw w.N d = true
  | .non, _, _ => rfl
  | .bl _, _, _ => rfl
  | .int _, _, _ => rfl
  | .str _, _, _ => rfl
  | .scr _, _, _ => rfl
  | .loc n, _, h => decide_eq_true h.1
  | .tup xs, _, h => by obtain ⟨a, vs, _, _, r⟩ := h; exact reps_below r
theorem reps_below {w : Wd} : ∀ {d : List D} {v : List V}, Reps G w d v → D.blws w.N d = true
  | [], _, _ => rfl
  | d :: ds, _, h => by
    obtain ⟨v, r, _, h1, h2⟩ := h
    simp [D.blws, rep_below h1, reps_below h2]
end
theorem repKV_below {κ : Type} {w : Wd} : ∀ {d : List (κ × D)} {v : List (κ × V)}, RepKV G w d v → kvBelow w.N d = true
  | [], _, _ => rfl
  | d :: ds, _, h => by
    obtain ⟨v, r, _, _, h1, h2⟩ := h
    simp [kvBelow, rep_below h1, repKV_below h2]
theorem repO_below {w : Wd} : ∀ {o : SO} {u : HO}, RepO G w o u → SO.blw w.N o = true
  | .lst xs, _, ⟨vs, _, r⟩ => reps_below r
  | .dK kvs, _, ⟨vs, _, r⟩ => repKV_below r
  | .dT kvs, _, ⟨vs, _, r⟩ => repKV_below r
  | .ins c fs, _, ⟨C, dx, vs, _, _, r⟩ => repKV_below r
theorem store_below {S : Store} {m : Nat} : Store.blw m S = true ↔ ∀ (n : Nat) o, S[n]? = some o → SO.blw m o = true := by
  induction S with
  | nil => simp [Store.blw]
  | cons a r ih =>
    simp only [Store.blw, Bool.and_eq_true, ih]
    constructor
    · rintro ⟨h1, h2⟩ n o e
      cases n with
      | zero => cases e; exact h1
      | succ n => exact h2 n o e
    · intro h
      exact ⟨h 0 a rfl, fun n o e => h (n + 1) o e⟩
theorem repS_below {w : Wd} {S : Store} (R : RepS G w S) : Store.blw S.length S = true := store_below.mpr fun n o e => by
  obtain ⟨u, _, r⟩ := R.at_ n o e
  rw [R.len]
  exact repO_below r
abbrev Wd.cut (w : Wd) (m : Nat) : Wd := ⟨w.H, m, w.at_⟩
mutual
theorem rep_cut {w : Wd} {m : Nat} : ∀ {d : D} {v : V}, D.blw m d = true → Rep G w d v → Rep G (w.cut m) d v
  | .non, _, _, r => r
  | .bl _, _, _, r => r
  | .int _, _, _, r => r
  | .str _, _, _, r => r
  | .scr _, _, _, r => r
  | .loc n, _, h, r => ⟨of_decide_eq_true h, r.2⟩
  | .tup xs, _, h, r => by obtain ⟨a, vs, e, e2, r⟩ := r; exact ⟨a, vs, e, e2, reps_cut h r⟩
theorem reps_cut {w : Wd} {m : Nat} : ∀ {d : List D} {v : List V}, D.blws m d = true → Reps G w d v → Reps G (w.cut m) d v
  | [], _, _, r => r
  | d :: ds, _, h, r => by
    obtain ⟨v, s, e, h1, h2⟩ := r
    have h' : D.blw m d = true ∧ D.blws m ds = true := by simpa [D.blws] using h
    exact ⟨v, s, e, rep_cut h'.1 h1, reps_cut h'.2 h2⟩
end
theorem repKV_cut {κ : Type} {w : Wd} {m : Nat} : ∀ {d : List (κ × D)} {v : List (κ × V)}, kvBelow m d = true → RepKV G w d v → RepKV G (w.cut m) d v
  | [], _, _, r => r
  | d :: ds, _, h, r => by
    obtain ⟨v, s, e, h0, h1, h2⟩ := r
    have h' : D.blw m d.2 = true ∧ kvBelow m ds = true := by simpa [kvBelow] using h
    exact ⟨v, s, e, h0, rep_cut h'.1 h1, repKV_cut h'.2 h2⟩
theorem repO_cut {w : Wd} {m : Nat} : ∀ {o : SO} {u : HO}, SO.blw m o = true → RepO G w o u → RepO G (w.cut m) o u
  | .lst xs, _, h, ⟨vs, e, r⟩ => ⟨vs, e, reps_cut h r⟩
  | .dK kvs, _, h, ⟨vs, e, r⟩ => ⟨vs, e, repKV_cut h r⟩
  | .dT kvs, _, h, ⟨vs, e, r⟩ => ⟨vs, e, repKV_cut h r⟩
  | .ins c fs, _, h, ⟨C, dx, vs, e, z, r⟩ => ⟨C, dx, vs, e, z, repKV_cut h r⟩
/-- the end of a call: what the caller can't reach is forgotten -/
def keepB (S S' : Store) : Bool := decide (S'.take S.length = S) || Store.blw S.length (S'.take S.length)
def optBelow (m : Nat) : Option D → Bool
  | none => true
  | some d => D.blw m d
def fin (S : Store) : Out D → Out D
  | .ok d S' => if (D.blw S.length d && keepB S S') = true then .ok d (S'.take S.length) else .ok d S'
  | .exc x S' => if (optBelow S.length x.part && keepB S S') = true then .exc x (S'.take S.length) else .exc x S'
  | .bad => .bad
theorem cut_ok {w w' : Wd} {S S' : Store} (R : RepS G w S) (x : Ext w w') (r : RepS G w' S') (h : keepB S S' = true) : Ext w (w'.cut S.length) ∧ RepS G (w'.cut S.length) (S'.take S.length) := by
  have hl : S.length ≤ w'.N := by rw [R.len]; exact x.le
  have hb : ∀ (n : Nat) o, (S'.take S.length)[n]? = some o → SO.blw S.length o = true := by
    unfold keepB at h
    rw [Bool.or_eq_true] at h
    rcases h with h | h
    · have e := of_decide_eq_true h
      rw [e]
      exact store_below.mp (repS_below R)
    · exact store_below.mp h
  refine ⟨⟨Nat.le_of_eq R.len.symm, x.at_, x.keep, x.tup, x.frz, fun n h1 h2 => ?_, x.dom⟩, r.cut hl fun n o u hn e ro => repO_cut (hb n o (by rw [List.getElem?_take_of_lt hn]; exact e)) ro⟩
  have h2' : n < S.length := h2
  rw [R.len] at h2'
  exact absurd (Nat.lt_of_lt_of_le h2' h1) (Nat.lt_irrefl _)
theorem fin_ok {w : Wd} {S : Store} {o : Out D} {Q : VK} {E : XH} (R : RepS G w S) (h : PostG G w (Rep G) (fin S o) Q E) : PostG G w (Rep G) o Q E := by
  cases o with
  | bad => exact h
  | ok d S' =>
    unfold fin at h
    dsimp only at h
    split at h
    · rename_i hc
      rw [Bool.and_eq_true] at hc
      intro w' v x r q
      obtain ⟨x', r'⟩ := cut_ok R x r hc.2
      exact h (w'.cut S.length) v x' r' (rep_cut hc.1 q)
    · exact h
  | exc y S' =>
    unfold fin at h
    dsimp only at h
    split at h
    · rename_i hc
      rw [Bool.and_eq_true] at hc
      intro w' c dd x r q
      obtain ⟨x', r'⟩ := cut_ok R x r hc.2
      refine h (w'.cut S.length) c dd x' r' ?_
      obtain ⟨C, h1, h2, h3⟩ := q
      refine ⟨C, h1, h2, ?_⟩
      have hp := hc.1
      cases hq : y.part with
      | none => trivial
      | some p =>
        rw [hq] at h3 hp
        obtain ⟨dx, v, e1, e2, e3⟩ := h3
        exact ⟨dx, v, e1, e2, rep_cut hp e3⟩
    · exact h

/-! ### what a def promises -/
abbrev DF := List D → Store → Out D
def spM (G : Gb) (n : Nat) (F : DF) : Sp := fun vs H Q E => ∃ w ds S, w.H = H ∧ RepS G w S ∧ Reps G w ds vs ∧ ds.length = n ∧ PostG G w (Rep G) (F ds S) Q E
def OutS.end_ : OutS → Out D
  | .next _ S => .ok .non S
  | .ret d S => .ok d S
  | .exc x _ S => .exc x S
  | _ => .bad
def startM (n : Nat) (ds : List D) : Env' := ds.map some ++ List.replicate (n - ds.length) none
/-- what a body makes of a def -/
def fnM (n : Nat) (m : MS) : DF := fun ds S => fin S ((m (startM n ds) S).end_)
theorem start_rep {w : Wd} {n : Nat} {ds : List D} {vs : List V} {N : List Str} (hN : N.length = n) (r : Reps G w ds vs) : RepE G w (startM n ds) (L2.start N vs) := by
  have hl := r.length
  unfold startM L2.start
  refine ⟨by simp [hl, hN], fun i d e => ?_⟩
  by_cases hi : i < ds.length
  · rw [List.getElem?_append_left (by simpa using hi), List.getElem?_map] at e
    rw [List.getElem?_append_left (by simpa [hl] using hi), List.getElem?_map]
    cases q : ds[i]? with
    | none => rw [q] at e; cases e
    | some d' =>
      rw [q] at e
      cases e
      obtain ⟨v, h1, h2⟩ := r.get q
      exact ⟨v, by rw [h1]; rfl, h2⟩
  · rw [List.getElem?_append_right (by simpa using Nat.le_of_not_lt hi)] at e
    rw [List.getElem?_replicate] at e
    split at e <;> cases e
/-- a def of the text, its code object known -/
structure FunC (K : PySem.W.Frag) (x qual : Str) (st : Stmt) (f : Addr) (fd : FuncData) (c : Addr) : Prop where
  ex : ∃ (oc : Value) (od : Option Addr) (kV doc pm : Value) (an : Option Addr) (ct : Value) (osl : Array (Option Value)),
    fd = PySem.W.fnOf x qual (defArgs st) (defBody st) (defScope st) .none kV doc pm an (.ref c) ct ∧ K.lookup f = some ⟨oc, od, .func fd, osl⟩ ∧ PySem.W.codeIn K (.ref c) qual = true
  kp : PySem.W.keepIn K (.ref f) = true
theorem FunC.toFun {K : PySem.W.Frag} {x qual : Str} {st : Stmt} {f : Addr} {fd : FuncData} {c : Addr} (F : FunC K x qual st f fd c) : Fun K x qual st f fd := by
  obtain ⟨oc, od, kV, doc, pm, an, ct, osl, h⟩ := F.ex
  exact ⟨⟨oc, od, kV, doc, pm, an, .ref c, ct, osl, h⟩, F.kp⟩
theorem funC_mk {K : PySem.W.Frag} {x qual : Str} {st : Stmt} {f c : Addr} {oc : Value} {od an : Option Addr} {osl : Array (Option Value)} {kV doc pm ct : Value}
    (l : K.lookup f = some ⟨oc, od, .func (PySem.W.fnOf x qual (defArgs st) (defBody st) (defScope st) .none kV doc pm an (.ref c) ct), osl⟩) (h : PySem.W.codeIn K (.ref c) qual = true) (k : PySem.W.keepIn K (.ref f) = true) :
    FunC K x qual st f (PySem.W.fnOf x qual (defArgs st) (defBody st) (defScope st) .none kV doc pm an (.ref c) ct) c := ⟨⟨oc, od, kV, doc, pm, an, ct, osl, rfl, l, h⟩, k⟩
abbrev WD (E : XK) : WX := fun cls d _ H => E cls d H
variable {P : Program} {w0 : World} {K : PySem.W.Frag} {mg : Str → Option Value} {base : Heap}
theorem fnM_ok {x qual : Str} {st : Stmt} {f c : Addr} {fd : FuncData} {N ps : List Str} {k n : Nat} {m : MS} (F : FunC K x qual st f fd c) (Sc : FnScope N ps (defScope st)) (hn : N.length = n)
    (hbody : ∀ (A : Around) (outer : List Env) (s : Shared) (H : Hp) (E : XK), Room k (A.deeper (envOfC qual (defScope st) s.heap.objs.size f (.ref c))) →
      SSs G (cxOf (L2.CX P w0) P w0 K mg base N qual (defScope st) f (.ref c) A outer s H E) (WD E) (defBody st) m) :
    FnOk P w0 K mg base (L2.CX P w0) (k + 1) f fd ps (spM G ps.length (fnM n m)) := by
  obtain ⟨oc, od, kV, doc, pm, an, ct, osl, rfl, lk, hcd⟩ := F.ex
  refine fn_of lk hcd Sc (fun vs H Q E h => ?_) fun A outer s H vs Q E hr hsp => ?_
  · obtain ⟨w, ds, S, _, _, r, hl, _⟩ := h
    rw [← r.length]
    exact hl
  · obtain ⟨w, ds, S, rfl, R, r, hl, p⟩ := hsp
    refine ⟨_, hbody A outer s w.H E hr, w, startM n ds, S, rfl, start_rep hn r, R, ?_⟩
    have p' := fin_ok R p
    cases hm : m (startM n ds) S with
    | next ρ S' => rw [hm] at p'; exact fun w' σ' x r _ => p' w' .non x r rfl
    | ret d S' => rw [hm] at p'; exact p'
    | exc y ρ S' => rw [hm] at p'; exact fun w' σ' c dd x r _ q => p' w' c dd x r q
    | brk ρ S' => rw [hm] at p'; exact p'.elim
    | cont ρ S' => rw [hm] at p'; exact p'.elim
    | bad => rw [hm] at p'; exact p'.elim

/-! ### f(e, ..) -/
variable {X : Cx} {W : WX} {e : Expr} {es : List Expr} {pos : Pos} {mr : MA}
def mCall (n : Nat) (F : DF) (r : MA) : ME := fun ρ S => (r ρ S).bind fun ds S1 => if ds.length = n then F ds S1 else .bad
theorem se_call {k n : Nat} {f : Addr} {fd : FuncData} {ps : List Str} {F : DF} {x : Str} {p : Pos} (FN : FnOk X.prog X.w X.K X.mg X.base (L2.CX X.prog X.w) k f fd ps (spM G n F)) (tk : Takes X W) (hr : Room k X.A) (hg : Gl X x) (hm : X.mg x = some (.ref f))
    (hk : PySem.W.keepIn X.K (.ref f) = true) (hb : Binds X.K fd ps []) (ha : SA G X W (e :: es) mr) (hdb : (x == ("__debug__" : Str)) = false := by decide)
    (he : starEach (e :: es) X.env = (false, eval e X.env) :: starEach es X.env := by rfl) (hpl : (backTo pos (starEach es X.env)).any (·.1) = false := by rfl) :
    SE G X W (.Call (.Name x p) (e :: es) [] pos) (mCall n F mr) := PE.imp (pe_callS FN hr hg hm hk hb (fun σ => passAt tk σ) ha hdb he hpl) fun σ H Q h => by
  obtain ⟨w, ρ, S, rfl, rE, rS, p⟩ := h
  refine ⟨w, ρ, S, rfl, rE, rS, PostG.seq p fun w1 ds vs S1 he x1 r1 q1 p1 => ?_⟩
  clear he
  split at p1
  · rename_i hl
    exact ⟨w1, ds, S1, rfl, r1, q1, hl, p1⟩
  · exact p1.elim

/-! ### raise C('..') -/
def msRaise (c : Str) : MS := fun ρ S => .exc ⟨c, none⟩ ρ S
variable {B newId initId : String} {bmB : List Value}
theorem ss_raise {C : Addr} {x cn msg : Str} {j : Nat} {p p2 p3 : Pos} (hc : X.calm = true) (tk : Takes X W) (hC : G.cA cn = some C) (F : ExcBaseFacts B newId initId bmB) (q : PySem.W.excIn X.K C bmB newId = true) (gC : X.mg x = some (.ref C))
    (kC : PySem.W.keepIn X.K (.ref C) = true) (r : Raises X (.ref C)) (hg : Gl X x) (hdb : (x == ("__debug__" : Str)) = false := by decide) :
    SS G X W (.Raise (some (.Call (.Name x p) [.Constant (.str msg) j p2] [] p3)) none pos) (msRaise cn) := PS.imp (ps_raise hc tk (pmk_own F q gC kC r hg hdb)) fun D σ H h => by
  obtain ⟨w, ρ, S, rfl, rE, rS, p⟩ := h
  exact p w σ (.ref C) none (Ext.refl _) rS rE ⟨C, hC, rfl, trivial⟩
end
end Mx
set_option Elab.async false
set_option linter.all false
set_option maxRecDepth 100000
set_option maxHeartbeats 2000000
/-! The layer M, part G: generator expressions handed to any, all, sum. -/
namespace Mx
open PySem PySem.Spec PyProof.Rows L2

/-- the own scope of a generator expression -/
structure GenOk (N : List Str) (sc scope : Scope) (own : List (Str × Nat)) : Prop where
  kind : scope.kind = .function
  co : scope.isCoroutine = false
  nocell : ∀ y ∈ scope.names, y.2 ≠ .cell
  dot : scope.names.lookup (".0" : Str) = some NameKind.local
  ix : ∀ p ∈ own, N[p.2]? = some p.1
  free : ∀ y ∈ scope.names, y.2 = .free → sc.names.lookup y.1 = some .cell ∨ sc.names.lookup y.1 = some .free
  own : ∀ y ∈ scope.names, y.2 = .local → y.1 ∈ own.map (·.1) ∨ y.1 ∉ N
def genOkB (N : List Str) (sc scope : Scope) (own : List (Str × Nat)) : Bool :=
  decide (scope.kind = .function) && !scope.isCoroutine && (scope.names.all fun y => !decide (y.2 = .cell)) && decide (scope.names.lookup (".0" : Str) = some NameKind.local) && (own.all fun p => decide (N[p.2]? = some p.1)) &&
    (scope.names.all fun y => !decide (y.2 = .free) || decide (sc.names.lookup y.1 = some .cell) || decide (sc.names.lookup y.1 = some .free)) && (scope.names.all fun y => !decide (y.2 = .local) || decide (y.1 ∈ own.map (·.1)) || !decide (y.1 ∈ N))
theorem genOk_by {N : List Str} {sc scope : Scope} {own : List (Str × Nat)} (h : genOkB N sc scope own = true) : GenOk N sc scope own := by
  unfold genOkB at h
  simp only [Bool.and_eq_true, decide_eq_true_eq, List.all_eq_true, Bool.or_eq_true, Bool.not_eq_true', decide_eq_false_iff_not] at h
  obtain ⟨⟨⟨⟨⟨⟨h1, h2⟩, h3⟩, h4⟩, h5⟩, h6⟩, h7⟩ := h
  refine ⟨h1, h2, h3, h4, h5, fun y hy e => ?_, fun y hy e => ?_⟩
  · rcases h6 y hy with (z | z) | z
    · exact absurd e z
    · exact .inl z
    · exact .inr z
  · rcases h7 y hy with (z | z) | z
    · exact absurd e z
    · exact .inl z
    · exact .inr z
abbrev gEnv (X : Cx) (scope : Scope) (C : Addr) (code : Value) : Env := genEnv scope (cloFrom X.env.cells scope.names []) C code builtinsNs X.env
/-- the context of the elements; s, H: where the expression was made -/
def genCx (X : Cx) (A : Around) (s : Shared) (H : Hp) (scope : Scope) (C : Addr) (code : Value) (fp : List Addr) : Cx where
  prog := X.prog
  w := X.w
  K := X.K
  mg := X.mg
  base := X.base
  A := A
  N := X.N
  s_0 := s
  H_0 := H
  env := gEnv X scope C code
  outer := X.stack
  stack := gEnv X scope C code :: X.stack
  ex := fp
  fn := fun _ => false
  calm := true
  pn := []
  xe := fun _ _ => False

section
variable {X : Cx} {pins : List (Addr × Obj)} {σ : L2.St} {H : Hp} {s : Shared}
theorem gen_start {A : Around} {scope : Scope} {own : List (Str × Nat)} {code : Value} {fp : List Addr} {h' : Heap} {g' : Array GenState} {tk : Nat} {m : Str → Option Value} (I : Inv X pins σ H s) (hN : X.N.Nodup) (ok : GenOk X.N X.env.scope scope own)
    (hA : A.frames = some (gEnv X scope s.heap.objs.size code :: X.stack)) (hd : A.handled = none) (hfp : ∀ b ∈ fp, FpOk X pins H b ∧ b < s.heap.objs.size) (hns : h'.Ns s.heap.objs.size m) (kp : ∀ b o, s.heap.get? b = some o → h'.get? b = some o) (hg : AllBare g') :
    Inv (genCx X A s H scope s.heap.objs.size code fp) [] (wipe σ (own.map (·.2))) H { s with heap := h', gens := g', toks := tk } := by
  have hfree : ∀ y ∈ scope.names, y.2 = .free → ∃ c, X.env.cells.lookup y.1 = some c := fun y hy e => by
    rcases ok.free y hy e with k | k
    · exact I.ok.has _ (.inl k)
    · exact I.ok.has _ (.inr k)
  have cm : ∀ {y c}, (cloFrom X.env.cells scope.names []).lookup y = some c → X.env.cells.lookup y = some c := fun {y c} e => by
    rcases cloFrom_mem (PySem.mem_of_lookup e) with hm | ⟨h1, h2⟩
    · cases hm
    · obtain ⟨c1, hc⟩ := hfree _ h1 rfl
      have hc' : X.env.cells.lookup y = some c1 := hc
      rw [hc'] at h2
      rw [hc', h2]
      rfl
  have look : ∀ {y}, scope.names.lookup y = some .free → ∃ c, (cloFrom X.env.cells scope.names []).lookup y = some c := fun {y} hl =>
    mem_lookup (cloFrom_has (cells := X.env.cells) (acc := []) (PySem.mem_of_lookup hl))
  have cellK : ∀ {c : Addr} {v : Option Value}, s.heap.IsCell c v → h'.IsCell c v := fun {c v} ⟨o, ho, hd⟩ => ⟨o, kp _ _ ho, hd⟩
  have cellLt : ∀ {y c}, X.env.cells.lookup y = some c → c < s.heap.objs.size := fun {y c} e => by
    obtain ⟨v, z⟩ := I.cell y c e
    exact z.lt
  have okG : (genCx X A s H scope s.heap.objs.size code fp).Ok := by
    refine ⟨I.ok.mod, ok.kind, I.ok.glob, rfl, Nat.le_refl _, fun y z c e1 e2 => I.ok.inj y z c (cm e1) (cm e2), fun y hy => ?_, fun y c z _ => ?_, fun _ => hd, hA, .inr ⟨rfl, rfl⟩, fun b hb => ⟨Nat.ne_of_lt (hfp b hb).2, fun y c e z => ?_⟩, I.bs, Nat.le_trans I.ok.bsz I.sz, fun b o e hb => ?_, fun b hb z => ?_, I.stack, I.stkFree⟩
    · have hy' : scope.names.lookup y = some .cell ∨ scope.names.lookup y = some .free := hy
      rcases hy' with hy' | hy'
      · exact absurd rfl (ok.nocell _ (PySem.mem_of_lookup hy'))
      · exact look hy'
    · have z' : false = true := z
      cases z'
    · exact (hfp b hb).1.2.2.2.2.1 y c (cm e) z
    · rcases (hfp b hb).1.2.2.2.1 with z | z
      · exact I.ok.noex b o e z
      · exact absurd (Nat.lt_of_lt_of_le (Heap.lt_size e) (Nat.le_trans I.ok.bsz z)) (Nat.lt_irrefl _)
    · rcases List.mem_cons.mp (I.stkSub b z) with z | z
      · exact (hfp b hb).1.2.1 z
      · exact (hfp b hb).1.2.2.1 z
  refine ⟨okG, rfl, hg, Un.kept kp, ⟨m, hns, fun i y v e1 e2 e3 => ?_⟩, fun y c e => ?_, I.hok.fresh (Nat.le_refl _), fun y c e => I.freeC y c (cm e), fun p hp => absurd (show p ∈ ([] : List (Addr × Obj)) ++ [] from hp) (by simp), I.hok.kept kp, by rw [wipe_length]; exact I.len⟩
  · obtain ⟨e4, hne⟩ := wipe_some e2
    have hfr : scope.names.lookup y = some .free := by
      have e3' : Vis scope y := e3
      rcases e3' with k | k | k
      · rcases ok.own _ (PySem.mem_of_lookup k) rfl with q | q
        · obtain ⟨p, hp, hpy⟩ := List.mem_map.mp q
          have e5 := ok.ix p hp
          have hpy' : p.1 = y := hpy
          rw [hpy'] at e5
          refine absurd (List.mem_map.mpr ⟨p, hp, ?_⟩) hne
          have hi := (List.getElem?_eq_some_iff.mp e1).1
          exact nodup_ix hN e5 e1
        · exact absurd (List.mem_of_getElem? e1) q
      · exact absurd rfl (ok.nocell _ (PySem.mem_of_lookup k))
      · exact k
    obtain ⟨m0, hn, hl⟩ := I.loc
    have hvis : Vis X.env.scope y := (ok.free _ (PySem.mem_of_lookup hfr) rfl).elim (fun k => .inr (.inl k)) (fun k => .inr (.inr k))
    obtain ⟨u, r, q⟩ := hl i y v e1 e4 hvis
    obtain ⟨c2, h2⟩ := look hfr
    refine ⟨u, r, .inr ⟨.inr hfr, c2, h2, ?_⟩⟩
    rcases q with ⟨k', _⟩ | ⟨_, c3, e', z⟩
    · have k' : X.env.scope.names.lookup y = some .local := k'
      rcases ok.free _ (PySem.mem_of_lookup hfr) rfl with k2 | k2 <;> rw [show X.env.scope.names.lookup y = _ from k2] at k' <;> cases k'
    · rw [cm h2] at e'
      cases e'
      exact cellK z
  · obtain ⟨v, z⟩ := I.cell y c (cm e)
    exact ⟨v, cellK z⟩
theorem Inv.same {s' : Shared} (I : Inv X pins σ H s) (hh : s'.heap = s.heap) (ho : s'.os = s.os) (hg : AllBare s'.gens) : Inv X pins σ H s' := by
  obtain ⟨h, g, d, t, o⟩ := s
  obtain ⟨h', g', d', t', o'⟩ := s'
  have hh' : h' = h := hh
  have ho' : o' = o := ho
  subst hh'
  subst ho'
  exact ⟨I.ok, I.os, hg, I.base, I.loc, I.cell, I.free, I.freeC, I.pin, I.hok, I.len⟩
end
theorem over_gen {A : Around} {elt tg iter : Expr} {scope : Scope} {pos : Pos} {it acc : Value} {env : Env} : A.over (.compLoop (.GeneratorExp elt [⟨tg, iter, [], 0⟩] scope pos) 0 it acc env) [] = A.deeper env := by
  first
    | rfl
    | (obtain ⟨hd, d, fr, gs, u⟩ := A; simp [Around.over, Around.deeper, marksOver, frameCount, unitsOf, envsOf, guardsOf, pushEnvs, pushGuards, Code.envs, Code.env?, Code.isFrame, Code.guards, Code.isGuard, Code.weight, Code.frames, Code.isCreation, Code.isCaller, Code.cUnits])
theorem repE_unwipe {G : Gb} {w : Wd} {ρ : Env'} {σ : L2.St} {vs : List Nat} (h : RepE G w ρ (wipe σ vs)) : RepE G w ρ σ := ⟨by rw [h.1, wipe_length], fun i d e => let ⟨v, h1, h2⟩ := h.2 i d e; ⟨v, (wipe_some h1).1, h2⟩⟩

/-! ### the items one after another -/
section
variable (s : Src) (t : Tg) (e : ME) (ρ0 : Env')
def genAt (x : D) (S : Store) : Option (D × Store) := if okSrc s S then match bindT t x ρ0 with
    | some ρ1 => match e ρ1 S with
      | .ok y S2 => some (y, S2)
      | _ => none
    | none => none
    else none
def genTo (S1 : Store) : Nat → Option Store
  | 0 => some S1
  | i + 1 => match genTo S1 i with
    | some S => match s.2[i]? with
      | some x => match genAt s t e ρ0 x S with
        | some (_, S2) => some S2
        | none => none
      | none => none
    | none => none
/-- the step at i goes -/
def NB (i : Nat) (S : Store) : Prop := match s.2[i]? with
  | some x => ∃ y S2, genAt s t e ρ0 x S = some (y, S2)
  | none => okSrc s S = true
def genL {γ : Type} (step : γ → D → Option (Sum γ D)) (fn : γ → D) : List D → γ → Store → Out D
  | [], c, S => if okSrc s S then .ok (fn c) S else .bad
  | x :: xs, c, S => match genAt s t e ρ0 x S with
    | some (y, S2) => match step c y with
      | some (.inl c') => genL step fn xs c' S2
      | some (.inr d) => .ok d S2
      | none => .bad
    | none => .bad
end

section
variable {G : Gb} {X : Cx} {A2 : Around} {sA : Shared} {HA : Hp} {scope : Scope} {C a g : Nat} {code : Value} {fp : List Addr} {go : Obj} {it : Addr} {tn : Nat → Heap → Prop} {J : It} {tg : Expr} {s : Src} {t : Tg} {e : ME} {ρ : Env'} {vs : List Nat} {σ : L2.St} {w1 : Wd} {S1 : Store}
/-- before item i -/
def GZ (G : Gb) (Xg : Cx) (a : Addr) (go : Obj) (g : Nat) (fp : List Addr) (tn : Nat → Heap → Prop) (vs : List Nat) (σ : L2.St) (w1 : Wd) (i : Nat) (S : Store) (w' : Wd) (s : Shared) : Prop :=
  ∃ σ', wipe σ' vs = wipe σ vs ∧ Inv Xg [(a, go)] σ' w'.H s ∧ tn i s.heap ∧ (∀ b ∈ fp, w'.H b = none) ∧ RepS G w' S ∧ Ext w1 w' ∧ g < s.gens.size
theorem GZ.same {Xg : Cx} {i : Nat} {S : Store} {w' : Wd} {s s' : Shared} (z : GZ G Xg a go g fp tn vs σ w1 i S w' s) (hh : s'.heap = s.heap) (ho : s'.os = s.os) (hb : AllBare s'.gens) (hg : g < s'.gens.size) : GZ G Xg a go g fp tn vs σ w1 i S w' s' := by
  obtain ⟨σ', h1, h2, h3, h4, h5, h6, _⟩ := z
  exact ⟨σ', h1, Mx.Inv.same h2 hh ho hb, by rw [hh]; exact h3, h4, h5, h6, hg⟩
def GY' (G : Gb) (Xg : Cx) (a : Addr) (go : Obj) (g : Nat) (fp : List Addr) (tn : Nat → Heap → Prop) (vs : List Nat) (σ : L2.St) (w1 : Wd) (s : Src) (t : Tg) (e : ME) (ρ0 : Env') (S1 : Store) : Protocol := fun m _ v sh kap =>
  ∃ i S x y S2 w' yv, s.2[i]? = some x ∧ genTo s t e ρ0 S1 i = some S ∧ genAt s t e ρ0 x S = some (y, S2) ∧ GZ G Xg a go g fp tn vs σ w1 (i + 1) S2 w' sh ∧ Rep G w' y yv ∧ RelV yv v ∧ m = s.2.length - (i + 1) ∧
    ∀ (s'' : Shared) (w'' : Wd), NB s t e ρ0 (i + 1) S2 → GZ G Xg a go g fp tn vs σ w1 (i + 1) S2 w'' s'' → kap (.send .none) s''
/-- behind the last item -/
def GF (G : Gb) (Xg : Cx) (a : Addr) (go : Obj) (g : Nat) (w1 : Wd) (S : Store) (w' : Wd) (s : Shared) : Prop :=
  ∃ σ', Inv Xg [(a, go)] σ' w'.H s ∧ RepS G w' S ∧ Ext w1 w' ∧ g < s.gens.size
def GR' (G : Gb) (Xg : Cx) (a : Addr) (go : Obj) (g : Nat) (w1 : Wd) (s : Src) (t : Tg) (e : ME) (ρ0 : Env') (S1 : Store) : Nat → Shared → Shared → Prop := fun n _ s₁ =>
  n = 0 ∧ ∃ S w', genTo s t e ρ0 S1 s.2.length = some S ∧ GF G Xg a go g w1 S w' s₁
theorem genTo_succ {i : Nat} {S S2 : Store} {x y : D} (h1 : genTo s t e ρ S1 i = some S) (h2 : s.2[i]? = some x) (h3 : genAt s t e ρ x S = some (y, S2)) : genTo s t e ρ S1 (i + 1) = some S2 := by
  unfold genTo
  rw [h1]
  dsimp only
  rw [h2]
  dsimp only
  rw [h3]
theorem gen_loop {elt iter : Expr} {pos : Pos} (hc : scope.isCoroutine = false) (hA : (A2.deeper (gEnv X scope C code)).handled = none) (hK : X.K = G.K)
    (T : Turn X.prog X.w X.K tg J fp it tn) (hRI : RI G w1 s J) (hvs : ∀ i ∈ t.slots, i ∈ vs) (rE : RepE G w1 ρ σ) (hfpa : ∀ b ∈ fp, a ≠ b) (hgo : ∀ v, go.data ≠ .cell v)
    (hg : PG (genCx X (A2.deeper (gEnv X scope C code)) sA HA scope C code fp) tg (gT X.K t)) (he : SE G (genCx X (A2.deeper (gEnv X scope C code)) sA HA scope C code fp) W0 elt e) :
    ∀ (k i : Nat) (S : Store) (w' : Wd) (s₀ sh : Shared), s.2.length - i = k → i ≤ s.2.length → genTo s t e (wipeM ρ vs) S1 i = some S → NB s t e (wipeM ρ vs) i S →
      GZ G (genCx X (A2.deeper (gEnv X scope C code)) sA HA scope C code fp) a go g fp tn vs σ w1 i S w' sh →
      Seg (model X.prog X.w) A2 (fun n s₀ r s₁ => r = .ok .next ∧ GR' G (genCx X (A2.deeper (gEnv X scope C code)) sA HA scope C code fp) a go g w1 s t e (wipeM ρ vs) S1 n s₀ s₁)
        (GY' G (genCx X (A2.deeper (gEnv X scope C code)) sA HA scope C code fp) a go g fp tn vs σ w1 s t e (wipeM ρ vs) S1) (s.2.length - i) s₀
        (.compLoop (.GeneratorExp elt [⟨tg, iter, [], 0⟩] scope pos) 0 (.ref it) .none (gEnv X scope C code))
        ((model X.prog X.w).den (.compLoop (.GeneratorExp elt [⟨tg, iter, [], 0⟩] scope pos) 0 (.ref it) .none (gEnv X scope C code))) [] sh := by
  generalize hXg : genCx X (A2.deeper (gEnv X scope C code)) sA HA scope C code fp = Xg at *
  have eP : Xg.prog = X.prog := by rw [← hXg]; rfl
  have ew : Xg.w = X.w := by rw [← hXg]; rfl
  have eK : Xg.K = X.K := by rw [← hXg]; rfl
  have eA : Xg.A = A2.deeper (gEnv X scope C code) := by rw [← hXg]; rfl
  have ec : Xg.calm = true := by rw [← hXg]; rfl
  have ee : Xg.env = gEnv X scope C code := by rw [← hXg]; rfl
  have ex : Xg.ex = fp := by rw [← hXg]; rfl
  have epn : Xg.pn = [] := by rw [← hXg]; rfl
  have exe : Xg.xe = fun _ _ => False := by rw [← hXg]; rfl
  have fpo : ∀ {σ' : L2.St} {H' : Hp} {sh : Shared}, Inv Xg [(a, go)] σ' H' sh → (∀ b ∈ fp, H' b = none) → ∀ b ∈ fp, FpOk Xg [(a, go)] H' b := fun {σ' H' sh} I hn b hb => by
    have hbx : b ∈ Xg.ex := by rw [ex]; exact hb
    refine ⟨hn b hb, (I.ok.exf b hbx).1, I.ok.exfs b hbx, .inl hbx, (I.ok.exf b hbx).2, fun p hp => ?_⟩
    rw [epn, List.nil_append, List.mem_singleton] at hp
    rw [hp]
    exact hfpa b hb
  intro k
  induction k with
  | zero =>
    intro i S w' s₀ sh hk hi hto hnb hz
    have hil : i = s.2.length := by omega
    subst hil
    obtain ⟨σ', hw, I, st, fr, R, x, hgs⟩ := id hz
    show Seg _ A2 _ _ _ s₀ _ ((compTurn (.GeneratorExp elt [⟨tg, iter, [], 0⟩] scope pos) 0 (.ref it) .none (gEnv X scope C code)).onRaise (leaving (gEnv X scope C code))) [] sh
    rw [compTurn_gen, Sem.onRaise_eq_wrap]
    refine seg_bind_wrap (wpAny_standAt ?_)
    have hn : s.2[s.2.length]? = none := List.getElem?_eq_none (Nat.le_refl _)
    have hok : okSrc s S = true := by
      unfold NB at hnb
      rw [hn] at hnb
      exact hnb
    have hstop := hRI w' S x.r R hok s.2.length
    rw [hn] at hstop
    refine seg_bind_wrap ?_
    rw [over_gen, ← eA]
    refine GenW.wpAny_gsz (n := g + 1) hgs (wpAny_mono (T.done Xg eP ew eK ec s.2.length [(a, go)] sh σ' w'.H (fun _ _ => False) I (fpo I fr) st hstop) (fun r s2 hr hg2 => ?_) fun _ _ z => z.elim)
    obtain ⟨rfl, I2⟩ := hr
    rw [Nat.sub_self]
    exact seg_end (.ok .next) ⟨rfl, rfl, S, w', hto, σ', I2, R, x, hg2⟩
  | succ k ih =>
    intro i S w' s₀ sh hk hi hto hnb hz
    obtain ⟨σ', hw, I, st, fr, R, x', hgs⟩ := id hz
    have hlt : i < s.2.length := by omega
    obtain ⟨x, hx⟩ : ∃ x, s.2[i]? = some x := ⟨s.2[i], List.getElem?_eq_getElem hlt⟩
    unfold NB at hnb
    rw [hx] at hnb
    obtain ⟨y, S2, hat⟩ := hnb
    have hat' := hat
    unfold genAt at hat'
    by_cases hok : okSrc s S = true
    · rw [if_pos hok] at hat'
      cases hb : bindT t x (wipeM ρ vs) with
      | none => rw [hb] at hat'; cases hat'
      | some ρ1 =>
        rw [hb] at hat'
        dsimp only at hat'
        cases hey : e ρ1 S with
        | exc q Sq => rw [hey] at hat'; cases hat'
        | bad => rw [hey] at hat'; cases hat'
        | ok y' S2' =>
          rw [hey] at hat'
          cases hat'
          have hri := hRI w' S x'.r R hok i
          rw [hx] at hri
          show Seg _ A2 _ _ _ s₀ _ ((compTurn (.GeneratorExp elt [⟨tg, iter, [], 0⟩] scope pos) 0 (.ref it) .none (gEnv X scope C code)).onRaise (leaving (gEnv X scope C code))) [] sh
          rw [compTurn_gen, Sem.onRaise_eq_wrap]
          refine seg_bind_wrap (wpAny_standAt ?_)
          refine seg_bind_wrap ?_
          rw [over_gen, ← eA]
          refine GenW.wpAny_gsz (n := g + 1) hgs (wpAny_mono (T.item Xg eP ew eK ec i [(a, go)] sh σ' w'.H (fun _ _ => False) I (fpo I fr) st hri.1) (fun r s1 hr hg1 => ?_) fun _ _ z => z.elim)
          obtain ⟨u, rfl, hr⟩ := hr
          dsimp only
          refine seg_bind_wrap ?_
          rw [over_gen, ← eA]
          refine GenW.wpAny_gsz (n := g + 1) hg1 (wpAny_mono hr (fun _ s2 hr2 hg2 => ?_) fun _ _ z => z.elim)
          obtain ⟨xv, H2, I2, rx, hy, st2, fr2⟩ := hr2
          obtain ⟨w3, rfl, x3, R3, rp⟩ := hri.2 xv H2 hy
          have x13 := x'.trans x3
          -- the iterator's records stand while the element is reckoned
          have hpn : ∀ p ∈ (a, go) :: pinsAt fp s2.heap, s2.heap.get? p.1 = some p.2 ∧ w3.H p.1 = none ∧ p.1 ≠ Xg.env.locals ∧ p.1 ∉ Xg.fs ∧ ∀ v, p.2.data ≠ .cell v := fun p hp => by
            rcases List.mem_cons.mp hp with q | q
            · rw [q]
              exact I2.pin (a, go) (List.mem_append_right _ (List.mem_singleton.mpr rfl))
            · obtain ⟨q1, q2⟩ := of_pinsAt q
              have f := fpo I2 fr2 p.1 q1
              obtain ⟨o, ho, hc⟩ := T.obj (i + 1) s2.heap st2 p.1 q1
              rw [ho] at q2
              cases q2
              exact ⟨ho, f.1, f.2.1, f.2.2.1, hc⟩
          have I3 := I2.pins_of hpn
          refine seg_bind_wrap ?_
          rw [over_gen, ← eA]
          have rE3 : RepE G w3 (wipeM ρ vs) σ' := repE_unwipe (by rw [hw]; exact wipe_rep (rE.mono x13) vs)
          have hgr := hg.run _ s2 σ' w3.H xv u (fun σ4 H4 => H4 = w3.H ∧ RepE G w3 ρ1 σ4 ∧ wipe σ4 vs = wipe σ vs) I3 rx (by
            rw [hK]
            exact gT_ofW hb rp rE3 hvs fun σ4 r4 hw4 => ⟨rfl, r4, hw4.trans hw⟩)
          rw [eP, ew, ee, exe] at hgr
          refine GenW.wpAny_gsz (n := g + 1) hg2 (wpAny_mono hgr (fun _ s4 hr4 hg4 => ?_) fun _ _ z => z.elim)
          obtain ⟨σ4, H4, I4, rfl, rE4, hw4⟩ := hr4
          refine seg_bind_wrap (wpAny_tests_nil ?_)
          simp only [if_true]
          have hyo : ∀ v, yieldOut (gEnv X scope C code) v = yieldValue v := fun v => by
            have hco : (gEnv X scope C code).scope.isCoroutine = false := hc
            simp only [yieldOut, hco, Bool.false_eq_true, if_false]
          simp only [hyo]
          rw [Sem.bind_eq_wrap', Sem.bind_eq_wrap', Sem.wrap_wrap, Sem.wrap_wrap]
          refine seg_wrap ?_
          rw [over_gen, ← eA]
          have her := he.run _ s4 σ4 w3.H (fun yv H5 => ∃ w5, w5.H = H5 ∧ Ext w3 w5 ∧ RepS G w5 S2 ∧ Rep G w5 y yv) I4 ⟨w3, ρ1, S, rfl, rE4, R3, by
            rw [hey]
            exact fun w5 yv x5 r5 q5 => ⟨w5, rfl, x5, r5, q5⟩⟩
          rw [eP, ew, ee, exe] at her
          refine GenW.wpAny_gsz (n := g + 1) hg4 (wpAny_mono her (fun v s5 hr5 hg5 => ?_) fun _ _ z => z.elim)
          obtain ⟨yv, H5, I5, ry, w5, rfl, x5, R5, rpy⟩ := hr5
          have pin5 : ∀ b ∈ fp, ∀ o, s2.heap.get? b = some o → s5.heap.get? b = some o ∧ w5.H b = none := fun b hb o ho => by
            have q := I5.pin (b, o) (List.mem_append_right _ (List.mem_cons_of_mem _ (mem_pinsAt hb ho)))
            exact ⟨q.1, q.2.1⟩
          have z5 : GZ G Xg a go g fp tn vs σ w1 (i + 1) S2 w5 s5 := by
            refine ⟨σ4, hw4, I5.pins_of fun p hp => ?_, T.keep (i + 1) s2.heap s5.heap st2 fun b hb o ho => (pin5 b hb o ho).1, fun b hb => ?_, R5, x13.trans x5, hg5⟩
            · rw [List.mem_singleton.mp hp]
              exact I5.pin (a, go) (List.mem_append_right _ List.mem_cons_self)
            · obtain ⟨o, ho, _⟩ := T.obj (i + 1) s2.heap st2 b hb
              exact (pin5 b hb o ho).2
          have hsz : s.2.length - i = (s.2.length - (i + 1)) + 1 := by omega
          rw [hsz]
          refine seg_at (seg_yield rfl rfl rfl ⟨i, S, x, y, S2, w5, yv, hx, hto, hat, z5, rpy, ry, rfl, fun s'' w'' hnb' z'' => ?_⟩)
          exact seg_again rfl (ih (i + 1) S2 w'' s'' s'' (by omega) (by omega) (genTo_succ hto hx hat) hnb' z'')
    · rw [if_neg hok] at hat'
      cases hat'
/-! ### the one who asks -/
theorem bare_set {gens : Array GenState} {g : Nat} {x : GenState} (h : AllBare gens) (hx : x.bare = true) : AllBare (gens.setIfInBounds g x) := fun y hy => by
  rcases Array.mem_or_eq_of_mem_setIfInBounds hy with q | q
  · exact h y q
  · rw [q]; exact hx
def GA (G : Gb) (Xg : Cx) (A2 : Around) (a : Addr) (go : Obj) (g : Nat) (fp : List Addr) (tn : Nat → Heap → Prop) (vs : List Nat) (σ : L2.St) (w1 : Wd) (s : Src) (t : Tg) (e : ME) (ρ0 : Env') (S1 : Store) (i : Nat) (S : Store) (w' : Wd) (sh : Shared) : Prop :=
  GZ G Xg a go g fp tn vs σ w1 i S w' sh ∧ ∃ gs, sh.gens[g]? = some gs ∧ ∀ (s'' : Shared) (w'' : Wd), NB s t e ρ0 i S → GZ G Xg a go g fp tn vs σ w1 i S w'' s'' →
    gs.Goes (model Xg.prog Xg.w) A2 (fun n s₀ r s₁ => r = .ok .next ∧ GR' G Xg a go g w1 s t e ρ0 S1 n s₀ s₁) (GY' G Xg a go g fp tn vs σ w1 s t e ρ0 S1) (s.2.length - i) (.send .none) s''
theorem gen_next {Xg : Cx} {A1 : Around} {ρ0 : Env'} {i : Nat} {S : Store} {w' : Wd} {sh : Shared} {E : Value → Shared → Prop} {Q : Option Value → Shared → Prop} (hh : A1.handled = none) (hroom : A1.depth < recursionLimit) (hig : ∀ h : Heap, h.get? a = some go → h.IsGen a g)
    (hi : i ≤ s.2.length) (hto : genTo s t e ρ0 S1 i = some S) (hnb : NB s t e ρ0 i S) (hz : GA G Xg A1.in1 a go g fp tn vs σ w1 s t e ρ0 S1 i S w' sh)
    (h1 : ∀ x y S2 w2 yv v s', s.2[i]? = some x → genAt s t e ρ0 x S = some (y, S2) → GA G Xg A1.in1 a go g fp tn vs σ w1 s t e ρ0 S1 (i + 1) S2 w2 s' → Rep G w2 y yv → RelV yv v → Q (some v) s')
    (h2 : i = s.2.length → ∀ w2 s', GF G Xg a go g w1 S w2 s' → Q none s') : wpAny (model Xg.prog Xg.w) A1 (pyNext (.ref a)) Q E sh := by
  obtain ⟨z, gs, hgs, hgo⟩ := hz
  obtain ⟨σ', hw, I, st, fr, R, x', hgl⟩ := id z
  have pin := (I.pin (a, go) (List.mem_append_right _ (List.mem_singleton.mpr rfl))).1
  have zr : GZ G Xg a go g fp tn vs σ w1 i S w' (sh.setGen g .running) := z.same rfl rfl (bare_set I.bare rfl) (by simpa [Shared.setGen] using hgl)
  refine wpAny_pyNext_genexpQ (P := GR' G Xg a go g w1 s t e ρ0 S1) hh I.nolimit hroom (hig _ pin) hgs (hgo _ w' hnb zr) (fun v s₁ gs' hbare hv => ?_) (fun s₁ hp h' hk => ?_)
  · obtain ⟨i2, S', x, y, S2, w2, yv, hx, hto2, hat, z2, rp, rv, hn, hkap⟩ := hv
    have hi2 : i2 < s.2.length := (List.getElem?_eq_some_iff.mp hx).1
    have hne : i ≠ s.2.length := fun hil => by
      subst hil
      have e2 : i2 + 1 = s.2.length := by omega
      have hS2 : S2 = S := by
        have q := genTo_succ hto2 hx hat
        rw [e2, hto] at q
        exact (Option.some.inj q).symm
      have hk0 : ∀ n, n = 0 → ∀ (f : Nat → Resume → Shared → Prop) (r : Resume) (s'' : Shared), (match n with | 0 => False | m + 1 => f m r s'') → False := fun n hn f r s'' h => by subst hn; exact h
      refine hk0 (s.2.length - s.2.length) (Nat.sub_self _) (fun m r' s'' => gs'.Goes (model Xg.prog Xg.w) A1.in1 (fun n s₀ r s₁ => r = .ok .next ∧ GR' G Xg a go g w1 s t e ρ0 S1 n s₀ s₁) (GY' G Xg a go g fp tn vs σ w1 s t e ρ0 S1) m r' s'') _ _ (hkap s₁ w2 ?_ z2)
      rw [e2, hS2]
      exact hnb
    have ei : i2 = i := by omega
    subst ei
    have eS : S' = S := by rw [hto] at hto2; exact (Option.some.inj hto2).symm
    subst eS
    obtain ⟨_, _, I2, _, _, _, _, hgl2⟩ := id z2
    have z3 : GZ G Xg a go g fp tn vs σ w1 (i2 + 1) S2 w2 (s₁.setGen g gs') := z2.same rfl rfl (bare_set I2.bare hbare) (by simpa [Shared.setGen] using hgl2)
    refine h1 x y S2 w2 yv v _ hx hat ⟨z3, gs', by simp [Shared.setGen, hgl2], fun s'' w'' hnb' z'' => ?_⟩ rp rv
    have q := hkap s'' w'' hnb' z''
    have en : s.2.length - i2 = (s.2.length - (i2 + 1)) + 1 := by omega
    rw [en] at q
    exact q
  · obtain ⟨hn, S', w2, hto2, σ2, I2, R2, x2, hgl2⟩ := hp
    have hil : i = s.2.length := by omega
    subst hil
    have eS : S' = S := by rw [hto] at hto2; exact (Option.some.inj hto2).symm
    subst eS
    have I3 : Inv Xg [(a, go)] σ2 w2.H (s₁.setGen g .finished) := Mx.Inv.same I2 rfl rfl (bare_set I2.bare rfl)
    exact h2 rfl w2 _ ⟨σ2, I3.kept (h' := h') (t' := s₁.toks) hk, R2, x2, by simpa [Shared.setGen] using hgl2⟩
def stAny (c : Unit) (y : D) : Option (Sum Unit D) := match y with
  | .bl true => some (.inr (.bl true))
  | .bl false => some (.inl ())
  | _ => none
def stAll (c : Unit) (y : D) : Option (Sum Unit D) := match y with
  | .bl true => some (.inl ())
  | .bl false => some (.inr (.bl false))
  | _ => none
/-- what the consumer has at its end -/
def GEnd (G : Gb) (Xg : Cx) (a : Addr) (go : Obj) (g : Nat) (w1 : Wd) (Q : VK) (r : Result) (s' : Shared) : Prop := ∃ v u S w2, r = .ok (.ret u) ∧ RelV v u ∧ GF G Xg a go g w1 S w2 s' ∧ Q v w2.H
theorem GZ.toF {Xg : Cx} {i : Nat} {S : Store} {w' : Wd} {sh : Shared} (z : GZ G Xg a go g fp tn vs σ w1 i S w' sh) : GF G Xg a go g w1 S w' sh := by
  obtain ⟨σ', _, I, _, _, R, x, hg⟩ := z
  exact ⟨σ', I, R, x, hg⟩
theorem NB_of {γ : Type} {step : γ → D → Option (Sum γ D)} {fn : γ → D} {i : Nat} {S : Store} {c : γ} {ρ0 : Env'} {Q : VK} {E : XH} (h : PostG G w1 (Rep G) (genL s t e ρ0 step fn (s.2.drop i) c S) Q E) : NB s t e ρ0 i S := by
  unfold NB
  cases hd : s.2.drop i with
  | nil =>
    rw [hd] at h
    rw [List.getElem?_eq_none (List.drop_eq_nil_iff.mp hd)]
    unfold genL at h
    split at h
    · assumption
    · exact h.elim
  | cons x xs =>
    rw [hd] at h
    rw [(drop_at hd).1]
    unfold genL at h
    cases hat : genAt s t e ρ0 x S with
    | none => rw [hat] at h; exact h.elim
    | some p => exact ⟨p.1, p.2, hat⟩
theorem bool_loop {Xg : Cx} {A0 : Around} {ρ0 : Env'} {Q : VK} {E : XH} (b0 : Bool) (nm : String) (stp : Unit → D → Option (Sum Unit D)) (hstp : ∀ y, stp () y = match y with
      | .bl k => if k = b0 then some (.inr (.bl b0)) else some (.inl ())
      | _ => none)
    (hcode : ∀ (R : Result → Shared → Prop) (sh : Shared), wpAny (model Xg.prog Xg.w) A0.in1 (pyNext (.ref a)) (fun r s1 => match r with
        | none => R (.ok (.ret (.bool (!b0)))) s1
        | some v => wpAny (model Xg.prog Xg.w) A0.in1 (truthy v) (fun k s2 => if k = b0 then R (.ok (.ret (.bool b0))) s2 else codeAny (model Xg.prog Xg.w) A0 (.builtin nm ⟨[.ref a], []⟩) R s2) (fun e s' => R (.error e) s') s1) (fun e s' => R (.error e) s') sh →
      codeAny (model Xg.prog Xg.w) A0 (.builtin nm ⟨[.ref a], []⟩) R sh)
    (hh : A0.in1.handled = none) (hroom : A0.in1.depth < recursionLimit) (hig : ∀ h : Heap, h.get? a = some go → h.IsGen a g) :
    ∀ (k i : Nat) (S : Store) (w' : Wd) (sh : Shared), s.2.length - i = k → i ≤ s.2.length → genTo s t e ρ0 S1 i = some S → GA G Xg A0.in1.in1 a go g fp tn vs σ w1 s t e ρ0 S1 i S w' sh →
      PostG G w1 (Rep G) (genL s t e ρ0 stp (fun _ => .bl (!b0)) (s.2.drop i) () S) Q E → codeAny (model Xg.prog Xg.w) A0 (.builtin nm ⟨[.ref a], []⟩) (GEnd G Xg a go g w1 Q) sh := by
  intro k
  induction k with
  | zero =>
    intro i S w' sh hk hi hto hz p
    have hil : i = s.2.length := by omega
    subst hil
    refine hcode _ sh (gen_next hh hroom hig hi hto (NB_of p) hz (fun x y S2 w2 yv v s' hx => ?_) (fun _ w2 s' hf => ?_))
    · rw [List.getElem?_eq_none (Nat.le_refl _)] at hx
      cases hx
    · obtain ⟨σ2, I2, R2, x2, hg2⟩ := id hf
      rw [List.drop_of_length_le (Nat.le_refl _)] at p
      unfold genL at p
      split at p
      · exact ⟨.bl (!b0), .bool (!b0), S, w2, rfl, rfl, hf, p w2 _ x2 R2 rfl⟩
      · exact p.elim
  | succ k ih =>
    intro i S w' sh hk hi hto hz p
    refine hcode _ sh (gen_next hh hroom hig hi hto (NB_of p) hz (fun x y S2 w2 yv v s' hx hat hz2 rp rv => ?_) (fun hil => by omega))
    have hd : s.2.drop i = x :: s.2.drop (i + 1) := by
      rw [List.drop_eq_getElem_cons (by omega)]
      congr 1
      rw [List.getElem?_eq_getElem (by omega)] at hx
      exact Option.some.inj hx
    rw [hd] at p
    unfold genL at p
    rw [hat] at p
    dsimp only at p
    rw [hstp y] at p
    cases y with
    | bl kk =>
      dsimp only at p
      have ev : yv = .bl kk := rp
      subst ev
      have eu : v = .bool kk := rv
      subst eu
      refine wpAny_truthy_bool ?_
      by_cases hkb : kk = b0
      · rw [if_pos hkb]
        rw [if_pos hkb] at p
        obtain ⟨σ2, I2, R2, x2, hg2⟩ := hz2.1.toF
        exact ⟨.bl b0, .bool b0, S2, w2, rfl, rfl, hz2.1.toF, p w2 _ x2 R2 rfl⟩
      · rw [if_neg hkb]
        rw [if_neg hkb] at p
        exact ih (i + 1) S2 w2 s' (by omega) (by omega) (genTo_succ hto hx hat) hz2 p
    | _ => exact p.elim
end
end Mx
set_option Elab.async false
set_option linter.all false
set_option maxRecDepth 100000
set_option maxHeartbeats 2000000
/-! The layer M, part H: any, all of a generator expression. -/
namespace Mx
open PySem PySem.Spec PyProof.Rows L2

theorem ext_tabs {w : Wd} {H' : Hp} (eN : LamX.ExtN w.H H') : Ext w ⟨H', w.N, w.at_⟩ where
  le := Nat.le_refl _
  at_ := fun n hn => rfl
  keep := fun a u e _ ht => eN a u e ht
  tup := fun a xs e => eN a _ e (fun _ z => nomatch z)
  frz := fun a o u e => eN a _ e (fun _ z => nomatch z)
  fresh := fun n h1 h2 => absurd (Nat.lt_of_lt_of_le h2 h1) (Nat.lt_irrefl _)
  dom := fun a u e ht => ⟨u, eN a u e ht, ht⟩
theorem reps_tabs {G : Gb} {w : Wd} {S : Store} {H' : Hp} (R : RepS G w S) (eN : LamX.ExtN w.H H') (t : LamX.Tabs G.T H') : RepS G ⟨H', w.N, w.at_⟩ S where
  len := R.len
  at_ := fun n o e => by
    obtain ⟨u, e1, r⟩ := R.at_ n o e
    exact ⟨u, eN _ u e1 r.notTbl.1, r.mono (ext_tabs eN)⟩
  inj := R.inj
  tabs := t

section
variable {X : Cx} {pins : List (Addr × Obj)} {σ : L2.St} {H : Hp} {s : Shared}
/-- the code object of a generator expression is new, or found in the table -/
theorem gen_code {T : List (Addr × Str)} {c P : Addr} {scope : Scope} {pos : Pos} {E : Value → Shared → Prop} {Q : Value → Shared → Prop} (I : Inv X pins σ H s) (TB : LamX.TabB X.base X.mg c P) (hcode : X.env.code = .ref c)
    (hm : (P, X.env.qual ++ "<genexpr>") ∈ T) (hu : ∀ p ∈ T, p.1 = P → p.2 = X.env.qual ++ "<genexpr>") (hT : LamX.Tabs T H)
    (h : ∀ (code : Value) (H1 : Hp) (s' : Shared), Inv X pins σ H1 s' → LamX.ExtN H H1 → LamX.Tabs T H1 → (∀ b o, b ≠ P → s.heap.get? b = some o → s'.heap.get? b = some o) → (∀ b, s.heap.get? b ≠ none → H b = none → H1 b = none) → H P ≠ none → Q code s') :
    wpAny (model X.prog X.w) X.A (genexprCode X.env pos (X.env.qual ++ "<genexpr>") scope) Q E s := by
  obtain ⟨ps, hP, ht, ha⟩ := hT _ hm
  have hP' : s.heap.get? P = some { cls := .none, data := .fields ps } := I.hok P _ hP
  have cd : PySem.W.CodeHd s.heap c P := TB.code.keeps I.bk
  have hPn : H P ≠ none := by rw [hP]; simp
  cases hc : codeAmong pos ps.toList with
  | none =>
    refine wpAny_genexprCodeX hcode (cd.code hP' ht) (cd.tab hP') hc fun c' h' tk hx hge hlt hco hrec htab _ => ?_
    obtain ⟨c2, oc, vs, t, e2, hoc, hd, hv⟩ := hrec
    cases e2
    have nC : H c' = none := I.hok.fresh hge
    have I1 := LamX.inv_table (t' := tk) (more := #[rawInt pos.line, rawInt pos.col, .ref c']) (h' := h') I hP (fun b o hb e => hx b o hb e) htab.2 hge ⟨oc, vs, t, hoc, hd, hv⟩
    have hE : LamX.ExtN H (upd (upd H P (.tbl (ps ++ #[rawInt pos.line, rawInt pos.col, .ref c']))) c' (LamX.CodeO c' (X.env.qual ++ "<genexpr>"))) := fun b o e n => by
      rw [upd_ne (ne_of_none e nC), upd_ne (fun z => n ps (Option.some.inj (e.symm.trans (by rw [z]; exact hP))))]
      exact e
    have eL : (ps ++ #[rawInt pos.line, rawInt pos.col, .ref c']).toList = ps.toList ++ [rawInt pos.line, rawInt pos.col, .ref c'] := by simp
    refine h (.ref c') _ _ I1 hE (fun p hp => ?_) (fun b o hb e => hx b o hb e) (fun b hb hn => ?_) hPn
    · by_cases hb : p.1 = P
      · rw [hu p hp hb, hb]
        refine ⟨_, by rw [upd_ne (ne_of_none hP nC), upd_same], by rw [eL]; exact PySem.TriplesOk_snoc _ _ _ _ ht, fun p' cv hcv => ?_⟩
        rw [eL] at hcv
        rcases LamX.among_app _ ht hcv with z | z
        · obtain ⟨c0, e1, e2⟩ := ha p' cv z
          exact ⟨c0, e1, hE _ _ e2 LamX.codeO_ne⟩
        · exact ⟨c', z, upd_same⟩
      · obtain ⟨ps', a1, a2, a3⟩ := hT p hp
        refine ⟨ps', by rw [upd_ne (ne_of_none a1 nC), upd_ne hb]; exact a1, a2, fun p' cv hcv => ?_⟩
        obtain ⟨c0, e1, e2⟩ := a3 p' cv hcv
        exact ⟨c0, e1, hE _ _ e2 LamX.codeO_ne⟩
    · have n1 : b ≠ c' := fun z => by
        subst z
        exact hb (Heap.get?_none_of_le hge)
      have n2 : b ≠ P := fun z => hPn (by rw [← z]; exact hn)
      rw [upd_ne n1, upd_ne n2]
      exact hn
  | some cv =>
    refine wpAny_genexprCode_hit hcode (cd.code hP' ht) hc ?_
    exact h cv H s I (LamX.ExtN.refl H) hT (fun b o _ e => e) (fun b _ e => e) hPn
theorem gen_blt {c P : Addr} {E : Value → Shared → Prop} {Q : Addr → Shared → Prop} {A : Around} (I : Inv X pins σ H s) (TB : LamX.TabB X.base X.mg c P) (hn : ∀ b o, X.base.get? b = some o → s.heap.get? b = some o) (h : Q builtinsNs s) :
    wpAny (model X.prog X.w) A (builtinsFor X.env.globals X.env.builtins) Q E s := by
  obtain ⟨bm, ob, e1, e2, e3, e4, e5, e6, e7, e8⟩ := TB.bm
  exact wpAny_builtinsFor (m := X.mg) (by rw [I.ok.glob]; exact I.mod.glob.keeps hn) e1 e2 (hn _ _ e5) e6 e7 e8 h
end
/-! ### the generator is made -/
def stB (b0 : Bool) (c : Unit) (y : D) : Option (Sum Unit D) := match y with
  | .bl k => if k = b0 then some (.inr (.bl b0)) else some (.inl ())
  | _ => none
def mAnyG (b0 : Bool) (mi : MI) (t : Tg) (vs : List Nat) (me : ME) : ME := fun ρ S => (mi ρ S).bind fun s S1 => genL s t me (wipeM ρ vs) (stB b0) (fun _ => .bl (!b0)) s.2 () S1
section
variable {G : Gb} {X : Cx} {W : WX} {pins : List (Addr × Obj)} {σ : L2.St} {H : Hp} {s : Shared}
/-- what the consumer gets -/
def Made (G : Gb) (X : Cx) (pins : List (Addr × Obj)) (σ : L2.St) (vs : List Nat) (t : Tg) (me : ME) (ρ : Env') (w1 : Wd) (sr : Src) (S1 : Store) (a : Addr) (s5 : Shared) : Prop :=
  ∃ (Xg : Cx) (go : Obj) (g : Nat) (fp : List Addr) (tn : Nat → Heap → Prop), Xg.prog = X.prog ∧ Xg.w = X.w ∧ (∀ h : Heap, h.get? a = some go → h.IsGen a g) ∧
    GA G Xg X.A.in1.in1 a go g fp tn vs σ w1 sr t me (wipeM ρ vs) S1 0 S1 w1 s5 ∧ s5.heap.get? a = some go ∧
    ∀ S2 w2 sF, GF G Xg a go g w1 S2 w2 sF → Inv X pins σ w2.H sF
theorem gen_mk {mi : MI} {t : Tg} {me : ME} {ρ : Env'} {S : Store} {w : Wd} {k : Nat} {c P : Addr} {tg iter elt : Expr} {scope : Scope} {own : List (Str × Nat)} {gpos : Pos} {Q' : Value → Shared → Prop} {Z : Wd → Src → Store → Prop}
    (hK : X.K = G.K) (hr : Room (k + 3) X.A) (hN : X.N.Nodup) (TB : LamX.TabB X.base X.mg c P) (hcode : X.env.code = .ref c)
    (hm : (P, X.env.qual ++ "<genexpr>") ∈ G.T) (hu : ∀ p ∈ G.T, p.1 = P → p.2 = X.env.qual ++ "<genexpr>") (hi : SI G X W tg iter mi) (ok : GenOk X.N X.env.scope scope own) (hts : ∀ i ∈ t.slots, i ∈ own.map (·.2))
    (hg : ∀ (s : Shared) (H : Hp) (C : Addr) (code : Value) (fp : List Addr), PG (genCx X (X.A.in1.in1.deeper (gEnv X scope C code)) s H scope C code fp) tg (gT X.K t))
    (he : ∀ (s : Shared) (H : Hp) (C : Addr) (code : Value) (fp : List Addr), Room (k + 2) (X.A.in1.in1.deeper (gEnv X scope C code)) → SE G (genCx X (X.A.in1.in1.deeper (gEnv X scope C code)) s H scope C code fp) W0 elt me)
    (hs : ∀ x, genFold iter X.env x = pure x) (I : Inv X pins σ w.H s) (rE : RepE G w ρ σ) (rS : RepS G w S)
    (h : ∀ (R : It → Hp → Prop), (∀ w1 sr J S1, Ext w w1 → RepS G w1 S1 → RI G w1 sr J → Z w1 sr S1 → R J w1.H) → PostG G w (RI G) (mi ρ S) R (fun c d H' => W c d σ H'))
    (hZ : ∀ w1 w2 sr S1, Ext w1 w2 → Z w1 sr S1 → Z w2 sr S1)
    (hQ : ∀ w1 sr S1 a s5, Z w1 sr S1 → Made G X pins σ (own.map (·.2)) t me ρ w1 sr S1 a s5 → Q' (.ref a) s5) :
    wpAny (model X.prog X.w) X.A (eval (.GeneratorExp elt [⟨tg, iter, [], 0⟩] scope gpos) X.env) Q' X.xe s := by
  have hfree : ∀ y ∈ scope.names, y.2 = .free → ∃ c, X.env.cells.lookup y.1 = some c := fun y hy e => by
    rcases ok.free y hy e with k | k
    · exact I.ok.has _ (.inl k)
    · exact I.ok.has _ (.inr k)
  refine wpAny_GeneratorExp_make ok.co (closure_ok hfree) ok.nocell ok.dot ok.kind hr.depth ?_ hs
  refine wpAny_mono (hi.run pins s σ w.H (fun J H1 => ∃ w1 sr S1, w1.H = H1 ∧ Ext w w1 ∧ RepS G w1 S1 ∧ RI G w1 sr J ∧ Z w1 sr S1) I ⟨w, ρ, S, rfl, rE, rS, h _ fun w1 sr J S1 x r q z => ⟨w1, sr, S1, rfl, x, r, q, z⟩⟩) (fun xv s1 h1 => ?_) fun _ _ e => e
  refine wpAny_mono h1 (fun it s2 h2 => ?_) fun _ _ e => e
  obtain ⟨I0, fp, tn, J, H', rfl, I2, T, st, hfp, w1, sr, S1, rfl, x1, r1, q1, z1⟩ := h2
  refine ⟨I2.nolimit, gen_code I2 TB hcode hm hu r1.tabs fun code H3 s3 I3 eN t3 kp hn3 hPn => ?_⟩
  refine gen_blt I3 TB I3.bk ?_
  intro h' hns hsb
  have x3 : Ext w1 ⟨H3, w1.N, w1.at_⟩ := ext_tabs eN
  have r3 := reps_tabs r1 eN t3
  have hfpP : ∀ b ∈ fp, b ≠ P := fun b hb z => hPn (by rw [← z]; exact (hfp b hb).1)
  have keep' : ∀ b o, s3.heap.get? b = some o → h'.get? b = some o := fun b o e => hsb.extBut b o (Nat.ne_of_lt (Heap.lt_size e)) (Heap.get?_push_of_some _ e)
  have hsz : h'.objs.size = s3.heap.objs.size + 1 := by rw [hsb.1, Heap.size_push]
  have objfp : ∀ b ∈ fp, ∃ o, s2.heap.get? b = some o ∧ s3.heap.get? b = some o := fun b hb => by
    obtain ⟨o, ho, _⟩ := T.obj 0 s2.heap st b hb
    exact ⟨o, ho, kp b o (hfpP b hb) ho⟩
  have hfp3 : ∀ b ∈ fp, FpOk X pins H3 b ∧ b < s3.heap.objs.size := fun b hb => by
    obtain ⟨o, ho, ho3⟩ := objfp b hb
    have f := hfp b hb
    exact ⟨⟨hn3 b (by rw [ho]; simp) f.1, f.2⟩, Heap.lt_size ho3⟩
  have rm : X.A.in1.in1.depth + 1 < recursionLimit := by have := hr.dp; show X.A.depth + 1 < _; omega
  have fr : (X.A.in1.in1.deeper (gEnv X scope s3.heap.objs.size code)).frames = some (gEnv X scope s3.heap.objs.size code :: X.stack) := Around.frames_deeper (A := X.A.in1.in1) (outer := X.stack) I3.ok.frames
  have keep5 : ∀ (ob : Obj) b o, s3.heap.get? b = some o → (h'.push ob).get? b = some o := fun ob b o e => Heap.get?_push_of_some _ (keep' b o e)
  have IG := gen_start (A := X.A.in1.in1.deeper (gEnv X scope s3.heap.objs.size code)) (tk := s3.toks + 1 + 1 + 1) (h' := h'.push { cls := .type "generator", data := .fields #[.int s3.gens.size 0, .str "<genexpr>" (s3.toks + 1), .str (X.env.qual ++ "<genexpr>") (s3.toks + 1 + 1)] })
    (g' := s3.gens.push (.fresh (.compStart (.GeneratorExp elt [⟨tg, iter, [], 0⟩] scope gpos) 0 (.ref I0) .none (gEnv X scope s3.heap.objs.size code))))
    I3 hN ok fr hr.hd hfp3 (hns.push _) (keep5 _) (I3.bare.push rfl)
  refine hQ ⟨H3, w1.N, w1.at_⟩ sr S1 h'.objs.size _ (hZ _ _ _ _ x3 z1) ⟨genCx X (X.A.in1.in1.deeper (gEnv X scope s3.heap.objs.size code)) s3 H3 scope s3.heap.objs.size code fp, { cls := .type "generator", data := .fields #[.int s3.gens.size 0, .str "<genexpr>" (s3.toks + 1), .str (X.env.qual ++ "<genexpr>") (s3.toks + 1 + 1)] }, s3.gens.size, fp, tn, rfl, rfl, fun h hh => ⟨_, _, _, hh, rfl, rfl, rfl⟩, ?_, Heap.get?_push_size _ rfl, ?_⟩
  rotate_left
  · intro S2 w2 sF hf
    obtain ⟨σ', IF, RF, xF, _⟩ := hf
    exact I3.call' (s' := sF) (ch := fp) IF.os IF.base IF.hok IF.bare fun b hb => ⟨(hfp3 b hb).1.2.2.2.1, (hfp3 b hb).1.2.1, (hfp3 b hb).1.2.2.2.2.1, (hfp3 b hb).1.2.2.2.2.2⟩
  have hCa : h'.objs.size ≠ s3.heap.objs.size := by rw [hsz]; exact Nat.succ_ne_self _
  have hle : s3.heap.objs.size ≤ h'.objs.size := by rw [hsz]; exact Nat.le_succ _
  have nofr : h'.objs.size ∉ frs X.stack := fun z => by
    rcases List.mem_cons.mp (I3.stkSub _ z) with e | e
    · have h1 := I3.lt
      rw [← e] at h1
      exact Nat.lt_irrefl _ (Nat.lt_of_lt_of_le h1 hle)
    · exact I3.nofs hle e
  have tn5 : tn 0 (h'.push { cls := .type "generator", data := .fields #[.int s3.gens.size 0, .str "<genexpr>" (s3.toks + 1), .str (X.env.qual ++ "<genexpr>") (s3.toks + 1 + 1)] }) := T.keep 0 _ _ st fun b hb o ho => keep5 _ b o (kp b o (hfpP b hb) ho)
  refine ⟨⟨wipe σ (own.map (·.2)), wipe_wipe, IG.pins_of fun p hp => ?_, tn5, fun b hb => (hfp3 b hb).1.1, r3, Ext.refl _, ?_⟩, _, Array.getElem?_push_size .., fun s'' w'' hnb hz => ⟨rfl, ?_⟩⟩
  · rw [List.mem_singleton.mp hp]
    exact ⟨Heap.get?_push_size _ rfl, I3.hok.fresh hle, hCa, nofr, fun v z => nomatch z⟩
  · show s3.gens.size < (s3.gens.push _).size
    rw [Array.size_push]
    exact Nat.lt_succ_self _
  have loop := gen_loop (X := X) (A2 := X.A.in1.in1) (sA := s3) (HA := H3) (scope := scope) (C := s3.heap.objs.size) (a := h'.objs.size) (g := s3.gens.size) (code := code) (fp := fp) (iter := iter) (pos := gpos) ok.co hr.hd hK T (fun w' S' x' r' => q1 w' S' (x3.r.trans x') r') hts (rE.mono (x1.trans x3)) (fun b hb z => absurd (Nat.lt_of_lt_of_le (hfp3 b hb).2 hle) (by rw [z]; exact Nat.lt_irrefl _)) (go := { cls := .type "generator", data := .fields #[.int s3.gens.size 0, .str "<genexpr>" (s3.toks + 1), .str (X.env.qual ++ "<genexpr>") (s3.toks + 1 + 1)] }) (fun v z => nomatch (show Data.fields _ = Data.cell v from z))
    (hg s3 H3 s3.heap.objs.size code fp) (he s3 H3 s3.heap.objs.size code fp ⟨hr.hd, by have := hr.dp; show X.A.depth + 1 + 3 * (k + 2) + 5 < _; omega, by have := hr.un; show X.A.units + 1 + 1 + 3 + 16 * (k + 2) + 200 < _; omega⟩) sr.2.length 0 S1 w'' s'' s'' (Nat.sub_zero _) (Nat.zero_le _) rfl hnb hz
  · show Seg _ X.A.in1.in1 _ _ _ s'' _ ((compStart (.GeneratorExp elt [⟨tg, iter, [], 0⟩] scope gpos) 0 (.ref I0) .none (gEnv X scope s3.heap.objs.size code)).onRaise (leaving (gEnv X scope s3.heap.objs.size code))) [] s''
    unfold compStart
    rw [Sem.onRaise_eq_wrap]
    show Seg _ X.A.in1.in1 _ _ _ s'' _ ((ask >>= _).wrap _ _ _ _) [] s''
    refine seg_bind_wrap (wpAny_askSetting ?_)
    split
    · exact seg_again rfl loop
    · obtain ⟨_, _, _, tn'', _⟩ := hz
      first
      | exact seg_bind_wrap (wpAny_rule (seg_bind_wrap (wpAny_standAt (seg_bind_wrap (T.self _ 0 s'' _ _ tn'' (seg_again rfl loop))))))
      | (refine seg_bind_wrap (wpAny_rule ?_); show Seg _ X.A.in1.in1 _ _ _ s'' _ ((standAt iter.pos >>= _).wrap _ _ _ _) [] s''; exact seg_bind_wrap (wpAny_standAt (seg_bind_wrap (T.self _ 0 s'' _ _ tn'' (seg_again rfl loop)))))

theorem any_code {P : Program} {w : World} {A0 : Around} {a : Addr} (R : Result → Shared → Prop) (sh : Shared)
    (h : wpAny (model P w) A0.in1 (pyNext (.ref a)) (fun r s1 => match r with
        | none => R (.ok (.ret (.bool (!true)))) s1
        | some v => wpAny (model P w) A0.in1 (truthy v) (fun k s2 => if k = true then R (.ok (.ret (.bool true))) s2 else codeAny (model P w) A0 (.builtin "any.loop" ⟨[.ref a], []⟩) R s2) (fun e s' => R (.error e) s') s1) (fun e s' => R (.error e) s') sh) :
    codeAny (model P w) A0 (.builtin "any.loop" ⟨[.ref a], []⟩) R sh := by
  refine codeAny_builtin F.entry_any_loop ?_
  rw [Around.under_plainId F.plain_any_loop _]
  show wpAny _ A0.in1 (pyNext (.ref a) >>= _) _ _ sh
  refine wpAny_bind (wpAny_mono h (fun r s1 h1 => ?_) fun _ _ e => e)
  cases r with
  | none => exact wpAny_bind (wpAny_rule (wpAny_pure h1))
  | some v =>
    refine wpAny_bind (wpAny_holding (wpAny_mono h1 (fun k s2 h2 => ?_) fun _ _ e => e))
    refine wpAny_bind (wpAny_letGo ?_)
    cases k with
    | true =>
      simp only [if_true]
      exact wpAny_bind (wpAny_rule (wpAny_pure h2))
    | false =>
      simp only [Bool.false_eq_true, if_false]
      exact wpAny_pure ⟨plainId_quiet F.plain_any_loop _, h2⟩
theorem se_any {mi : MI} {t : Tg} {me : ME} {k : Nat} {c P : Addr} {tg iter elt : Expr} {scope : Scope} {own : List (Str × Nat)} {gpos p pos : Pos}
    (hK : X.K = G.K) (hr : Room (k + 3) X.A) (hN : X.N.Nodup) (hgl : Gl X "any") (hmg : X.mg "any" = none) (TB : LamX.TabB X.base X.mg c P) (hcode : X.env.code = .ref c)
    (hm : (P, X.env.qual ++ "<genexpr>") ∈ G.T) (hu : ∀ p ∈ G.T, p.1 = P → p.2 = X.env.qual ++ "<genexpr>") (hi : SI G X W tg iter mi) (ok : GenOk X.N X.env.scope scope own) (hts : ∀ i ∈ t.slots, i ∈ own.map (fun q : Str × Nat => q.2))
    (hg : ∀ (s : Shared) (H : Hp) (C : Addr) (code : Value) (fp : List Addr), PG (genCx X (X.A.in1.in1.deeper (gEnv X scope C code)) s H scope C code fp) tg (gT X.K t))
    (he : ∀ (s : Shared) (H : Hp) (C : Addr) (code : Value) (fp : List Addr), Room (k + 2) (X.A.in1.in1.deeper (gEnv X scope C code)) → SE G (genCx X (X.A.in1.in1.deeper (gEnv X scope C code)) s H scope C code fp) W0 elt me)
    (hs : ∀ x, genFold iter X.env x = pure x := by intro _; rfl)
    (hst : starEach [.GeneratorExp elt [⟨tg, iter, [], 0⟩] scope gpos] X.env = (false, eval (.GeneratorExp elt [⟨tg, iter, [], 0⟩] scope gpos) X.env) :: starEach [] X.env := by rfl) :
    SE G X W (.Call (.Name "any" p) [.GeneratorExp elt [⟨tg, iter, [], 0⟩] scope gpos] [] pos) (mAnyG true mi t (own.map (fun q : Str × Nat => q.2)) me) := by
  refine ⟨fun pins s σ H Q I h => ?_⟩
  obtain ⟨w, ρ, S, rfl, rE, rS, p0⟩ := h
  refine wpAny_Call_Name_kw (ld_blt I hgl hmg boot_any ?_)
  refine PyProof.Rows.callWith_builtin1 ?_ hst (by rfl)
  rw [hst]
  show wpAny _ _ (spliced ((false, eval (.GeneratorExp elt [⟨tg, iter, [], 0⟩] scope gpos) X.env) :: backTo pos (starEach [] X.env))) _ _ s
  refine Calls.spliced_cons (gen_mk (Z := fun w1 sr S1 => PostG G w1 (Rep G) (genL sr t me (wipeM ρ (own.map (fun q : Str × Nat => q.2))) (stB true) (fun _ => .bl (!true)) sr.2 () S1) Q (fun c d H' => W c d σ H')) hK hr hN TB hcode hm hu hi ok hts hg he hs I rE rS (fun R hR => ?_) (fun w1 w2 sr S1 x z => PostG.ext x z) fun w1 sr S1 a s5 z hM => ?_)
  · exact PostG.seq p0 fun w1 sr J S1 _ x1 r1 q1 p1 => hR w1 sr J S1 x1 r1 q1 p1
  refine Calls.spliced_nil ?_
  obtain ⟨Xg, go, g, fp, tn, eP, ew, hig, hGA, hgo, hback⟩ := hM
  refine call_function_tree F.kind_any F.plain_any F.entry_any (F.args_any1 _) ?_
  unfold Builtin.«any»
  refine wpAny_bind (m := oneArg "any" _) (wpAny_pure ?_)
  refine wpAny_bind (wpAny_pyIter_gen (hig _ hgo) ?_)
  refine wpAny_pure ⟨plainId_quiet F.plain_any_loop _, ?_⟩
  have L := bool_loop (G := G) (Xg := Xg) (A0 := X.A) (go := go) (g := g) (a := a) (fp := fp) (tn := tn) (s := sr) (t := t) (e := me) (vs := own.map (fun q : Str × Nat => q.2)) (σ := σ) (w1 := w1) (S1 := S1) (ρ0 := wipeM ρ (own.map (fun q : Str × Nat => q.2))) (Q := Q) true "any.loop" (stB true) (fun y => by cases y <;> rfl)
    (fun R sh h => by rw [eP, ew] at h ⊢; exact any_code R sh h) hr.hd hr.depth hig sr.2.length 0 S1 w1 s5 (Nat.sub_zero _) (Nat.zero_le _) rfl hGA z
  rw [eP, ew] at L
  refine codeAny_mono L fun r s' hq => ?_
  obtain ⟨v, u, S2, w2, rfl, rv, hf, hq⟩ := hq
  exact ⟨v, w2.H, hback S2 w2 s' hf, rv, hq⟩

theorem all_code {P : Program} {w : World} {A0 : Around} {a : Addr} (R : Result → Shared → Prop) (sh : Shared)
    (h : wpAny (model P w) A0.in1 (pyNext (.ref a)) (fun r s1 => match r with
        | none => R (.ok (.ret (.bool (!false)))) s1
        | some v => wpAny (model P w) A0.in1 (truthy v) (fun k s2 => if k = false then R (.ok (.ret (.bool false))) s2 else codeAny (model P w) A0 (.builtin "all.loop" ⟨[.ref a], []⟩) R s2) (fun e s' => R (.error e) s') s1) (fun e s' => R (.error e) s') sh) :
    codeAny (model P w) A0 (.builtin "all.loop" ⟨[.ref a], []⟩) R sh := by
  refine codeAny_builtin F.entry_all_loop ?_
  rw [Around.under_plainId F.plain_all_loop _]
  show wpAny _ A0.in1 (pyNext (.ref a) >>= _) _ _ sh
  refine wpAny_bind (wpAny_mono h (fun r s1 h1 => ?_) fun _ _ e => e)
  cases r with
  | none => exact wpAny_bind (wpAny_rule (wpAny_pure h1))
  | some v =>
    refine wpAny_bind (wpAny_holding (wpAny_mono h1 (fun k s2 h2 => ?_) fun _ _ e => e))
    refine wpAny_bind (wpAny_letGo ?_)
    cases k with
    | false =>
      simp only [if_true, Bool.false_eq_true, if_false]
      exact wpAny_bind (wpAny_rule (wpAny_pure h2))
    | true =>
      simp only [if_true]
      exact wpAny_pure ⟨plainId_quiet F.plain_all_loop _, h2⟩
theorem se_all {mi : MI} {t : Tg} {me : ME} {k : Nat} {c P : Addr} {tg iter elt : Expr} {scope : Scope} {own : List (Str × Nat)} {gpos p pos : Pos}
    (hK : X.K = G.K) (hr : Room (k + 3) X.A) (hN : X.N.Nodup) (hgl : Gl X "all") (hmg : X.mg "all" = none) (TB : LamX.TabB X.base X.mg c P) (hcode : X.env.code = .ref c)
    (hm : (P, X.env.qual ++ "<genexpr>") ∈ G.T) (hu : ∀ p ∈ G.T, p.1 = P → p.2 = X.env.qual ++ "<genexpr>") (hi : SI G X W tg iter mi) (ok : GenOk X.N X.env.scope scope own) (hts : ∀ i ∈ t.slots, i ∈ own.map (fun q : Str × Nat => q.2))
    (hg : ∀ (s : Shared) (H : Hp) (C : Addr) (code : Value) (fp : List Addr), PG (genCx X (X.A.in1.in1.deeper (gEnv X scope C code)) s H scope C code fp) tg (gT X.K t))
    (he : ∀ (s : Shared) (H : Hp) (C : Addr) (code : Value) (fp : List Addr), Room (k + 2) (X.A.in1.in1.deeper (gEnv X scope C code)) → SE G (genCx X (X.A.in1.in1.deeper (gEnv X scope C code)) s H scope C code fp) W0 elt me)
    (hs : ∀ x, genFold iter X.env x = pure x := by intro _; rfl)
    (hst : starEach [.GeneratorExp elt [⟨tg, iter, [], 0⟩] scope gpos] X.env = (false, eval (.GeneratorExp elt [⟨tg, iter, [], 0⟩] scope gpos) X.env) :: starEach [] X.env := by rfl) :
    SE G X W (.Call (.Name "all" p) [.GeneratorExp elt [⟨tg, iter, [], 0⟩] scope gpos] [] pos) (mAnyG false mi t (own.map (fun q : Str × Nat => q.2)) me) := by
  refine ⟨fun pins s σ H Q I h => ?_⟩
  obtain ⟨w, ρ, S, rfl, rE, rS, p0⟩ := h
  refine wpAny_Call_Name_kw (ld_blt I hgl hmg (by rfl) ?_)
  refine PyProof.Rows.callWith_builtin1 ?_ hst (by rfl)
  rw [hst]
  show wpAny _ _ (spliced ((false, eval (.GeneratorExp elt [⟨tg, iter, [], 0⟩] scope gpos) X.env) :: backTo pos (starEach [] X.env))) _ _ s
  refine Calls.spliced_cons (gen_mk (Z := fun w1 sr S1 => PostG G w1 (Rep G) (genL sr t me (wipeM ρ (own.map (fun q : Str × Nat => q.2))) (stB false) (fun _ => .bl (!false)) sr.2 () S1) Q (fun c d H' => W c d σ H')) hK hr hN TB hcode hm hu hi ok hts hg he hs I rE rS (fun R hR => ?_) (fun w1 w2 sr S1 x z => PostG.ext x z) fun w1 sr S1 a s5 z hM => ?_)
  · exact PostG.seq p0 fun w1 sr J S1 _ x1 r1 q1 p1 => hR w1 sr J S1 x1 r1 q1 p1
  refine Calls.spliced_nil ?_
  obtain ⟨Xg, go, g, fp, tn, eP, ew, hig, hGA, hgo, hback⟩ := hM
  refine call_function_tree F.kind_all F.plain_all F.entry_all (F.args_all1 _) ?_
  unfold Builtin.«all»
  refine wpAny_bind (m := oneArg "all" _) (wpAny_pure ?_)
  refine wpAny_bind (wpAny_pyIter_gen (hig _ hgo) ?_)
  refine wpAny_pure ⟨plainId_quiet F.plain_all_loop _, ?_⟩
  have L := bool_loop (G := G) (Xg := Xg) (A0 := X.A) (go := go) (g := g) (a := a) (fp := fp) (tn := tn) (s := sr) (t := t) (e := me) (vs := own.map (fun q : Str × Nat => q.2)) (σ := σ) (w1 := w1) (S1 := S1) (ρ0 := wipeM ρ (own.map (fun q : Str × Nat => q.2))) (Q := Q) false "all.loop" (stB false) (fun y => by cases y <;> rfl)
    (fun R sh h => by rw [eP, ew] at h ⊢; exact all_code R sh h) hr.hd hr.depth hig sr.2.length 0 S1 w1 s5 (Nat.sub_zero _) (Nat.zero_le _) rfl hGA z
  rw [eP, ew] at L
  refine codeAny_mono L fun r s' hq => ?_
  obtain ⟨v, u, S2, w2, rfl, rv, hf, hq⟩ := hq
  exact ⟨v, w2.H, hback S2 w2 s' hf, rv, hq⟩
end
end Mx
set_option Elab.async false
set_option linter.all false
set_option maxRecDepth 100000
set_option maxHeartbeats 2000000
/-! The layer M, part I: a lambda handed to a def that tells its refusal. -/
namespace Mx
open PySem PySem.Spec PyProof.Rows L2

abbrev HRow := Str × Addr × Str
inductive HRows (G : Gb) (mg : Str → Option Value) (sg : Scope) : List ExceptHandler → List HRow → Prop
  | nil : HRows G mg sg [] []
  | cons {e cn ret : Str} {C : Addr} {j : Nat} {np p5 p6 p7 : Pos} {hds : List ExceptHandler} {l : List HRow} (hge : sg.names.lookup e = some .globalImplicit) (hme : mg e = some (.ref C)) (hC : G.cA cn = some C) (r : HRows G mg sg hds l)
      (hde : (e == ("__debug__" : Str)) = false := by decide) :
      HRows G mg sg (.ExceptHandler (some (.Name e np)) none [.Return (some (.Constant (.str ret) j p5)) p6] p7 :: hds) ((cn, C, ret) :: l)
def tellS (K : PySem.W.Frag) (Q : VK) : List HRow → Value → Hp → Prop
  | [], _, _ => False
  | (_, C, ret) :: r, cls, H => ∃ b, PySem.W.exmOne K cls (.ref C) = some b ∧ (b = true → Q (.str ret) H) ∧ (b = false → tellS K Q r cls H)
def tellM (l : List HRow) : List (Value × (Addr → Value → Option Addr → TS)) := l.map fun r => (.ref r.2.1, fun _ _ _ D _ H => D.rt (.str r.2.2) H)
theorem tell_many {K : PySem.W.Frag} {Q : VK} {D : Ends} (hD : D.rt = Q) : ∀ {l : List HRow} {cls : Value} {d : Option Addr} {σ : L2.St} {H : Hp}, tellS K Q l cls H → wMany K (fun _ _ _ _ => False) D (tellM l) cls d σ H
  | [], _, _, _, _, h => h
  | (cn, C, ret) :: r, cls, d, σ, H, h => by
    obtain ⟨b, h1, h2, h3⟩ := h
    exact ⟨b, h1, fun e a _ => by show D.rt (.str ret) H; rw [hD]; exact h2 e, fun e => tell_many hD (h3 e)⟩
def TTm (K : PySem.W.Frag) (l : List HRow) : (XK → Hp → VK → Prop) → Hp → VK → Prop := fun tl H Q => tl (fun cls _ H' => tellS K Q l cls H') H Q
section
variable {G : Gb} {X : Cx}
theorem hds_ok {Xn : Cx} {sg : Scope} (hs : Xn.env.scope = sg) : ∀ {hds : List ExceptHandler} {l : List HRow}, HRows G Xn.mg sg hds l → HdsOk Xn hds (tellM l)
  | _, _, .nil => .nil
  | _, _, .cons hge hme hC r hde => .cons ⟨by show Xn.env.scope.names.lookup _ = _; rw [hs]; exact hge, hde, .inl hme⟩ (fun a oe cls d pn _ _ => pss_one (ps_ret pe_str)) (hds_ok hs r)
theorem told_gives {Ng : List Str} {x a q : Str} {sg : Scope} {g : Addr} {cdg : Value} {p1 p2 p3 p8 : Pos} {h0 : ExceptHandler} {hds : List ExceptHandler} {l : List HRow} (hr : HRows G X.mg sg (h0 :: hds) l) (hst : ∀ f : Addr, (L2.start Ng [V.ref f])[0]? = some (some (V.ref f))) :
    LamX.GivesTo X Ng x sg g cdg [.Try [.Return (some (.Call (.Name a p1) [] [] p2)) p3] (h0 :: hds) [] [] p8] a q (TTm X.K l) := by
  intro f c' s H Q tl act hc h
  refine ⟨_, pss_one (ps_try_many (X := (cxOf C8.CX0 X.prog X.w X.K X.mg X.base Ng x sg g cdg X.A X.stack s H C8.E0).nox)
      (tb := fun W D σ H => ∃ Ech : XK, (∀ cls d σ' H', Ech cls d H' → W cls d σ' H') ∧ σ[0]? = some (some (.ref f)) ∧ H c' = some (LamX.CodeO c' q) ∧ tl Ech H D.rt)
      rfl rfl takes_none5 (fun W pn xe tk _ => ?_) (hds_ok (G := G) (sg := sg) rfl hr)), ?_⟩
  · refine ⟨fun pins s' σ H' D I h' => ?_⟩
    obtain ⟨Ech, hW, h1, h2, h3⟩ := h'
    have hp := act W pn xe Ech p1 p2 tk hW
    have hq := pss_one (ps_ret (pos := p3) hp)
    exact hq.run pins s' σ H' D I ⟨h1, h2, h3⟩
  · exact ⟨fun cls _ H' => tellS X.K Q l cls H', fun cls d σ' H' hh => tell_many (by rfl) hh, hst f, hc, h⟩
/-- what was caught is told -/
def mTold (l : List HRow) (m : ME) : ME := fun ρ S => match m ρ S with
  | .ok d S1 => .ok d S1
  | .exc x S1 => match l.lookup x.cls with
    | some r => .ok (.str r.2) S1
    | none => .bad
  | .bad => .bad
theorem tell_of {K : PySem.W.Frag} {Q : VK} {cn ret : Str} {C C0 : Addr} {H : Hp} : ∀ {l : List HRow}, (∀ r ∈ l, PySem.W.exmOne K (.ref C) (.ref r.2.1) = some (decide (cn = r.1))) → l.lookup cn = some (C0, ret) → Q (.str ret) H → tellS K Q l (.ref C) H
  | [], _, h, _ => by cases h
  | (c1, C1, ret1) :: r, hx, h, q => by
    refine ⟨_, hx _ List.mem_cons_self, fun e => ?_, fun e => ?_⟩
    · have e' := of_decide_eq_true e
      have e2 : cn = c1 := e'
      rw [e2, List.lookup_cons_self] at h
      cases h
      exact q
    · have e' := of_decide_eq_false e
      have e2 : ¬ cn = c1 := e'
      rw [List.lookup_cons, show (cn == c1) = false from by simpa using e2] at h
      exact tell_of (fun r hr => hx r (List.mem_cons_of_mem _ hr)) h q
theorem lookup_mem {l : List HRow} {cn : Str} {v : Addr × Str} (h : l.lookup cn = some v) : (cn, v) ∈ l := PySem.mem_of_lookup h
theorem hrows_cA {mg : Str → Option Value} {sg : Scope} : ∀ {hds : List ExceptHandler} {l : List HRow}, HRows G mg sg hds l → ∀ r ∈ l, G.cA r.1 = some r.2.1
  | _, _, .nil, r, h => by cases h
  | _, _, .cons _ _ hC r' _, r, h => by
    rcases List.mem_cons.mp h with e | e
    · subst e; exact hC
    · exact hrows_cA r' r e
theorem se_told {W : WX} {x a : Str} {g c P : Addr} {k : Nat} {pg : Arguments} {sg : Scope} {dV kV doc pm cdv ct oc : Value} {an od : Option Addr} {osl : Array (Option Value)} {Ng : List Str} {h0 : ExceptHandler} {hds : List ExceptHandler} {l : List HRow} {p1 p2 p3 p8 : Pos}
    {params : Arguments} {body : Expr} {scope : Scope} {me : ME} {p lpos pos : Pos} (hg : Gl X x) (hm : X.mg x = some (.ref g)) (hk : PySem.W.keepIn X.K (.ref g) = true)
    (lk : X.K.lookup g = some ⟨oc, od, .func (PySem.W.fnOf x x pg [.Try [.Return (some (.Call (.Name a p1) [] [] p2)) p3] (h0 :: hds) [] [] p8] sg dV kV doc pm an cdv ct), osl⟩) (hcg : PySem.W.codeIn X.K cdv x = true)
    (hb : L2.Binds X.K (PySem.W.fnOf x x pg [.Try [.Return (some (.Call (.Name a p1) [] [] p2)) p3] (h0 :: hds) [] [] p8] sg dV kV doc pm an cdv ct) [a] []) (Sg : FnScope Ng [a] sg) (hNg : Ng[0]? = some a) (hva : Vis sg a)
    (hr : HRows G X.mg sg (h0 :: hds) l) (hx : ∀ r ∈ l, ∀ r' ∈ l, PySem.W.exmOne X.K (.ref r.2.1) (.ref r'.2.1) = some (decide (r.1 = r'.1)))
    (TB : LamX.TabB X.base X.mg c P) (hcode : X.env.code = .ref c) (hmT : (P, X.env.qual ++ "<lambda>") ∈ G.T) (hu : ∀ p ∈ G.T, p.1 = P → p.2 = X.env.qual ++ "<lambda>") (hro : Room (k + 2) X.A) (L : LamX.LamS X.env.scope scope) (hdef : defaultsOf params X.env = ([], []))
    (hbind : ∀ (q : Str) (cl : List (Str × Addr)) (pm cv ctv : Value), bindArgs (PySem.W.kla_fn "<lambda>" q params body scope cl pm cv ctv) ⟨[], []⟩ = pure [])
    (hbody : ∀ (A : Around) (outer : List Env) (s : Shared) (H : Hp) (E : XK) (f c' : Addr), Room k (A.deeper (LamX.lamEnv X scope s.heap.objs.size f c')) → SE G (LamX.lamCx X A outer s H E scope f c') (WD E) body me)
    (hst : ∀ f : Addr, (L2.start Ng [V.ref f])[0]? = some (some (V.ref f)))
    (hdb : (x == ("__debug__" : Str)) = false := by decide) (hd : (a == ("__debug__" : Str)) = false := by decide) (hcd : (a == ("__classdict__" : Str)) = false := by decide) :
    SE G X W (.Call (.Name x p) [.Lambda params body scope lpos] [] pos) (mTold l me) :=
  PE.imp (LamX.pe_lamcall (T := G.T) (TT := TTm X.K l) (t := fun E => tE G (WD E) me) hg hm hk lk hcg hb Sg hNg hva (told_gives hr hst) TB hcode hmT hu hro L hdef hbind hbody hdb hd hcd) fun σ H Q h => by
    obtain ⟨w, ρ, S, rfl, rE, rS, p⟩ := h
    refine ⟨rS.tabs, fun H1 eN t1 => ?_⟩
    have x1 : Ext w ⟨H1, w.N, w.at_⟩ := ext_tabs eN
    have r1 := reps_tabs rS eN t1
    refine ⟨⟨H1, w.N, w.at_⟩, ρ, S, rfl, rE.mono x1, r1, ?_⟩
    unfold mTold at p
    cases hme : me ρ S with
    | ok d S1 =>
      rw [hme] at p
      exact PostG.ext x1 p
    | bad => rw [hme] at p; exact p.elim
    | exc y S1 =>
      rw [hme] at p
      dsimp only at p
      cases hl : l.lookup y.cls with
      | none => rw [hl] at p; exact p.elim
      | some r =>
        rw [hl] at p
        intro w' cls dd x' r' q
        obtain ⟨C, e1, rfl, e3⟩ := q
        have hmem := lookup_mem hl
        have e4 := hrows_cA hr _ hmem
        have e5 : r.1 = C := by
          have e4' : G.cA y.cls = some r.1 := e4
          rw [e1] at e4'
          exact (Option.some.inj e4').symm
        subst e5
        exact tell_of (cn := y.cls) (C0 := r.1) (ret := r.2) (fun r' hr' => hx _ hmem r' hr') hl (p w' (.str r.2) (x1.trans x') r' rfl)
end
end Mx
set_option Elab.async false
set_option linter.all false
set_option maxRecDepth 100000
set_option maxHeartbeats 2000000
/-! The layer M, part J: comprehensions of two clauses, in, three names at once, dicts. -/
namespace Mx
open PySem PySem.Spec PyProof.Rows L2
section
variable {G : Gb} {X : Cx} {W : WX} {pos : Pos}

/-! ### two clauses -/
def compA1 (s : Src) (t : Tg) (c : MT) (e : ME) (ρ0 : Env') : List D → List D → Store → Out (List D)
  | [], acc, S => if okSrc s S then .ok acc S else .bad
  | x :: xs, acc, S => if okSrc s S then match bindT t x ρ0 with
    | some ρ1 => (c ρ1 S).noX.bind fun k S1 => match k with
      | true => (e ρ1 S1).noX.bind fun y S2 => if acc.length ≤ LIM then compA1 s t c e ρ0 xs (acc ++ [y]) S2 else .bad
      | false => compA1 s t c e ρ0 xs acc S1
    | none => .bad
    else .bad
def compA2 (vs1 : List Nat) (s : Src) (t : Tg) (c : MT) (mi1 : MI) (t1 : Tg) (c1 : MT) (e : ME) (ρ0 : Env') : List D → List D → Store → Out (List D)
  | [], acc, S => if okSrc s S then .ok acc S else .bad
  | x :: xs, acc, S => if okSrc s S then match bindT t x ρ0 with
    | some ρ1 => (c ρ1 S).noX.bind fun k S1 => match k with
      | true => (mi1 ρ1 S1).noX.bind fun s1 S2 => (compA1 s1 t1 c1 e (wipeM ρ1 vs1) s1.2 acc S2).bind fun acc' S3 => compA2 vs1 s t c mi1 t1 c1 e ρ0 xs acc' S3
      | false => compA2 vs1 s t c mi1 t1 c1 e ρ0 xs acc S1
    | none => .bad
    else .bad
def mLc2 (vs vs1 : List Nat) (mi : MI) (t : Tg) (c : MT) (mi1 : MI) (t1 : Tg) (c1 : MT) (e : ME) : ME := fun ρ S => (mi ρ S).bind fun s S1 => (compA2 vs1 s t c mi1 t1 c1 e (wipeM ρ vs) s.2 [] S1).bind fun ys S2 => .ok (.loc S2.length) (S2 ++ [.lst ys])
theorem noX_bind {α β γ : Type} {o : Out α} {f : α → Store → Out β} {g : β → Store → Out γ} : (o.noX.bind f).bind g = o.noX.bind fun a S => (f a S).bind g := by cases o <;> rfl
theorem bind_bind {α β γ : Type} {o : Out α} {f : α → Store → Out β} {g : β → Store → Out γ} : (o.bind f).bind g = o.bind fun a S => (f a S).bind g := by cases o <;> rfl
theorem PostG.seqC {α β γ δ : Type} {w0 w : Wd} {R : Wd → α → β → Prop} {R' : Wd → γ → δ → Prop} {o : Out α} {f : α → Store → Out γ} {Q : δ → Hp → Prop} {E : XH} {Q1 : β → Hp → Prop} {W : XH}
    (h : PostG G w0 R' (o.noX.bind f) Q E) (g : ∀ w1 a b S1, Ext w w1 → RepS G w1 S1 → R w1 a b → PostG G w0 R' (f a S1) Q E → Q1 b w1.H) : PostG G w R o Q1 W := by
  cases o with
  | ok a S => exact fun w' b x' r q => g w' a b S x' r q h
  | exc e S => exact h.elim
  | bad => exact h
variable {tg iter tg1 iter1 elt : Expr} {mi mi1 : MI} {ifs ifs1 : List Expr} {scope : Scope} {own : List (Str × Nat)}
theorem lc2_of {t t1 : Tg} {vs vs1 : List Nat} {tc tc1 : MT} {me : ME} (ht : ∀ i ∈ t.slots, i ∈ vs) (ht1 : ∀ i ∈ t1.slots, i ∈ vs1) {σ : L2.St} {H : Hp} {Q : VK} (h : tE G W (mLc2 vs vs1 mi t tc mi1 t1 tc1 me) σ H Q) :
    tLc2 (tIm G W mi) (gT G.K t) (tT G W0 tc) (tIm G W0 mi1) (gT G.K t1) (tT G W0 tc1) (tE G W0 me) vs vs1 σ H Q := by
  obtain ⟨w, ρ, S, rfl, rE, rS, p⟩ := h
  refine ⟨w, ρ, S, rfl, rE, rS, PostG.seq p fun w1 s J S1 he x1 r1 q1 p1 => ?_⟩
  clear he
  intro D hD
  have hfar : ∀ n, n < w1.N → w1.at_ n ≠ D := fun n hn z => by
    obtain ⟨o, ho⟩ := r1.there (show n < w1.N from hn)
    obtain ⟨u, e1, _⟩ := r1.at_ n o ho
    rw [z, hD] at e1
    cases e1
  refine ⟨fun i n H => n = s.2.length - i ∧ ∃ w' S' accD accV, w'.H = H ∧ Apart' w1 w' D accV ∧ RepS G w' S' ∧ Reps G w' accD accV ∧
      PostG G w1 (Rep G) ((compA2 vs1 s t tc mi1 t1 tc1 me (wipeM ρ vs) (s.2.drop i) accD S').bind fun ys S2 => .ok (.loc S2.length) (S2 ++ [.lst ys])) Q (fun c d H' => W c d σ H'),
    ⟨s.2.length, rfl, w1.up D (.lst []), S1, [], [], rfl, ⟨Ext.grown hD, upd_same, hfar⟩, r1.grown hD, Reps.nil, by simpa using p1⟩, fun i n H2 h2 => ?_⟩
  obtain ⟨hn, w', S', accD, accV, rfl, A, r', ra, p'⟩ := h2
  cases hd : s.2.drop i with
  | nil =>
    rw [hd] at p'
    unfold compA2 at p'
    by_cases hok : okSrc s S' = true
    · rw [if_pos hok] at p'
      have z := q1 w' S' A.ext.r r' hok i
      have hl : s.2.length ≤ i := List.drop_eq_nil_iff.mp hd
      rw [List.getElem?_eq_none hl] at z
      refine .inl ⟨z, ?_⟩
      obtain ⟨w2, e2, x2, r2, q2⟩ := A.adopt hD r' ra
      have p3 : PostG G w1 (Rep G) (.ok (.loc S'.length) (S' ++ [.lst accD])) Q (fun c d H' => W c d σ H') := p'
      have p2 := p3 w2 (.ref D) x2 r2 q2
      rw [e2] at p2
      exact p2
    · rw [if_neg hok] at p'; exact p'.elim
  | cons d ds =>
    rw [hd] at p'
    unfold compA2 at p'
    by_cases hok : okSrc s S' = true
    · rw [if_pos hok] at p'
      obtain ⟨h3, h4⟩ := drop_at hd
      have z := q1 w' S' A.ext.r r' hok i
      rw [h3] at z
      have hil : i < s.2.length := (List.getElem?_eq_some_iff.mp h3).1
      refine .inr ⟨z.1, fun H3 => n - 1 = s.2.length - (i + 1) ∧ ∃ w' S' accD accV, w'.H = H3 ∧ Apart' w1 w' D accV ∧ RepS G w' S' ∧ Reps G w' accD accV ∧
        PostG G w1 (Rep G) ((compA2 vs1 s t tc mi1 t1 tc1 me (wipeM ρ vs) ds accD S').bind fun ys S2 => .ok (.loc S2.length) (S2 ++ [.lst ys])) Q (fun c d H' => W c d σ H'), fun H3 h5 => ?_, fun v H3 y => ?_⟩
      · obtain ⟨e1, w4, S4, aD, aV, e2, A4, r4, ra4, p4⟩ := h5
        exact ⟨n - 1, by omega, e1, w4, S4, aD, aV, e2, A4, r4, ra4, by rw [h4]; exact p4⟩
      · obtain ⟨w3, rfl, x3, r3, q3⟩ := z.2 v H3 y
        have A3 := A.mono x3
        cases hb' : bindT t d (wipeM ρ vs) with
        | none => rw [hb'] at p'; exact p'.elim
        | some ρ1 =>
          rw [hb'] at p'
          dsimp only at p'
          rw [noX_bind] at p'
          refine gT_ofW hb' q3 (wipe_rep ((rE.mono x1).mono A3.ext) vs) ht fun σ4 rE4 hw => ⟨hw.trans wipe_wipe, w3, ρ1, S', rfl, rE4, r3, ?_⟩
          refine PostG.seqB p' fun w4 k k' S4 x4 r4 q4 p4 => ?_
          obtain rfl := q4
          have A4 := A3.mono x4
          cases k with
          | false => exact iteF ⟨by omega, w4, S4, accD, accV, rfl, A4, r4, (ra.mono x3).mono x4, p4⟩
          | true =>
            dsimp only at p4
            rw [noX_bind] at p4
            refine iteT ⟨w4, ρ1, S4, rfl, rE4.mono x4, r4, ?_⟩
            refine PostG.seqC p4 fun w5 s1 J1 S5 x5 r5 q5 p5 => ?_
            rw [bind_bind] at p5
            have A5 := A4.mono x5
            refine ⟨fun j k H => k = s1.2.length - j ∧ ∃ w' S' accD accV, w'.H = H ∧ ExtR w5 w' ∧ Apart' w1 w' D accV ∧ RepS G w' S' ∧ Reps G w' accD accV ∧
                PostG G w1 (Rep G) ((compA1 s1 t1 tc1 me (wipeM ρ1 vs1) (s1.2.drop j) accD S').bind fun acc' S3 => (compA2 vs1 s t tc mi1 t1 tc1 me (wipeM ρ vs) ds acc' S3).bind fun ys S2 => .ok (.loc S2.length) (S2 ++ [.lst ys])) Q (fun c d H' => W c d σ H'),
              ⟨s1.2.length, rfl, w5, S5, accD, accV, rfl, (Ext.refl w5).r, A5, r5, ((ra.mono x3).mono x4).mono x5, by simpa using p5⟩, fun j k H6 h6 => ?_⟩
            obtain ⟨hk, w6, S6, aD, aV, rfl, x56, A6, r6, ra6, p6⟩ := h6
            cases hd1 : s1.2.drop j with
            | nil =>
              rw [hd1] at p6
              unfold compA1 at p6
              by_cases hok1 : okSrc s1 S6 = true
              · rw [if_pos hok1] at p6
                have z1 := q5 w6 S6 x56 r6 hok1 j
                have hl : s1.2.length ≤ j := List.drop_eq_nil_iff.mp hd1
                rw [List.getElem?_eq_none hl] at z1
                exact .inl ⟨z1, by omega, w6, S6, aD, aV, rfl, A6, r6, ra6, p6⟩
              · rw [if_neg hok1] at p6; exact p6.elim
            | cons d1 ds1 =>
              rw [hd1] at p6
              unfold compA1 at p6
              by_cases hok1 : okSrc s1 S6 = true
              · rw [if_pos hok1] at p6
                obtain ⟨h31, h41⟩ := drop_at hd1
                have z1 := q5 w6 S6 x56 r6 hok1 j
                rw [h31] at z1
                have hil1 : j < s1.2.length := (List.getElem?_eq_some_iff.mp h31).1
                refine .inr ⟨z1.1, fun H3 => k - 1 = s1.2.length - (j + 1) ∧ ∃ w' S' accD accV, w'.H = H3 ∧ ExtR w5 w' ∧ Apart' w1 w' D accV ∧ RepS G w' S' ∧ Reps G w' accD accV ∧
                  PostG G w1 (Rep G) ((compA1 s1 t1 tc1 me (wipeM ρ1 vs1) ds1 accD S').bind fun acc' S3 => (compA2 vs1 s t tc mi1 t1 tc1 me (wipeM ρ vs) ds acc' S3).bind fun ys S2 => .ok (.loc S2.length) (S2 ++ [.lst ys])) Q (fun c d H' => W c d σ H'), fun H3 h5 => ?_, fun v H3 y => ?_⟩
                · obtain ⟨e1, w8, S8, aD8, aV8, e2, x8, A8, r8, ra8, p8⟩ := h5
                  exact ⟨k - 1, by omega, e1, w8, S8, aD8, aV8, e2, x8, A8, r8, ra8, by rw [h41]; exact p8⟩
                · obtain ⟨w7, rfl, x7, r7, q7⟩ := z1.2 v H3 y
                  have A7 := A6.mono x7
                  cases hb1 : bindT t1 d1 (wipeM ρ1 vs1) with
                  | none => rw [hb1] at p6; exact p6.elim
                  | some ρ2 =>
                    rw [hb1] at p6
                    dsimp only at p6
                    rw [noX_bind] at p6
                    refine gT_ofW hb1 q7 (wipe_rep ((((rE4.mono x4).mono x5).monoR x56).mono x7) vs1) ht1 fun σ7 rE7 hw7 => ⟨hw7.trans wipe_wipe, w7, ρ2, S6, rfl, rE7, r7, ?_⟩
                    refine PostG.seqB p6 fun w8 k8 k8' S8 x8 r8 q8 p8 => ?_
                    obtain rfl := q8
                    have A8 := A7.mono x8
                    cases k8 with
                    | false => exact iteF ⟨by omega, w8, S8, aD, aV, rfl, (x56.trans x7.r).trans x8.r, A8, r8, (ra6.mono x7).mono x8, p8⟩
                    | true =>
                      dsimp only at p8
                      rw [noX_bind] at p8
                      refine iteT ⟨w8, ρ2, S8, rfl, rE7.mono x8, r8, ?_⟩
                      refine PostG.seqB p8 fun w9 yd yv S9 x9 r9 q9 p9 => ?_
                      have A9 := A8.mono x9
                      have ra9 := ((ra6.mono x7).mono x8).mono x9
                      split at p9
                      · rename_i hlim
                        refine ⟨aV, A9.at_, by rw [← ra9.length]; exact LIM_lt hlim, by omega, w9.up D (.lst (aV ++ [yv])), S9, aD ++ [yd], aV ++ [yv], rfl, ?_, A9.write hD, r9.up A9.at_ A9.far, (ra9.append (Reps.cons q9 Reps.nil)).up A9.at_, p9⟩
                        exact (((x56.trans x7.r).trans x8.r).trans x9.r).trans ⟨Nat.le_refl _, fun _ _ => rfl, fun a xs e => up_ne A9.at_ e (fun _ z => nomatch z), fun a o u e => up_ne A9.at_ e (fun _ z => nomatch z)⟩
                      · exact p9.elim
              · rw [if_neg hok1] at p6; exact p6.elim
    · rw [if_neg hok] at p'; exact p'.elim

theorem se_lc2 {t t1 : Tg} {vs1 : List Nat} {tc tc1 : MT} {me : ME} (hK : X.K = G.K) (hc : X.calm = true) (hN : X.N.Nodup) (hi : SI G X W tg iter mi) (ok : BlkOk X.N X.env.scope scope own) (hts : ∀ i ∈ t.slots, i ∈ own.map (·.2)) (hts1 : ∀ i ∈ t1.slots, i ∈ vs1) (hv : ∀ i ∈ vs1, i ∈ own.map (·.2))
    (hg : ∀ (s : Shared) (H : Hp) (C : Addr) (cl : List (Str × Addr)) (fp : List Addr), PG (X.blk s H scope (compEnvC scope cl C X.env) fp) tg (gT X.K t))
    (ht : ∀ (s : Shared) (H : Hp) (C : Addr) (cl : List (Str × Addr)) (fp : List Addr), STs G (X.blk s H scope (compEnvC scope cl C X.env) fp) W0 ifs tc)
    (hi1 : ∀ (s : Shared) (H : Hp) (C : Addr) (cl : List (Str × Addr)) (fp : List Addr), SI G (X.blk s H scope (compEnvC scope cl C X.env) fp) W0 tg1 iter1 mi1)
    (hg1 : ∀ (s : Shared) (H : Hp) (C : Addr) (cl : List (Str × Addr)) (fp : List Addr), PG (X.blk s H scope (compEnvC scope cl C X.env) fp) tg1 (gT X.K t1))
    (ht1 : ∀ (s : Shared) (H : Hp) (C : Addr) (cl : List (Str × Addr)) (fp : List Addr), STs G (X.blk s H scope (compEnvC scope cl C X.env) fp) W0 ifs1 tc1)
    (he : ∀ (s : Shared) (H : Hp) (C : Addr) (cl : List (Str × Addr)) (fp : List Addr), SE G (X.blk s H scope (compEnvC scope cl C X.env) fp) W0 elt me)
    (hs : ∀ x, foldedSetIterable iter X.env x = pure x := by intro _; rfl) (hs1 : ∀ env x, foldedSetIterable iter1 env x = pure x := by intro _ _; rfl) :
    SE G X W (.ListComp elt [⟨tg, iter, ifs, 0⟩, ⟨tg1, iter1, ifs1, 0⟩] scope pos) (mLc2 (own.map (·.2)) vs1 mi t tc mi1 t1 tc1 me) :=
  PE.imp (pe_lc2 hc hN hi ok hv (by rw [← hK] at *; exact hg) ht hi1 (by rw [← hK] at *; exact hg1) ht1 he hs hs1) fun σ H Q h => lc2_of hts hts1 h
theorem ss_setLc2 {i : Nat} {y : Str} {py spos : Pos} {t t1 : Tg} {vs1 : List Nat} {tc tc1 : MT} {me : ME} (hK : X.K = G.K) (hc : X.calm = true) (hN : X.N.Nodup) (hy : X.N[i]? = some y) (hyl : X.env.scope.names.lookup y = some .local)
    (hsw : swapsWith (.ListComp elt [⟨tg, iter, ifs, 0⟩, ⟨tg1, iter1, ifs1, 0⟩] scope pos) (some (.Name y py)) spos.line X.env = pure true)
    (hi : SI G X W tg iter mi) (ok : BlkOk X.N X.env.scope scope own) (hts : ∀ i ∈ t.slots, i ∈ own.map (·.2)) (hts1 : ∀ i ∈ t1.slots, i ∈ vs1) (hv : ∀ i ∈ vs1, i ∈ own.map (·.2))
    (hg : ∀ (s : Shared) (H : Hp) (C : Addr) (cl : List (Str × Addr)) (fp : List Addr), PG (X.blk s H scope (compEnvC scope cl C X.env) fp) tg (gT X.K t))
    (ht : ∀ (s : Shared) (H : Hp) (C : Addr) (cl : List (Str × Addr)) (fp : List Addr), STs G (X.blk s H scope (compEnvC scope cl C X.env) fp) W0 ifs tc)
    (hi1 : ∀ (s : Shared) (H : Hp) (C : Addr) (cl : List (Str × Addr)) (fp : List Addr), SI G (X.blk s H scope (compEnvC scope cl C X.env) fp) W0 tg1 iter1 mi1)
    (hg1 : ∀ (s : Shared) (H : Hp) (C : Addr) (cl : List (Str × Addr)) (fp : List Addr), PG (X.blk s H scope (compEnvC scope cl C X.env) fp) tg1 (gT X.K t1))
    (ht1 : ∀ (s : Shared) (H : Hp) (C : Addr) (cl : List (Str × Addr)) (fp : List Addr), STs G (X.blk s H scope (compEnvC scope cl C X.env) fp) W0 ifs1 tc1)
    (he : ∀ (s : Shared) (H : Hp) (C : Addr) (cl : List (Str × Addr)) (fp : List Addr), SE G (X.blk s H scope (compEnvC scope cl C X.env) fp) W0 elt me)
    (hs : ∀ x, foldedSetIterable iter X.env x = pure x := by intro _; rfl) (hs1 : ∀ env x, foldedSetIterable iter1 env x = pure x := by intro _ _; rfl) :
    SS G X W (.Assign [.Name y py] (.ListComp elt [⟨tg, iter, ifs, 0⟩, ⟨tg1, iter1, ifs1, 0⟩] scope pos) spos) (msAsg (.one i) (mLc2 (own.map (·.2)) vs1 mi t tc mi1 t1 tc1 me)) :=
  PS.imp (ps_setLc2 (g := gT G.K t) (g1 := gT G.K t1) hc hN hy hyl hsw hi ok hv (by rw [← hK]; exact hg) ht hi1 (by rw [← hK]; exact hg1) ht1 he hs hs1) fun D σ H h => by
    have h' := asg_of hK h
    have p : tE G W (mLc2 (own.map (·.2)) vs1 mi t tc mi1 t1 tc1 me) σ H (fun x H1 => gName i x σ H1 D.nx) := h'
    exact lc2_of hts hts1 p

/-! ### in -/
def flatD : D → Bool
  | .non => true
  | .bl _ => true
  | .int _ => true
  | .str _ => true
  | _ => false
def eqF : D → D → Bool
  | .non, .non => true
  | .bl a, .bl b => a == b
  | .bl a, .int b => (if a then 1 else 0) == b
  | .int a, .bl b => a == (if b then 1 else 0)
  | .int a, .int b => decide (a = b)
  | .str a, .str b => decide (a = b)
  | _, _ => false
def inF (x : D) (xs : List D) : Bool := xs.any fun y => eqF y x
def inM (neg : Bool) : Op2 := fun x y S => match seqOf S y with
  | some xs => if flatD x && xs.all flatD then .ok (.bl (if neg then !inF x xs else inF x xs)) S else .bad
  | none => .bad

theorem flat_ok {w : Wd} {x : D} {v : V} (r : Rep G w x v) (h : flatD x = true) : flatV v = true := by
  cases x with
  | non => obtain rfl := r; rfl
  | bl b => obtain rfl := r; rfl
  | int b => obtain rfl := r; rfl
  | str b => obtain rfl := r; rfl
  | _ => cases h
theorem eqF_ok {w : Wd} {x y : D} {v u : V} (rx : Rep G w x v) (ry : Rep G w y u) (hx : flatD x = true) (hy : flatD y = true) : eqV v u = eqF x y := by
  cases x <;> cases y <;> first
    | (cases hx; done)
    | (cases hy; done)
    | (obtain rfl := rx; obtain rfl := ry; first | rfl | exact Bool.beq_eq_decide_eq _ _)
theorem inF_ok {w : Wd} {x : D} {v : V} (rx : Rep G w x v) (hx : flatD x = true) : ∀ {xs : List D} {vs : List V}, Reps G w xs vs → xs.all flatD = true → vs.all flatV = true ∧ inV v vs = inF x xs
  | [], _, r, _ => by obtain rfl := r; exact ⟨rfl, rfl⟩
  | y :: ys, _, r, h => by
    obtain ⟨u, us, rfl, h1, h2⟩ := r
    rw [List.all_cons, Bool.and_eq_true] at h
    obtain ⟨i1, i2⟩ := inF_ok rx hx h2 h.2
    refine ⟨by rw [List.all_cons, flat_ok h1 h.1, i1]; rfl, ?_⟩
    unfold inV inF at i2 ⊢
    rw [List.any_cons, List.any_cons, eqF_ok h1 rx h.1 hx, i2]
theorem inM_ok {neg : Bool} : OpM G (rIn G.K neg) (inM neg) := by
  intro w x y S v u Q E R rx ry p
  unfold inM at p
  split at p
  · rename_i xs hs
    split at p
    · rename_i hf
      rw [Bool.and_eq_true] at hf
      obtain ⟨q, vs, rfl, h1, h2⟩ := seq_ok R ry hs
      obtain ⟨i1, i2⟩ := inF_ok rx hf.1 h2 hf.2
      exact ⟨q, vs, rfl, h1, flat_ok rx hf.1, i1, by rw [i2]; exact p.val R rfl⟩
    · exact p.elim
  · exact p.elim
variable {a b c o i e f : Expr} {ma mb mc mo mk me mf : ME}
theorem se_in (hK : X.K = G.K) (ha : SE G X W a ma) (hb : SE G X W b mb) (hm : behindInMarks .In b = false := by rfl) : SE G X W (.Compare a [.In] [b] pos) (mBin (inM false) ma mb) := se_cmp (r := rIn G.K false) (by rw [← hK]; exact op_in_seq) inM_ok ha hb hm
theorem se_notIn (hK : X.K = G.K) (ha : SE G X W a ma) (hb : SE G X W b mb) (hm : behindInMarks .NotIn b = false := by rfl) : SE G X W (.Compare a [.NotIn] [b] pos) (mBin (inM true) ma mb) := se_cmp (r := rIn G.K true) (by rw [← hK]; exact op_notIn_seq) inM_ok ha hb hm
theorem st_in (hK : X.K = G.K) (ha : SE G X W a ma) (hb : SE G X W b mb) (hm : behindInMarks .In b = false := by rfl) : ST G X W (.Compare a [.In] [b] pos) (mTest (mBin (inM false) ma mb)) := st_cmp (r := rIn G.K false) (by rw [← hK]; exact op_in_seq) inM_ok ha hb hm
theorem st_notIn (hK : X.K = G.K) (ha : SE G X W a ma) (hb : SE G X W b mb) (hm : behindInMarks .NotIn b = false := by rfl) : ST G X W (.Compare a [.NotIn] [b] pos) (mTest (mBin (inM true) ma mb)) := st_cmp (r := rIn G.K true) (by rw [← hK]; exact op_notIn_seq) inM_ok ha hb hm

/-! ### three names at once -/
theorem ss_par3 {i j l : Nat} {x y z : Str} {px py pz pt : Pos} {kt k2 pt2} {mr : MA} (hc : X.calm = true) (hN : X.N.Nodup) (hi : X.N[i]? = some x) (hj : X.N[j]? = some y) (hl : X.N[l]? = some z) (hij : i ≠ j) (hil : i ≠ l) (hjl : j ≠ l)
    (hx : X.env.scope.names.lookup x = some .local) (hy : X.env.scope.names.lookup y = some .local) (hz : X.env.scope.names.lookup z = some .local) (ha : SA G X W [a, b, c] mr)
    (hw : swappedStores [.Tuple [.Name x px, .Name y py, .Name z pz] kt pt] (.Tuple [a, b, c] k2 pt2) X.env = pure (some [x, y, z]))
    (hs : swapsWithSole [.Tuple [.Name x px, .Name y py, .Name z pz] kt pt] (.Tuple [a, b, c] k2 pt2) pos.line X.env = pure false := by rfl) :
    SS G X W (.Assign [.Tuple [.Name x px, .Name y py, .Name z pz] kt pt] (.Tuple [a, b, c] k2 pt2) pos) (msPar [i, j, l] mr) := PS.imp (ps_par3 hc hN hi hj hl hij hil hjl hx hy hz ha hw hs) fun D σ H h => by
  obtain ⟨w, ρ, S, rfl, rE, rS, p⟩ := h
  refine ⟨w, ρ, S, rfl, rE, rS, p.seqE rE fun w1 xs vs S1 _ x1 r1 q1 p1 => ?_⟩
  split at p1
  · rename_i hl
    have hv : vs.length = 3 := by rw [← q1.length]; exact hl
    match vs, hv with
    | [v, u, t], _ => exact ⟨v, u, t, rfl, p1.nxt (repE_setAll (is := [i, j, l]) (rE.mono x1) q1) r1⟩
  · exact p1.elim

/-! ### dicts: keys ints and texts -/
def keyD : D → Option Key
  | .int i => some (.inl i)
  | .str x => some (.inr x)
  | _ => none
theorem keyD_ok {w : Wd} {d : D} {v : V} {k : Key} (r : Rep G w d v) (h : keyD d = some k) : v = kV k := by
  cases d with
  | int i => cases h; obtain rfl := r; rfl
  | str i => cases h; obtain rfl := r; rfl
  | _ => cases h
section
variable {κ : Type} [DecidableEq κ]
def valD : List (κ × D) → κ → Option D
  | [], _ => none
  | p :: r, k => if p.1 = k then some p.2 else valD r k
def hasK : List (κ × D) → κ → Bool
  | [], _ => false
  | p :: r, k => decide (p.1 = k) || hasK r k
def replD : List (κ × D) → κ → D → List (κ × D)
  | [], _, _ => []
  | p :: r, k, d => (if p.1 = k then (p.1, d) else p) :: replD r k d
def putD (kvs : List (κ × D)) (k : κ) (d : D) : List (κ × D) := if hasK kvs k then replD kvs k d else kvs ++ [(k, d)]
theorem kv_val {w : Wd} {k : κ} : ∀ {ds : List (κ × D)} {vs : List (κ × V)}, RepKV G w ds vs → match valD ds k with
    | some d => ∃ v, valV vs k = some v ∧ Rep G w d v
    | none => valV vs k = none
  | [], _, r => by obtain rfl := r; rfl
  | p :: ds, _, r => by
    obtain ⟨v, us, rfl, h0, h1, h2⟩ := r
    unfold valD
    by_cases e : p.1 = k
    · rw [if_pos e]
      exact ⟨v.2, valV_pos (by rw [← h0]; exact e), h1⟩
    · rw [if_neg e, valV_neg (by rw [← h0]; exact e)]
      exact kv_val h2
theorem kv_has {w : Wd} {k : κ} : ∀ {ds : List (κ × D)} {vs : List (κ × V)}, RepKV G w ds vs → (vs.any fun kv => decide (kv.1 = k)) = hasK ds k
  | [], _, r => by obtain rfl := r; rfl
  | p :: ds, _, r => by
    obtain ⟨v, us, rfl, h0, h1, h2⟩ := r
    unfold hasK
    rw [List.any_cons, kv_has h2, h0]
theorem kv_repl {w : Wd} {k : κ} {d : D} {v : V} (rd : Rep G w d v) : ∀ {ds : List (κ × D)} {vs : List (κ × V)}, RepKV G w ds vs → RepKV G w (replD ds k d) (vs.map fun kv => if kv.1 = k then (kv.1, v) else kv)
  | [], _, r => by obtain rfl := r; rfl
  | p :: ds, _, r => by
    obtain ⟨u, us, rfl, h0, h1, h2⟩ := r
    refine ⟨_, _, rfl, ?_, ?_, kv_repl rd h2⟩
    · dsimp only
      by_cases e : p.1 = k
      · rw [if_pos e, if_pos (by rw [← h0]; exact e)]; exact h0
      · rw [if_neg e, if_neg (by rw [← h0]; exact e)]; exact h0
    · dsimp only
      by_cases e : p.1 = k
      · rw [if_pos e, if_pos (by rw [← h0]; exact e)]; exact rd
      · rw [if_neg e, if_neg (by rw [← h0]; exact e)]; exact h1
theorem kv_app {w : Wd} {k : κ} {d : D} {v : V} (rd : Rep G w d v) : ∀ {ds : List (κ × D)} {vs : List (κ × V)}, RepKV G w ds vs → RepKV G w (ds ++ [(k, d)]) (vs ++ [(k, v)])
  | [], _, r => by obtain rfl := r; exact ⟨(k, v), [], rfl, rfl, rd, rfl⟩
  | p :: ds, _, r => by
    obtain ⟨u, us, rfl, h0, h1, h2⟩ := r
    exact ⟨u, us ++ [(k, v)], rfl, h0, h1, kv_app rd h2⟩
theorem kv_put {w : Wd} {k : κ} {d : D} {v : V} {ds : List (κ × D)} {vs : List (κ × V)} (rd : Rep G w d v) (r : RepKV G w ds vs) : RepKV G w (putD ds k d) (putK vs k v) := by
  unfold putD putK
  rw [kv_has r]
  by_cases e : hasK ds k = true
  · rw [if_pos e, if_pos e]; exact kv_repl rd r
  · rw [if_neg e, if_neg e]; exact kv_app rd r
theorem kv_len {w : Wd} : ∀ {ds : List (κ × D)} {vs : List (κ × V)}, RepKV G w ds vs → ds.length = vs.length
  | [], _, r => by obtain rfl := r; rfl
  | p :: ds, _, r => by
    obtain ⟨u, us, rfl, h0, h1, h2⟩ := r
    simp [kv_len h2]
end
def mDNew : ME := fun _ S => .ok (.loc S.length) (S ++ [.dK []])
theorem PostG.newO {w : Wd} {so : SO} {u : HO} {S : Store} {Q : VK} {E : XH} (p : PostG G w (Rep G) (.ok (.loc S.length) (S ++ [so])) Q E) (R : RepS G w S) (h : RepO G w so u) {q : Addr} (hq : w.H q = none) : Q (.ref q) (upd w.H q u) :=
  p (w.push q u) (.ref q) (Ext.pushed hq) (R.pushed hq h) ⟨by rw [R.len]; exact Nat.lt_succ_self _, by rw [R.len, Wd.push_last]⟩
theorem se_dnew : SE G X W (.Dict [] [] pos) mDNew := PE.imp pe_dnewK fun σ H Q h => by
  obtain ⟨w, ρ, S, rfl, rE, rS, p⟩ := h
  exact fun q hq => p.newO rS ⟨[], rfl, rfl⟩ hq
/-- d[k] -/
def dgetM : Op2 := fun x y S => match x, keyD y with
  | .loc n, some k => match S[n]? with
    | some (.dK kvs) => match valD kvs k with
      | some d => .ok d S
      | none => .bad
    | _ => .bad
  | _, _ => .bad
theorem RepS.dK {w : Wd} {S : Store} {n : Nat} {kvs : List (Key × D)} (R : RepS G w S) (e : S[n]? = some (.dK kvs)) : ∃ vs, w.H (w.at_ n) = some (.dK vs) ∧ RepKV G w kvs vs := by
  obtain ⟨u, e1, vs, rfl, r⟩ := R.at_ n _ e
  exact ⟨vs, e1, r⟩
theorem se_dget (hu : X.A.units + 1 < cLine) (ho : SE G X W o mo) (hi : SE G X W i mk) (hs : NoSl i) : SE G X W (.Subscript o i pos) (mBin dgetM mo mk) := PE.imp (pe_dget hu ho hi hs) fun σ H Q h => by
  obtain ⟨w, ρ, S, rfl, rE, rS, p⟩ := h
  refine ⟨w, ρ, S, rfl, rE, rS, PostG.seq p fun w1 x v S1 he1 x1 r1 q1 p1 => ⟨w1, ρ, S1, rfl, rE.mono x1, r1, PostG.seq p1 fun w2 y u S2 he2 x2 r2 q2 p2 => ?_⟩⟩
  clear he1 he2
  unfold dgetM at p2
  split at p2
  · rename_i n k hk
    split at p2
    · rename_i kvs h1
      split at p2
      · rename_i d hd
        have q1' := q1.mono x2
        obtain ⟨-, rfl⟩ := q1'
        obtain ⟨vs, e1, r⟩ := r2.dK h1
        have z := kv_val (k := k) r
        rw [hd] at z
        obtain ⟨v', e2, rv⟩ := z
        refine ⟨_, v', rfl, ?_, p2.val r2 rv⟩
        rw [keyD_ok q2 hk, ← e2]
        exact DGet.k e1
      · exact p2.elim
    · exact p2.elim
  · exact p2.elim
/-- d.get(k, x) -/
def mDGet2 (o k f : ME) : ME := fun ρ S => (o ρ S).bind fun x S1 => match x with
  | .loc n => match S1[n]? with
    | some (.dK _) => (k ρ S1).bind fun y S2 => (f ρ S2).bind fun z S3 => match S3[n]? with
      | some (.dK kvs) => match keyD y with
        | some k => .ok ((valD kvs k).getD z) S3
        | none => .bad
      | _ => .bad
    | _ => .bad
  | _ => .bad
theorem se_dget2 {apos cpos : Pos} (hu : X.A.units + 1 < cLine) (ho : SE G X W o mo) (he : SE G X W e mk) (hf : SE G X W f mf) (m : M2 X o "get" apos e f cpos) : SE G X W (.Call (.Attribute o "get" apos) [e, f] [] cpos) (mDGet2 mo mk mf) := PE.imp (pe_dget2 hu ho he hf m) fun σ H Q h => by
  obtain ⟨w, ρ, S, rfl, rE, rS, p⟩ := h
  refine ⟨w, ρ, S, rfl, rE, rS, PostG.seq p fun w1 x v S1 he1 x1 r1 q1 p1 => ?_⟩
  clear he1
  split at p1
  · rename_i n
    split at p1
    · rename_i kvs0 h0
      have q1' := q1
      obtain ⟨-, rfl⟩ := q1'
      obtain ⟨vs0, e0, _⟩ := r1.dK h0
      refine ⟨_, rfl, .inl ⟨vs0, .of e0⟩, w1, ρ, S1, rfl, rE.mono x1, r1, PostG.seq p1 fun w2 y u S2 he2 x2 r2 q2 p2 => ⟨w2, ρ, S2, rfl, (rE.mono x1).mono x2, r2, PostG.seq p2 fun w3 z t S3 he3 x3 r3 q3 p3 => ?_⟩⟩
      clear he2 he3
      split at p3
      · rename_i kvs h1
        split at p3
        · rename_i k hk
          have q1' := (q1.mono x2).mono x3
          obtain ⟨-, ea⟩ := q1'
          injection ea with ea
          obtain ⟨vs, e1, r⟩ := r3.dK h1
          have z' := kv_val (k := k) r
          refine ⟨valV vs k, ?_, ?_⟩
          · rw [keyD_ok (q2.mono x3) hk, ea]
            exact DGet.k e1
          · cases hd : valD kvs k with
            | none =>
              rw [hd] at z' p3
              rw [z']
              exact p3.val r3 q3
            | some d =>
              rw [hd] at z' p3
              obtain ⟨v', e2, rv⟩ := z'
              rw [e2]
              exact p3.val r3 rv
        · exact p3.elim
      · exact p3.elim
    · exact p1.elim
  · exact p1.elim
/-- d[k] = e -/
def dputM : Op3 := fun x y d S => match x, keyD y with
  | .loc n, some k => match S[n]? with
    | some (.dK kvs) => if kvs.length ≤ LIM then .ok () (S.set n (.dK (putD kvs k d))) else .bad
    | _ => .bad
  | _, _ => .bad
theorem ss_dput {pos' : Pos} (hu : X.A.units + 1 < cLine) (ho : SE G X W o mo) (hi : SE G X W i mk) (hv : SE G X W e me) (hs : swapsWith e (some (.Subscript o i pos')) pos.line X.env = pure false := by rfl) :
    SS G X W (.Assign [.Subscript o i pos'] e pos) (msSub dputM mo mk me) := PS.imp (ps_dput hu ho hi hv hs) fun D σ H h => by
  obtain ⟨w, ρ, S, rfl, rE, rS, p⟩ := h
  refine ⟨w, ρ, S, rfl, rE, rS, p.seqE rE fun w1 d v S1 he1 x1 r1 q1 p1 => ⟨w1, ρ, S1, rfl, rE.mono x1, r1, p1.seqE (rE.mono x1) fun w2 x u S2 he2 x2 r2 q2 p2 => ⟨w2, ρ, S2, rfl, (rE.mono x1).mono x2, r2, p2.seqE ((rE.mono x1).mono x2) fun w3 y t S3 he3 x3 r3 q3 p3 => ?_⟩⟩⟩
  clear he1 he2 he3
  unfold dputM at p3
  split at p3
  · rename_i n k hk
    split at p3
    · rename_i kvs h1
      split at p3
      · rename_i hl
        have q2' := q2.mono x3
        obtain ⟨-, rfl⟩ := q2'
        obtain ⟨vs, e1, r⟩ := r3.dK h1
        have q1' := (q1.mono x2).mono x3
        obtain ⟨Rn, Xn⟩ := r3.write (so' := .dK (putD kvs k d)) (o := .dK (putK vs k v)) h1 ⟨_, rfl, kv_put q1' r⟩
        refine ⟨_, _, rfl, by rw [keyD_ok q3 hk]; exact DPut.k e1 (by rw [← kv_len r]; exact LIM_lt hl), ?_⟩
        exact p3 _ _ Xn Rn ((((rE.mono x1).mono x2).mono x3).mono Xn)
      · exact p3.elim
    · exact p3.elim
  · exact p3.elim
end
end Mx
set_option Elab.async false
set_option linter.all false
set_option maxRecDepth 100000
set_option maxHeartbeats 2000000
/-! The layer M, part K: sorted(d.items()), keys and values ints; sorted pairs. -/
namespace Mx
open PySem PySem.Spec PyProof.Rows L2
/-! ### pairs in order -/
def leP (p q : Int × Int) : Bool := !SrtO.lexB q p
theorem leP_iff {p q : Int × Int} : leP p q = true ↔ p.1 < q.1 ∨ (p.1 = q.1 ∧ p.2 ≤ q.2) := by
  unfold leP
  rw [Bool.not_eq_true', SrtO.lexB_no]
  omega
def insP (n : Int × Int) : List (Int × Int) → List (Int × Int)
  | [] => [n]
  | m :: ms => if leP n m then n :: m :: ms else m :: insP n ms
def sortP (ns : List (Int × Int)) : List (Int × Int) := ns.foldr insP []
theorem insP_perm (n : Int × Int) : ∀ ms, (insP n ms).Perm (n :: ms)
  | [] => List.Perm.refl _
  | m :: ms => by
    unfold insP
    split
    · exact List.Perm.refl _
    · exact ((insP_perm n ms).cons m).trans (List.Perm.swap _ _ _)
theorem sortP_perm : ∀ ns, (sortP ns).Perm ns
  | [] => List.Perm.refl _
  | n :: ns => (insP_perm n (sortP ns)).trans ((sortP_perm ns).cons n)
abbrev SrtP (l : List (Int × Int)) : Prop := l.Pairwise fun p q => leP p q = true
theorem insP_sorted (n : Int × Int) : ∀ ms, SrtP ms → SrtP (insP n ms)
  | [], _ => by simp [insP, SrtP]
  | m :: ms, h => by
    unfold insP
    split
    · rename_i hn
      refine List.pairwise_cons.mpr ⟨fun y hy => ?_, h⟩
      rcases List.mem_cons.mp hy with e | hy
      · rw [e]; exact hn
      · have h1 := (List.pairwise_cons.mp h).1 y hy
        rw [leP_iff] at *
        omega
    · rename_i hn
      refine List.pairwise_cons.mpr ⟨fun y hy => ?_, insP_sorted n ms (List.pairwise_cons.mp h).2⟩
      rcases List.mem_cons.mp ((insP_perm n ms).mem_iff.mp hy) with e | hy
      · rw [e]; rw [leP_iff] at *; omega
      · exact (List.pairwise_cons.mp h).1 y hy
theorem sortP_sorted : ∀ ns, SrtP (sortP ns)
  | [] => List.Pairwise.nil
  | n :: ns => insP_sorted n _ (sortP_sorted ns)
theorem srtP_eq : ∀ {xs ys : List (Int × Int)}, xs.Perm ys → SrtP xs → SrtP ys → xs = ys
  | [], ys, h, _, _ => (List.Perm.nil_eq h)
  | x :: xs, [], h, _, _ => by have := h.length_eq; simp at this
  | x :: xs, y :: ys, h, hx, hy => by
    have e : x = y := by
      have h1 : x ∈ y :: ys := h.mem_iff.mp List.mem_cons_self
      have h2 : y ∈ x :: xs := h.mem_iff.mpr List.mem_cons_self
      have a : leP y x = true := by
        rcases List.mem_cons.mp h1 with e | z
        · rw [leP_iff, e]; omega
        · exact (List.pairwise_cons.mp hy).1 x z
      have b : leP x y = true := by
        rcases List.mem_cons.mp h2 with e | z
        · rw [leP_iff, e]; omega
        · exact (List.pairwise_cons.mp hx).1 y z
      rw [leP_iff] at a b
      exact Prod.ext (by omega) (by omega)
    subst e
    rw [srtP_eq (List.Perm.cons_inv h) (List.pairwise_cons.mp hx).2 (List.pairwise_cons.mp hy).2]
section
variable {X : Cx}
/-! ### d.items() -/
def rItemsK : V → List V → Hp → VK → Prop := fun x xs H Q => ∃ (a : Addr) (kvs : List (Key × V)), x = .ref a ∧ xs = [] ∧ H a = some (.dK kvs) ∧ ∀ p, H p = none → Q (.ref p) (upd H p (DX.itemsO p a))
theorem mt_itemsK : MtR X "dict.items" rItemsK := by
  intro pins s σ H x xs v us Q I rx rxs h
  obtain ⟨a, kvs, rfl, rfl, ha, q⟩ := h
  cases rx
  cases rxs
  obtain ⟨z, hd, vs, rel, o, es, ep, ho, hx, hdat, _⟩ := dk_of I.hok ha
  refine DT.callItems (es := es) (ep := ep) hd ⟨o, ho, hx, hdat⟩ ?_
  have hf : H s.heap.objs.size = none := I.hok.fresh (Nat.le_refl _)
  exact ⟨.ref s.heap.objs.size, upd H s.heap.objs.size (DX.itemsO s.heap.objs.size a), I.laid (t' := s.toks) (fun b u e => Heap.get?_push_of_some _ e) (Nat.le_refl _) (DX.itemsO_ok (Heap.get?_push_size _ rfl)), rfl, q _ hf⟩
/-- the pair at v -/
def pairAt (h : Heap) (v : Value) : Int × Int := match v with
  | .ref b => match h.get? b with
    | some ⟨_, _, .seq a _, _⟩ => match a.toList with
      | [.int i _, .int j _] => (i, j)
      | _ => (0, 0)
    | _ => (0, 0)
  | _ => (0, 0)
abbrev kvI (p : Int × Int) : Key × V := (.inl p.1, .int p.2)
theorem es_at {P : Program} {w : World} : ∀ {es : List DictEntry} {vs : List (Key × Value)} {ps : List (Int × Int)}, Pairs (mixKind P w) es vs → KV (ps.map kvI) vs → es.length = ps.length ∧ ∀ (j : Nat) (e : DictEntry), es[j]? = some e → ∃ p t u, ps[j]? = some p ∧ e.key = .int p.1 t ∧ e.val = .int p.2 u
  | _, _, [], .nil, _ => ⟨rfl, fun j e h => by simp at h⟩
  | _, _, p :: ps, .nil, r => nomatch r
  | _, _, [], .cons h1 h2 h3, r => nomatch r
  | e :: es, kv :: vs, p :: ps, .cons h1 h2 h3, .cons r1 r2 => by
    obtain ⟨i1, i2⟩ := es_at h3 r2
    refine ⟨by simp [i1], fun j x hx => ?_⟩
    cases j with
    | zero =>
      have ex : e = x := by simpa using hx
      subst ex
      obtain ⟨k1, k2⟩ := r1
      have e1 : kv.1 = .inl p.1 := k1.symm
      rw [e1] at h1
      obtain ⟨t, ht⟩ : ∃ t, e.key = .int p.1 t := by
        have h1' : Value.isInt p.1 e.key = true := h1
        revert h1'
        cases e.key with
        | int i t =>
          intro h1'
          have z : i = p.1 := by simpa [Value.isInt] using h1'
          exact ⟨t, by rw [z]⟩
        | _ => intro h1'; cases h1'
      obtain ⟨u, hu⟩ : ∃ u, kv.2 = .int p.2 u := k2
      exact ⟨p, t, u, rfl, ht, by rw [h2, hu]⟩
    | succ j => exact i2 j x (by simpa using hx)

theorem pairAt_of {h : Heap} {v : Value} {x y : Int} (p : Srt.IsPair h v x y) : pairAt h v = (x, y) := by
  obtain ⟨a, o, t, u, n, rfl, ho, hc, hd⟩ := p
  unfold pairAt
  dsimp only
  obtain ⟨c, d, da, sl⟩ := o
  have hd' : da = .seq #[.int x t, .int y u] n := hd
  subst hd'
  rw [ho]
/-- keys and values ints: a new list of new pairs, in order -/
def rSortDK : List V → Hp → VK → Prop := fun vs H Q => ∃ (p a : Addr) (ps : List (Int × Int)), vs = [.ref p] ∧ H p = some (DX.itemsO p a) ∧ H a = some (.dK (ps.map kvI)) ∧ ps.length ≤ LIM ∧
  ∀ (H' : Hp) (l : Addr) (bs : List Addr), (∀ b o, H b = some o → H' b = some o) → H l = none → H' l = some (.lst (bs.map V.ref)) →
    Paired (fun (b : Addr) (q : Int × Int) => H' b = some (.tup [.int q.1, .int q.2])) bs (sortP ps) → Q (.ref l) H'
theorem paired_of {α β : Type} {F : α → β → Prop} (f : α → β) : ∀ (as : List α), (∀ a ∈ as, F a (f a)) → Paired F as (as.map f)
  | [], _ => .nil
  | a :: as, h => .cons (h a List.mem_cons_self) (paired_of f as fun b hb => h b (List.mem_cons_of_mem _ hb))
theorem cr_sortDK (hc : X.calm = true) : CallR X (.builtin "sorted") rSortDK := by
  intro pins s σ H xs us Q I r h
  obtain ⟨p, a, ps, rfl, hp, ha, hlim, q⟩ := h
  obtain rfl := Vals.ref1 r
  have view : s.heap.IsItemsView p a := (show ObjOk X.prog X.w H s.heap p (DX.itemsO p a) from I.hok p _ hp).1
  obtain ⟨z, hd, vs, rel, o, es, ep, ho, hx, hdat, _, prs, hn⟩ := dk_of I.hok ha
  obtain ⟨l1, eat⟩ := es_at prs rel
  have l2 : es.size = ps.length := by rw [← l1]; simp
  have hh : X.A.handled = none := I.ok.hd hc
  refine DT.sortedI (es := es) (ep := ep) hh view ⟨o, ho, hx, hdat⟩ (by rw [l2]; exact Nat.le_of_lt (LIM_lt hlim)) fun h' tk as hk hlt hl hG => ?_
  have lak : as.length = ps.length := by omega
  have nd : as.Nodup := List.Pairwise.imp (fun h => Nat.ne_of_lt h) hG.rise
  have hob : (h'.push { cls := .type "list", data := .seq (as.map Value.ref).toArray }).get? h'.objs.size = some (seqObj "list" (as.map Value.ref).toArray 0) := Heap.get?_push_size _ rfl
  have kb : ∀ b o, s.heap.get? b = some o → (h'.push { cls := .type "list", data := .seq (as.map Value.ref).toArray }).get? b = some o := fun b o e => Heap.get?_push_of_some _ (hk b o e)
  have ne0 : ∀ b o, h'.get? b = some o → b ≠ h'.objs.size := fun b o e => Nat.ne_of_lt (Heap.lt_size e)
  generalize hh2 : h'.push { cls := .type "list", data := .seq (as.map Value.ref).toArray } = h2 at hob kb ⊢
  have ka : ∀ b o, h'.get? b = some o → h2.get? b = some o := fun b o e => by rw [← hh2]; exact Heap.get?_push_of_some _ e
  have pr : ∀ (j : Nat) (b : Addr), as[j]? = some b → ∃ (e : Int × Int) (t u : Tok), ps[j]? = some e ∧ h'.get? b = some { cls := .type "tuple", data := .seq #[Value.int e.1 t, Value.int e.2 u] } := by
    intro j b hj
    obtain ⟨en, he, hg⟩ := hG.pairs j b hj
    obtain ⟨e, t, u, e1, e2, e3⟩ := eat j en (by rw [Array.getElem?_toList]; exact he)
    exact ⟨e, t, u, e1, by rw [hg, e2, e3]⟩
  have pin : ∀ (j : Nat) (b : Addr), as[j]? = some b → ∃ e : Int × Int, ps[j]? = some e ∧ Srt.IsPair h2 (.ref b) e.1 e.2 := by
    intro j b hj
    obtain ⟨e, t, u, he, hg⟩ := pr j b hj
    exact ⟨e, he, b, _, t, u, 0, rfl, ka _ _ hg, rfl, rfl⟩
  have kAt : ∀ v ∈ as.map Value.ref, Srt.IsPair h2 v (pairAt h2 v).1 (pairAt h2 v).2 := by
    intro v hv
    obtain ⟨b, hb, rfl⟩ := List.mem_map.mp hv
    obtain ⟨j, hj⟩ := List.mem_iff_getElem?.mp hb
    obtain ⟨e, _, hp⟩ := pin j b hj
    rw [pairAt_of hp]
    exact hp
  have kmap : as.map (fun b => pairAt h2 (.ref b)) = ps := by
    refine List.ext_getElem? fun j => ?_
    rw [List.getElem?_map]
    cases hj : as[j]? with
    | none =>
      have := List.getElem?_eq_none_iff.mp hj
      exact (List.getElem?_eq_none (by omega)).symm
    | some b =>
      obtain ⟨e, he, hp⟩ := pin j b hj
      rw [he]
      show some (pairAt h2 (.ref b)) = some e
      rw [pairAt_of hp]
  have hsz : (as.map Value.ref).length ≤ sizeLine := by rw [List.length_map, lak]; exact Nat.le_of_lt (LIM_lt hlim)
  refine wpAny_call_entry PyProof.Rows.slot_list_sort ⟨_, hob, rfl⟩ PyProof.Rows.entry_list_sort
    (SrtO.list_sort_ord (s := { s with heap := h2, toks := tk }) (SrtO.swo_lex fun u => pairAt h2 u) hob hsz (fun h2' => SrtO.pairs_sortableO (s := { s with heap := h2, toks := tk }) (by omega) kAt fun o e => ?_) fun out s1 s2 => ⟨.none, rfl, ?_⟩) (PyProof.Rows.args_list_sort _)
  · have e' : some o = some (seqObj "list" (as.map Value.ref).toArray 0) := e.symm.trans hob
    cases e'
    intro c
    exact absurd (Value.type.inj c) (by decide)
  · show EP X pins σ Q (.ref h'.objs.size) { s with heap := sortedHeap h2 h'.objs.size (as.map Value.ref) out.toArray, toks := tk }
    obtain ⟨bs, hbs, hperm⟩ : ∃ bs : List Addr, out = bs.map Value.ref ∧ bs.Perm as := by
      obtain ⟨l', h1, h2⟩ := perm_lift Value.ref s2.perm as rfl
      exact ⟨l', h2.symm, h1⟩
    have kF : ∀ b o, b ≠ h'.objs.size → h2.get? b = some o → (sortedHeap h2 h'.objs.size (as.map Value.ref) out.toArray).get? b = some o := fun b o hb e => (PyProof.Rows.sortedHeap_old hb (Heap.lt_size e)).trans e
    have kS : ∀ b o, s.heap.get? b = some o → (sortedHeap h2 h'.objs.size (as.map Value.ref) out.toArray).get? b = some o := fun b o e => kF b o (ne0 _ _ (hk b o e)) (kb b o e)
    obtain ⟨eF, heF⟩ := PyProof.Rows.sortedHeap_at (vs := as.map Value.ref) (out := out.toArray) hob
    have I1 : Inv X pins σ H { s with heap := sortedHeap h2 h'.objs.size (as.map Value.ref) out.toArray, toks := tk } := I.kept (t' := tk) kS
    have hn0 : H h'.objs.size = none := I.hok.fresh (Nat.le_of_lt hlt)
    have hlen : (bs.map V.ref).length ≤ sizeLine := by rw [List.length_map, hperm.length_eq, lak]; exact Nat.le_of_lt (LIM_lt hlim)
    have rv : Vals (bs.map V.ref) out.toArray.toList := by
      rw [hbs]
      exact vals_maps V.ref Value.ref bs fun _ _ => rfl
    have I2 : Inv X pins σ (upd H h'.objs.size (.lst (bs.map V.ref))) { s with heap := sortedHeap h2 h'.objs.size (as.map Value.ref) out.toArray, toks := tk } :=
      I1.take (h' := sortedHeap h2 h'.objs.size (as.map Value.ref) out.toArray) (t' := tk) (fun b ob _ e => e) (I.fpOk (Nat.le_of_lt hlt) hn0) ⟨hlen, out.toArray.toList, eF, rv, heF⟩
    obtain ⟨H2, I3, g, qt⟩ := DX.takeT (P := fun b vs => vs = [.int (pairAt h2 (.ref b)).1, .int (pairAt h2 (.ref b)).2]) I as _ I2 nd fun b hb => by
      obtain ⟨j, hj⟩ := List.mem_iff_getElem?.mp hb
      obtain ⟨e, t, u, he, hg⟩ := pr j b hj
      have hbl : s.heap.objs.size ≤ b := Nat.le_of_lt (hG.above b hb)
      have hpe : pairAt h2 (.ref b) = e := pairAt_of ⟨b, _, t, u, 0, rfl, ka _ _ hg, rfl, rfl⟩
      refine ⟨hbl, ?_, [.int e.1, .int e.2], by rw [hpe], fun H3 => ⟨(by rw [sizeLine_eq]; show 2 ≤ 16777216; omega), [Value.int e.1 t, Value.int e.2 u], .cons ⟨t, rfl⟩ (.cons ⟨u, rfl⟩ .nil), ⟨_, kF _ _ (ne0 _ _ hg) (ka _ _ hg), rfl, 0, rfl⟩⟩⟩
      rw [upd_ne (ne0 _ _ hg)]
      exact I.hok.fresh hbl
    have gr : ∀ b o, H b = some o → H2 b = some o := fun b o e => g b o (by rw [upd_ne (ne_of_none e hn0)]; exact e)
    have esort : bs.map (fun b => pairAt h2 (.ref b)) = sortP ps := by
      refine srtP_eq (((hperm.map _).trans (List.Perm.of_eq kmap)).trans (sortP_perm ps).symm) ?_ (sortP_sorted ps)
      have s1' : SrtO.Srtd (fun v u => SrtO.lexB (pairAt h2 v) (pairAt h2 u)) (bs.map Value.ref) := by rw [← hbs]; exact s1
      have s1'' : (bs.map Value.ref).Pairwise _ := s1'
      rw [List.pairwise_map] at s1''
      show (bs.map _).Pairwise _
      rw [List.pairwise_map]
      refine s1''.imp fun {x y} h => ?_
      unfold leP
      rw [Bool.not_eq_true']
      exact h
    refine ⟨.ref h'.objs.size, H2, I3, rfl, q H2 h'.objs.size bs gr hn0 (g _ _ upd_same) ?_⟩
    rw [← esort]
    refine paired_of (fun b => pairAt h2 (.ref b)) bs fun b hb => ?_
    obtain ⟨vs, ev, hH⟩ := qt b (hperm.mem_iff.mp hb)
    rw [ev] at hH
    exact hH

end
section
variable {G : Gb} {X : Cx} {W : WX}
theorem Ext.all {w : Wd} {H' : Hp} {l : Addr} (h : ∀ b o, w.H b = some o → H' b = some o) (hl : w.H l = none) : Ext w ⟨H', w.N + 1, fun n => if n = w.N then l else w.at_ n⟩ where
  le := Nat.le_succ _
  at_ := fun n hn => if_neg (Nat.ne_of_lt hn)
  keep := fun a u e _ _ => h a u e
  tup := fun a xs e => h a _ e
  frz := fun a o u e => h a _ e
  fresh := fun n h1 h2 u q => by
    have h2' : n < w.N + 1 := h2
    have e : n = w.N := by omega
    have q' : w.H (if n = w.N then l else w.at_ n) = some u := q
    rw [if_pos e, hl] at q'
    cases q'
  dom := fun a u e ht => ⟨u, h a u e, ht⟩
theorem RepS.all {w : Wd} {H' : Hp} {l : Addr} {S : Store} {so : SO} {u : HO} (R : RepS G w S) (h : ∀ b o, w.H b = some o → H' b = some o) (hl : w.H l = none) (e : H' l = some u) (r : RepO G ⟨H', w.N + 1, fun n => if n = w.N then l else w.at_ n⟩ so u) :
    RepS G ⟨H', w.N + 1, fun n => if n = w.N then l else w.at_ n⟩ (S ++ [so]) where
  len := by simp [R.len]
  at_ := fun n o e1 => by
    by_cases hn : n < S.length
    · rw [List.getElem?_append_left hn] at e1
      obtain ⟨v, e2, r1⟩ := R.at_ n o e1
      refine ⟨v, ?_, r1.mono (Ext.all h hl)⟩
      show H' (if n = w.N then l else w.at_ n) = _
      rw [if_neg (Nat.ne_of_lt (R.lt e1))]
      exact h _ _ e2
    · rw [List.getElem?_append_right (Nat.le_of_not_lt hn)] at e1
      have hz : n - S.length = 0 := by
        have := (List.getElem?_eq_some_iff.mp e1).1
        simp at this
        omega
      rw [hz] at e1
      cases e1
      have en : n = w.N := by rw [← R.len]; omega
      refine ⟨u, ?_, r⟩
      show H' (if n = w.N then l else w.at_ n) = _
      rw [if_pos en]
      exact e
  inj := fun i j hi hj e => by
    have far : ∀ i, i < w.N → w.at_ i ≠ l := fun i hi z => by
      obtain ⟨so', e'⟩ := R.there hi
      obtain ⟨u, e1, _⟩ := R.at_ i so' e'
      rw [z, hl] at e1
      cases e1
    have hi' : i < w.N + 1 := hi
    have hj' : j < w.N + 1 := hj
    have e' : (if i = w.N then l else w.at_ i) = (if j = w.N then l else w.at_ j) := e
    rcases Nat.lt_or_ge i w.N with a | a <;> rcases Nat.lt_or_ge j w.N with b | b
    · rw [if_neg (Nat.ne_of_lt a), if_neg (Nat.ne_of_lt b)] at e'
      exact R.inj i j a b e'
    · have ej : j = w.N := by omega
      rw [if_neg (Nat.ne_of_lt a), if_pos ej] at e'
      exact absurd e' (far i a)
    · have ei : i = w.N := by omega
      rw [if_neg (Nat.ne_of_lt b), if_pos ei] at e'
      exact absurd e'.symm (far j b)
    · omega
  tabs := R.tabs.ext h
def asPairs : List (Key × D) → Option (List (Int × Int))
  | [] => some []
  | (k, d) :: r => match k, d with
    | .inl i, .int j => match asPairs r with
      | some ps => some ((i, j) :: ps)
      | none => none
    | _, _ => none
def pairD (p : Int × Int) : D := .tup [.int p.1, .int p.2]
def mSortItems (mo : ME) : ME := fun ρ S => (mo ρ S).bind fun x S1 => match x with
  | .loc n => match S1[n]? with
    | some (.dK kvs) => match asPairs kvs with
      | some ps => if ps.length ≤ LIM then .ok (.loc S1.length) (S1 ++ [.lst ((sortP ps).map pairD)]) else .bad
      | none => .bad
    | _ => .bad
  | _ => .bad
theorem asPairs_ok {w : Wd} : ∀ {kvs : List (Key × D)} {vs : List (Key × V)} {ps : List (Int × Int)}, RepKV G w kvs vs → asPairs kvs = some ps → vs = ps.map kvI
  | [], _, ps, r, h => by obtain rfl := r; cases h; rfl
  | (k, d) :: kvs, _, ps, r, h => by
    obtain ⟨v, us, rfl, h0, h1, h2⟩ := r
    unfold asPairs at h
    split at h
    · rename_i i j
      cases hr : asPairs kvs with
      | none => rw [hr] at h; cases h
      | some qs =>
        rw [hr] at h
        cases h
        have e1 := asPairs_ok h2 hr
        obtain ⟨v1, v2⟩ := v
        have h0' : Sum.inl i = v1 := h0
        have h1' : v2 = .int j := h1
        subst h0' h1'
        rw [e1]
        rfl
    · cases h
theorem paired_reps {w : Wd} : ∀ {bs : List Addr} {ps : List (Int × Int)}, Paired (fun (b : Addr) (q : Int × Int) => w.H b = some (.tup [.int q.1, .int q.2])) bs ps → Reps G w (ps.map pairD) (bs.map V.ref)
  | _, _, .nil => Reps.nil
  | b :: bs, p :: ps, .cons h1 h2 => ⟨.ref b, bs.map V.ref, rfl, ⟨b, _, rfl, h1, ⟨_, _, rfl, rfl, _, _, rfl, rfl, rfl⟩⟩, paired_reps h2⟩
theorem se_sortItems {o : Expr} {mo : ME} {p apos cpos pos : Pos} (hc : X.calm = true) (ho : SE G X W o mo) (hg : Gl X "sorted") (hm : X.mg "sorted" = none)
    (hbase : attributeBase o "items" X.env (eval o X.env) = eval o X.env := by rfl) (hline : (apos.endLine == cpos.line) = true := by rfl)
    (he : starEach [.Call (.Attribute o "items" apos) [] [] cpos] X.env = (false, eval (.Call (.Attribute o "items" apos) [] [] cpos) X.env) :: starEach [] X.env := by rfl) (hpl : (backTo pos (starEach [] X.env)).any (·.1) = false := by rfl) :
    SE G X W (.Call (.Name "sorted" p) [.Call (.Attribute o "items" apos) [] [] cpos] [] pos) (mSortItems mo) :=
  PE.imp (pe_callB (cr_sortDK hc) hg hm (by rfl) (pa_cons (pe_bm0 PySem.F.plainAttrs_dict PySem.F.slot_dict_items PySem.F.type_dict_items mt_itemsK ho hbase hline) pa_nil) (by decide) (by decide) he hpl) fun σ H Q h => by
    obtain ⟨w, ρ, S, rfl, rE, rS, p⟩ := h
    refine ⟨w, ρ, S, rfl, rE, rS, PostG.seq p fun w1 x v S1 he1 x1 r1 q1 p1 => ?_⟩
    clear he1
    split at p1
    · rename_i n
      split at p1
      · rename_i kvs h1
        split at p1
        · rename_i ps hps
          split at p1
          · rename_i hl
            obtain ⟨-, rfl⟩ := q1
            obtain ⟨vs, e1, r⟩ := r1.dK h1
            have e2 := asPairs_ok r hps
            subst e2
            refine ⟨.inr (.inr (.inl ⟨rfl, .inl ⟨_, e1⟩⟩)), w1.at_ n, _, rfl, rfl, e1, fun q hq => ?_⟩
            refine ⟨q, w1.at_ n, ps, rfl, upd_same, by rw [upd_ne (ne_of_none e1 hq)]; exact e1, hl, fun H' l bs hk hn hl' hp => ?_⟩
            have hkk : ∀ b o, w1.H b = some o → H' b = some o := fun b o e => hk b o (by rw [upd_ne (ne_of_none e hq)]; exact e)
            have hnl : w1.H l = none := by
              cases e : w1.H l with
              | none => rfl
              | some u =>
                rw [upd_ne (ne_of_none e hq), e] at hn
                cases hn
            exact p1 _ (.ref l) (Ext.all hkk hnl) (r1.all hkk hnl hl' ⟨_, rfl, paired_reps hp⟩) ⟨by rw [r1.len]; exact Nat.lt_succ_self _, by show V.ref l = V.ref (if S1.length = w1.N then l else w1.at_ S1.length); rw [if_pos r1.len]⟩
          · exact p1.elim
        · exact p1.elim
      · exact p1.elim
    · exact p1.elim
/-- sorted(xs), pairs of ints -/
def asPrs : List D → Option (List (Int × Int))
  | [] => some []
  | d :: r => match d with
    | .tup [.int i, .int j] => match asPrs r with
      | some ps => some ((i, j) :: ps)
      | none => none
    | _ => none
end
end Mx
set_option Elab.async false
set_option linter.all false
set_option maxRecDepth 100000
set_option maxHeartbeats 2000000
/-! The layer M, part L: what is known of the text's defs, classes, tables. -/
namespace Mx
open PySem PySem.Spec PyProof.Rows L2
theorem u64 {k : Nat} {A : Around} (r : Room k A) : A.units + 64 < cLine := by have := r.un; omega
theorem u1 {k : Nat} {A : Around} (r : Room k A) : A.units + 1 < cLine := by have := r.un; omega
/-- a def -/
structure DefOk (G : Gb) (mg : Str → Option Value) (x : Str) (st : Stmt) (ps : List Str) where
  a : Addr
  fd : FuncData
  c : Addr
  F : FunC G.K x x st a fd c
  g : mg x = some (.ref a)
  b : Binds G.K fd ps []
/-- an exception class -/
structure ExcOk (G : Gb) (mg : Str → Option Value) (x : Str) where
  C : Addr
  cA : G.cA x = some C
  g : mg x = some (.ref C)
  ei : PySem.W.excIn G.K C He.veBase "ValueError.__new__" = true
  kp : PySem.W.keepIn G.K (.ref C) = true
  sb : PySem.W.subIn G.K (.ref C) (.type "BaseException") = some true
  ty : PySem.W.typeIn G.K (.ref C) = some (.type "type")
/-- the table of the def whose code object is c; its codes bear the name q -/
structure TabOk (G : Gb) (mg : Str → Option Value) (base : Heap) (c : Addr) (q : Str) where
  P : Addr
  tb : LamX.TabB base mg c P
  m : (P, q) ∈ G.T
  u : ∀ p ∈ G.T, p.1 = P → p.2 = q
section
variable {G : Gb} {X : Cx} {W : WX}
theorem ss_raiseE {x msg : Str} {j : Nat} {p p2 p3 pos : Pos} (e : ExcOk G X.mg x) (hK : X.K = G.K) (hc : X.calm = true) (tk : Takes X W) (hg : Gl X x) (hdb : (x == ("__debug__" : Str)) = false := by decide) :
    SS G X W (.Raise (some (.Call (.Name x p) [.Constant (.str msg) j p2] [] p3)) none pos) (msRaise x) :=
  ss_raise (B := "ValueError") (initId := "ValueError.__init__") hc tk e.cA PySem.F.excBase_ValueError (by rw [hK]; exact e.ei) e.g (by rw [hK]; exact e.kp) (raises_own (by rw [hK]; exact e.sb) (by rw [hK]; exact e.ty)) hg hdb
theorem se_callD {k n : Nat} {st : Stmt} {ps : List Str} {F : DF} {x : Str} {p pos : Pos} {e : Expr} {es : List Expr} {mr : MA} (d : DefOk G X.mg x st ps) (hK : X.K = G.K) (FN : FnOk X.prog X.w X.K X.mg X.base (L2.CX X.prog X.w) k d.a d.fd ps (spM G n F)) (tk : Takes X W) (hr : Room k X.A) (hg : Gl X x)
    (ha : SA G X W (e :: es) mr) (hdb : (x == ("__debug__" : Str)) = false := by decide)
    (he : starEach (e :: es) X.env = (false, eval e X.env) :: starEach es X.env := by rfl) (hpl : (backTo pos (starEach es X.env)).any (·.1) = false := by rfl) :
    SE G X W (.Call (.Name x p) (e :: es) [] pos) (mCall n F mr) := se_call FN tk hr hg d.g (by rw [hK]; exact d.F.kp) (by rw [hK]; exact d.b) ha hdb he hpl
theorem se_toldD {st : Stmt} {x a : Str} {c : Addr} {k : Nat} {Ng : List Str} {h0 : ExceptHandler} {hds : List ExceptHandler} {l : List HRow} {p1 p2 p3 p8 : Pos} {params : Arguments} {body : Expr} {scope : Scope} {me : ME} {p lpos pos : Pos}
    (d : DefOk G X.mg x st [a]) (hK : X.K = G.K) (hg : Gl X x) (hst : defBody st = [.Try [.Return (some (.Call (.Name a p1) [] [] p2)) p3] (h0 :: hds) [] [] p8]) (Sg : FnScope Ng [a] (defScope st)) (hNg : Ng[0]? = some a) (hva : Vis (defScope st) a)
    (hr : HRows G X.mg (defScope st) (h0 :: hds) l) (hx : ∀ r ∈ l, ∀ r' ∈ l, PySem.W.exmOne G.K (.ref r.2.1) (.ref r'.2.1) = some (decide (r.1 = r'.1)))
    (T : TabOk G X.mg X.base c (X.env.qual ++ "<lambda>")) (hcode : X.env.code = .ref c) (hro : Room (k + 2) X.A) (L : LamX.LamS X.env.scope scope) (hdef : defaultsOf params X.env = ([], []))
    (hbind : ∀ (q : Str) (cl : List (Str × Addr)) (pm cv ctv : Value), bindArgs (PySem.W.kla_fn "<lambda>" q params body scope cl pm cv ctv) ⟨[], []⟩ = pure [])
    (hbody : ∀ (A : Around) (outer : List Env) (s : Shared) (H : Hp) (E : XK) (f c' : Addr), Room k (A.deeper (LamX.lamEnv X scope s.heap.objs.size f c')) → SE G (LamX.lamCx X A outer s H E scope f c') (WD E) body me)
    (hst2 : ∀ f : Addr, (L2.start Ng [V.ref f])[0]? = some (some (V.ref f)))
    (hdb : (x == ("__debug__" : Str)) = false := by decide) (hd : (a == ("__debug__" : Str)) = false := by decide) (hcd : (a == ("__classdict__" : Str)) = false := by decide) :
    SE G X W (.Call (.Name x p) [.Lambda params body scope lpos] [] pos) (mTold l me) := by
  obtain ⟨oc, od, kV, doc, pm, an, ct, osl, e, lk, hcd2⟩ := d.F.ex
  have hb := d.b
  rw [e] at lk hb
  rw [hst] at lk hb
  exact se_told hg d.g (by rw [hK]; exact d.F.kp) (by rw [hK]; exact lk) (by rw [hK]; exact hcd2) (by rw [hK]; exact hb) Sg hNg hva hr (by rw [hK]; exact hx) T.tb hcode T.m T.u hro L hdef hbind hbody hst2 hdb hd hcd
theorem se_anyD {mi : MI} {t : Tg} {me : ME} {k : Nat} {c : Addr} {tg iter elt : Expr} {scope : Scope} {own : List (Str × Nat)} {gpos p pos : Pos}
    (hK : X.K = G.K) (hr : Room (k + 3) X.A) (hN : X.N.Nodup) (hgl : Gl X "any") (hmg : X.mg "any" = none) (T : TabOk G X.mg X.base c (X.env.qual ++ "<genexpr>")) (hcode : X.env.code = .ref c) (hi : SI G X W tg iter mi) (ok : GenOk X.N X.env.scope scope own) (hts : ∀ i ∈ t.slots, i ∈ own.map (fun q : Str × Nat => q.2))
    (hg : ∀ (s : Shared) (H : Hp) (C : Addr) (code : Value) (fp : List Addr), PG (genCx X (X.A.in1.in1.deeper (gEnv X scope C code)) s H scope C code fp) tg (gT X.K t))
    (he : ∀ (s : Shared) (H : Hp) (C : Addr) (code : Value) (fp : List Addr), Room (k + 2) (X.A.in1.in1.deeper (gEnv X scope C code)) → SE G (genCx X (X.A.in1.in1.deeper (gEnv X scope C code)) s H scope C code fp) W0 elt me)
    (hs : ∀ x, genFold iter X.env x = pure x := by intro _; rfl)
    (hst : starEach [.GeneratorExp elt [⟨tg, iter, [], 0⟩] scope gpos] X.env = (false, eval (.GeneratorExp elt [⟨tg, iter, [], 0⟩] scope gpos) X.env) :: starEach [] X.env := by rfl) :
    SE G X W (.Call (.Name "any" p) [.GeneratorExp elt [⟨tg, iter, [], 0⟩] scope gpos] [] pos) (mAnyG true mi t (own.map (fun q : Str × Nat => q.2)) me) :=
  se_any hK hr hN hgl hmg T.tb hcode T.m T.u hi ok hts hg he hs hst
theorem se_allD {mi : MI} {t : Tg} {me : ME} {k : Nat} {c : Addr} {tg iter elt : Expr} {scope : Scope} {own : List (Str × Nat)} {gpos p pos : Pos}
    (hK : X.K = G.K) (hr : Room (k + 3) X.A) (hN : X.N.Nodup) (hgl : Gl X "all") (hmg : X.mg "all" = none) (T : TabOk G X.mg X.base c (X.env.qual ++ "<genexpr>")) (hcode : X.env.code = .ref c) (hi : SI G X W tg iter mi) (ok : GenOk X.N X.env.scope scope own) (hts : ∀ i ∈ t.slots, i ∈ own.map (fun q : Str × Nat => q.2))
    (hg : ∀ (s : Shared) (H : Hp) (C : Addr) (code : Value) (fp : List Addr), PG (genCx X (X.A.in1.in1.deeper (gEnv X scope C code)) s H scope C code fp) tg (gT X.K t))
    (he : ∀ (s : Shared) (H : Hp) (C : Addr) (code : Value) (fp : List Addr), Room (k + 2) (X.A.in1.in1.deeper (gEnv X scope C code)) → SE G (genCx X (X.A.in1.in1.deeper (gEnv X scope C code)) s H scope C code fp) W0 elt me)
    (hs : ∀ x, genFold iter X.env x = pure x := by intro _; rfl)
    (hst : starEach [.GeneratorExp elt [⟨tg, iter, [], 0⟩] scope gpos] X.env = (false, eval (.GeneratorExp elt [⟨tg, iter, [], 0⟩] scope gpos) X.env) :: starEach [] X.env := by rfl) :
    SE G X W (.Call (.Name "all" p) [.GeneratorExp elt [⟨tg, iter, [], 0⟩] scope gpos] [] pos) (mAnyG false mi t (own.map (fun q : Str × Nat => q.2)) me) :=
  se_all hK hr hN hgl hmg T.tb hcode T.m T.u hi ok hts hg he hs hst
end
def mToldN (l : List (Str × Str)) (m : ME) : ME := fun ρ S => match m ρ S with
  | .ok d S1 => .ok d S1
  | .exc x S1 => match l.lookup x.cls with
    | some r => .ok (.str r) S1
    | none => .bad
  | .bad => .bad
theorem lookup_rows {x : Str} : ∀ {l : List HRow}, (l.lookup x).map (fun q => q.2) = (l.map fun r => (r.1, r.2.2)).lookup x
  | [] => rfl
  | (a, b) :: l => by
    rw [List.map_cons, List.lookup_cons, List.lookup_cons]
    dsimp only
    cases x == a with
    | true => rfl
    | false => exact lookup_rows
section
end
end Mx
set_option Elab.async false
set_option linter.all false
set_option maxRecDepth 100000
set_option maxHeartbeats 2000000
/-! The layer M, part N: the end of a law. -/
namespace Mx
open PySem PySem.Spec PyProof.Rows L2
/-- what a law's M-function has to answer -/
def LawM (F : DF) (n : Nat) : Prop := ∀ (ns : List Int) (d : D) (S : Store), ns.length ≤ n → (∀ z ∈ ns, Builtin.Int.intBits z ≤ 1048576) → (S = [] ∧ d = .scr ns) ∨ (S = [.lst (ns.map .int)] ∧ d = .loc 0) → ∃ S', F [d] S = .ok (.bl true) S'
theorem law_sp {G : Gb} {F : DF} {n : Nat} {H : Hp} {a : Addr} {ns : List Int} (h : LawM F n) (hl : ns.length ≤ n) (hz : ∀ z ∈ ns, Builtin.Int.intBits z ≤ 1048576) (hT : ∀ p ∈ G.T, H p.1 = some (.tbl #[])) (hS : SqL G.K H a (ns.map V.int)) :
    spM G 1 F [.ref a] H (fun v _ => v = .bl true) fun _ _ _ => False := by
  have tabs : LamX.Tabs G.T H := fun p hp => LamX.TabS.nil (hT p hp)
  have fin : ∀ {w : Wd} {d : D} {S : Store}, ((S = [] ∧ d = .scr ns) ∨ (S = [.lst (ns.map .int)] ∧ d = .loc 0)) → PostG G w (Rep G) (F [d] S) (fun v _ => v = .bl true) fun _ _ _ => False := fun {w d S} q => by
    obtain ⟨S', e⟩ := h ns d S hl hz q
    rw [e]
    exact fun w' v x r rr => rr
  rcases hS with (hS | hS) | hS
  · refine ⟨⟨H, 1, fun _ => a⟩, [.loc 0], [.lst (ns.map .int)], rfl, ⟨rfl, fun k o e => ?_, fun i j hi hj _ => ?_, tabs⟩, ⟨_, _, rfl, ⟨Nat.zero_lt_one, rfl⟩, rfl⟩, rfl, fin (.inr ⟨rfl, rfl⟩)⟩
    · cases k with
      | zero => cases e; exact ⟨_, hS, _, rfl, Reps.ints.mpr rfl⟩
      | succ k => simp at e
    · have hi' : i < 1 := hi
      have hj' : j < 1 := hj
      omega
  · obtain ⟨o, hS⟩ := hS
    refine ⟨⟨H, 0, fun _ => 0⟩, [.scr ns], [], rfl, ⟨rfl, fun k o e => by simp at e, fun i j hi => absurd hi (Nat.not_lt_zero _), tabs⟩, ⟨_, _, rfl, ⟨a, rfl, .inl ⟨o, hS⟩⟩, rfl⟩, rfl, fin (.inl ⟨rfl, rfl⟩)⟩
  · refine ⟨⟨H, 0, fun _ => 0⟩, [.scr ns], [], rfl, ⟨rfl, fun k o e => by simp at e, fun i j hi => absurd hi (Nat.not_lt_zero _), tabs⟩, ⟨_, _, rfl, ⟨a, rfl, .inr hS⟩, rfl⟩, rfl, fin (.inl ⟨rfl, rfl⟩)⟩
/-! ### facts from the head -/
open He in
theorem funC_of {K : PySem.W.Frag} {x : Str} {st : Stmt} {p : Defn} {fd : FuncData} (F : FunD K x x (defArgs st) (defBody st) (defScope st) [] [] (fAd K p) fd) : FunC K x x st (fAd K p) fd (codeOf K p) := by
  obtain ⟨oc, od, dV, kV, doc, pm, an, cdv, ct, osl, rfl, lk, hcd, hD, hK⟩ := F.ex
  obtain ⟨c, rfl⟩ := codeIn_ref hcd
  have hc : codeOf K p = c := codeOf_eq lk rfl
  rcases hD with ⟨_, rfl⟩ | ⟨e, _⟩
  · subst hc
    exact ⟨⟨oc, od, kV, doc, pm, an, ct, osl, rfl, lk, hcd⟩, F.kp⟩
  · exact absurd rfl e
open He in
theorem defOk_of {G : Gb} {mg : Str → Option Value} {h : Heap} {x : Str} {st : Stmt} {ps : List Str} (X : G.K.In h) (N : h.Ns mainGlobals mg) (hF : ∃ fd, FunD G.K x x (defArgs st) (defBody st) (defScope st) [] [] (fAd G.K (x, none)) fd) (hg : (Fa.glo x).ok G.K = true)
    (hb : ∀ (kV doc pm : Value) (an : Option Addr) (cdv ct : Value) (us : List Value), us.length = ps.length → bindArgs (PySem.W.fnOf x x (defArgs st) (defBody st) (defScope st) .none kV doc pm an cdv ct) ⟨us, []⟩ = pure (ps.zip us)) :
    ∃ d : DefOk G mg x st ps, d.a = ga G.K x ∧ d.c = codeOf G.K (x, none) ∧ ∀ s us, us.length = ps.length → BindsTo s d.fd ⟨us, []⟩ (ps.zip us) := by
  obtain ⟨fd, F⟩ := hF
  exact ⟨⟨ga G.K x, fd, codeOf G.K (x, none), funC_of F, glo_ok X N hg, F.bindsN hb⟩, rfl, rfl, fun s us hl => F.bindsA hb s us hl⟩
open He in
theorem excOk_of {G : Gb} {mg : Str → Option Value} {h : Heap} {x : Str} (X : G.K.In h) (N : h.Ns mainGlobals mg) (hg : (Fa.glo x).ok G.K = true) (he : (Fa.exc x).ok G.K = true) (hc : G.cA x = some (ga G.K x)) : ∃ e : ExcOk G mg x, e.C = ga G.K x := by
  obtain ⟨h1, h2, h3, h4⟩ := exc_ok he
  exact ⟨⟨ga G.K x, hc, glo_ok X N hg, h1, h2, h3, h4⟩, rfl⟩
theorem tab_uniq {T : List (Addr × Str)} {l : List Addr} {i : Nat} {P : Addr} {q : Str} (nd : l.Nodup) (h : T[i]? = some (P, q)) (e : T.map (·.1) = l := by rfl) : ∀ p ∈ T, p.1 = P → p.2 = q := by
  intro p hp hP
  obtain ⟨j, hj, ej⟩ := List.mem_iff_getElem.mp hp
  obtain ⟨hi, ei⟩ := List.getElem?_eq_some_iff.mp h
  have hij : i = j := by
    subst e
    have h1 : (T.map (·.1))[i]'(by simpa using hi) = (T.map (·.1))[j]'(by simpa using hj) := by
      rw [List.getElem_map, List.getElem_map, ei, ej, hP]
    exact (List.getElem_inj nd).mp h1
  subst hij
  rw [ej] at ei
  rw [ei]
theorem cx_no {P : Program} {w : World} {H : Hp} {s s' : Shared} {e : Value} (h : L2.CX P w [] H s (fun _ _ _ => False) e s') : False := by
  obtain ⟨_, _, _, _, _, _, _, _, _, _, _, _, z⟩ := h
  exact z
end Mx
set_option Elab.async false
set_option linter.all false
set_option maxRecDepth 100000
set_option maxHeartbeats 4000000
/-! Printed by gen.py: the defs of the text, their M-functions, that they keep to them. -/
namespace K01
open PySem PySem.Spec PyProof.Rows L2 Mx
def topS (i : Nat) : Stmt := PySem.Challenge.pw_idealhall_k01_clocks.main.body.getD i (.Pass ⟨0, 0, 0, 0⟩)
abbrev s__law_told : Stmt := topS 27
abbrev s__law_dice : Stmt := topS 24
abbrev s__law_rounds : Stmt := topS 26
abbrev s__law_roll : Stmt := topS 25
abbrev s_shared_ways : Stmt := topS 8
abbrev s_shared : Stmt := topS 7
abbrev s_back : Stmt := topS 9
abbrev s_power : Stmt := topS 10
abbrev s_passes : Stmt := topS 14
abbrev s_is_prime : Stmt := topS 13
abbrev s_some_part : Stmt := topS 16
abbrev s_parts : Stmt := topS 15
abbrev s_count_apart : Stmt := topS 18
abbrev s_turns : Stmt := topS 21
abbrev s_together : Stmt := topS 20
abbrev s__law_together : Stmt := topS 28
abbrev s_raised : Stmt := topS 11
abbrev s_divisors : Stmt := topS 17
abbrev s_weight : Stmt := topS 19
abbrev s__law_parts : Stmt := topS 29
abbrev s_square_sign : Stmt := topS 22
abbrev s__law_signs : Stmt := topS 30
abbrev s_root_floor : Stmt := topS 12
abbrev s_law : Stmt := topS 31
theorem sc__law_told : FnScope ["what"] ["what"] (defScope s__law_told) := ⟨rfl, rfl, rfl, by decide +kernel, rfl, by decide +kernel, by decide +kernel⟩
theorem sc__law_dice : FnScope ["cell"] ["cell"] (defScope s__law_dice) := ⟨rfl, rfl, rfl, by decide +kernel, rfl, by decide +kernel, by decide +kernel⟩
theorem sc__law_rounds : FnScope ["script", "most", "cells", "cell"] ["script", "most"] (defScope s__law_rounds) := ⟨rfl, rfl, rfl, by decide +kernel, rfl, by decide +kernel, by decide +kernel⟩
theorem sc__law_roll : FnScope ["dice", "many", "found"] ["dice", "many"] (defScope s__law_roll) := ⟨rfl, rfl, rfl, by decide +kernel, rfl, by decide +kernel, by decide +kernel⟩
theorem sc_shared_ways : FnScope ["a", "b", "x", "y", "u", "v", "k"] ["a", "b"] (defScope s_shared_ways) := ⟨rfl, rfl, rfl, by decide +kernel, rfl, by decide +kernel, by decide +kernel⟩
theorem sc_shared : FnScope ["a", "b"] ["a", "b"] (defScope s_shared) := ⟨rfl, rfl, rfl, by decide +kernel, rfl, by decide +kernel, by decide +kernel⟩
theorem sc_back : FnScope ["a", "n", "d", "x", "y"] ["a", "n"] (defScope s_back) := ⟨rfl, rfl, rfl, by decide +kernel, rfl, by decide +kernel, by decide +kernel⟩
theorem sc_power : FnScope ["a", "many", "n", "found"] ["a", "many", "n"] (defScope s_power) := ⟨rfl, rfl, rfl, by decide +kernel, rfl, by decide +kernel, by decide +kernel⟩
theorem sc_passes : FnScope ["a", "n", "many", "k", "here", "turn"] ["a", "n"] (defScope s_passes) := ⟨rfl, rfl, rfl, by decide +kernel, rfl, by decide +kernel, by decide +kernel⟩
theorem sc_is_prime : FnScope ["n", "row", "p"] ["n"] (defScope s_is_prime) := ⟨rfl, rfl, rfl, by decide +kernel, rfl, by decide +kernel, by decide +kernel⟩
theorem sc_some_part : FnScope ["n", "c", "slow", "fast", "d"] ["n"] (defScope s_some_part) := ⟨rfl, rfl, rfl, by decide +kernel, rfl, by decide +kernel, by decide +kernel⟩
theorem sc_parts : FnScope ["n", "found", "p", "left", "one", "d"] ["n"] (defScope s_parts) := ⟨rfl, rfl, rfl, by decide +kernel, rfl, by decide +kernel, by decide +kernel⟩
theorem sc_count_apart : FnScope ["n", "found", "p", "many"] ["n"] (defScope s_count_apart) := ⟨rfl, rfl, rfl, by decide +kernel, rfl, by decide +kernel, by decide +kernel⟩
theorem sc_turns : FnScope ["a", "n", "found", "p", "many", "k"] ["a", "n"] (defScope s_turns) := ⟨rfl, rfl, rfl, by decide +kernel, rfl, by decide +kernel, by decide +kernel⟩
theorem sc_together : FnScope ["row", "r", "n", "s", "m", "d", "x", "y"] ["row"] (defScope s_together) := ⟨rfl, rfl, rfl, by decide +kernel, rfl, by decide +kernel, by decide +kernel⟩
theorem sc__law_together : FnScope ["dice", "rows", "fit", "answer", "k", "r", "m"] ["dice"] (defScope s__law_together) := ⟨rfl, rfl, rfl, by decide +kernel, rfl, by decide +kernel, by decide +kernel⟩
theorem sc_raised : FnScope ["a", "many", "found", "k"] ["a", "many"] (defScope s_raised) := ⟨rfl, rfl, rfl, by decide +kernel, rfl, by decide +kernel, by decide +kernel⟩
theorem sc_divisors : FnScope ["n", "found", "p", "many", "one", "k"] ["n"] (defScope s_divisors) := ⟨rfl, rfl, rfl, by decide +kernel, rfl, by decide +kernel, by decide +kernel⟩
theorem sc_weight : FnScope ["n", "row", "p", "many"] ["n"] (defScope s_weight) := ⟨rfl, rfl, rfl, by decide +kernel, rfl, by decide +kernel, by decide +kernel⟩
theorem sc__law_parts : FnScope ["dice", "number", "whole", "product_there", "p", "often", "k"] ["dice"] (defScope s__law_parts) := ⟨rfl, rfl, rfl, by decide +kernel, rfl, by decide +kernel, by decide +kernel⟩
theorem sc_square_sign : FnScope ["a", "n", "found"] ["a", "n"] (defScope s_square_sign) := ⟨rfl, rfl, rfl, by decide +kernel, rfl, by decide +kernel, by decide +kernel⟩
theorem sc__law_signs : FnScope ["dice", "a", "odd", "sign", "p", "often", "one", "k"] ["dice", "a"] (defScope s__law_signs) := ⟨rfl, rfl, rfl, by decide +kernel, rfl, by decide +kernel, by decide +kernel⟩
theorem sc_root_floor : FnScope ["number", "low", "high", "middle"] ["number"] (defScope s_root_floor) := ⟨rfl, rfl, rfl, by decide +kernel, rfl, by decide +kernel, by decide +kernel⟩
theorem sc_law : FnScope ["script", "dice", "a", "b", "n", "d", "x", "y", "common", "inverse", "due", "many", "here", "k", "number"] ["script"] (defScope s_law) := ⟨rfl, rfl, rfl, by decide +kernel, rfl, by decide +kernel, by decide +kernel⟩
/-- what is known of the text -/
structure FX (G : Gb) (mg : Str → Option Value) (base : Heap) where
  d__law_told : DefOk G mg "_law_told" s__law_told ["what"]
  d__law_dice : DefOk G mg "_law_dice" s__law_dice ["cell"]
  d__law_rounds : DefOk G mg "_law_rounds" s__law_rounds ["script", "most"]
  d__law_roll : DefOk G mg "_law_roll" s__law_roll ["dice", "many"]
  d_shared_ways : DefOk G mg "shared_ways" s_shared_ways ["a", "b"]
  d_shared : DefOk G mg "shared" s_shared ["a", "b"]
  d_back : DefOk G mg "back" s_back ["a", "n"]
  d_power : DefOk G mg "power" s_power ["a", "many", "n"]
  d_passes : DefOk G mg "passes" s_passes ["a", "n"]
  d_is_prime : DefOk G mg "is_prime" s_is_prime ["n"]
  d_some_part : DefOk G mg "some_part" s_some_part ["n"]
  d_parts : DefOk G mg "parts" s_parts ["n"]
  d_count_apart : DefOk G mg "count_apart" s_count_apart ["n"]
  d_turns : DefOk G mg "turns" s_turns ["a", "n"]
  d_together : DefOk G mg "together" s_together ["row"]
  d__law_together : DefOk G mg "_law_together" s__law_together ["dice"]
  d_raised : DefOk G mg "raised" s_raised ["a", "many"]
  d_divisors : DefOk G mg "divisors" s_divisors ["n"]
  d_weight : DefOk G mg "weight" s_weight ["n"]
  d__law_parts : DefOk G mg "_law_parts" s__law_parts ["dice"]
  d_square_sign : DefOk G mg "square_sign" s_square_sign ["a", "n"]
  d__law_signs : DefOk G mg "_law_signs" s__law_signs ["dice", "a"]
  d_root_floor : DefOk G mg "root_floor" s_root_floor ["number"]
  d_law : DefOk G mg "law" s_law ["script"]
  e_BadField : ExcOk G mg "BadField"
  e_BadNumber : ExcOk G mg "BadNumber"
  e_NoWay : ExcOk G mg "NoWay"
  e_TooLarge : ExcOk G mg "TooLarge"
  m_abs : mg "abs" = none
  m_all : mg "all" = none
  m_any : mg "any" = none
  m_int : mg "int" = none
  m_len : mg "len" = none
  m_list : mg "list" = none
  m_max : mg "max" = none
  m_range : mg "range" = none
  m_sorted : mg "sorted" = none
  m_sum : mg "sum" = none
  m_tuple : mg "tuple" = none
  t_is_prime : TabOk G mg base d_is_prime.c (("is_prime" ++ ".<locals>.") ++ "<genexpr>")
  t__law_together : TabOk G mg base d__law_together.c (("_law_together" ++ ".<locals>.") ++ "<lambda>")
  t_weight : TabOk G mg base d_weight.c (("weight" ++ ".<locals>.") ++ "<genexpr>")
  t_law : TabOk G mg base d_law.c (("law" ++ ".<locals>.") ++ "<lambda>")
  exm : ∀ r ∈ ([("BadNumber", e_BadNumber.C), ("BadField", e_BadField.C), ("NoWay", e_NoWay.C), ("TooLarge", e_TooLarge.C)] : List (Str × Addr)), ∀ r' ∈ ([("BadNumber", e_BadNumber.C), ("BadField", e_BadField.C), ("NoWay", e_NoWay.C), ("TooLarge", e_TooLarge.C)] : List (Str × Addr)), PySem.W.exmOne G.K (.ref r.2) (.ref r'.2) = some (decide ((r.1 : Str) = r'.1))
variable {P : Program} {w0 : World} {G : Gb} {mg : Str → Option Value} {base : Heap}
def toldN : List (Str × Str) := [("BadNumber", "number"), ("BadField", "field"), ("NoWay", "no way"), ("TooLarge", "large")]
def toldR (Φ : FX G mg base) : List HRow := [("BadNumber", Φ.e_BadNumber.C, "number"), ("BadField", Φ.e_BadField.C, "field"), ("NoWay", Φ.e_NoWay.C, "no way"), ("TooLarge", Φ.e_TooLarge.C, "large")]
theorem told_hds (Φ : FX G mg base) : HRows G mg (defScope s__law_told) (match defBody s__law_told with | [.Try _ h _ _ _] => h | _ => []) (toldR Φ) := (HRows.cons rfl Φ.e_BadNumber.g Φ.e_BadNumber.cA (HRows.cons rfl Φ.e_BadField.g Φ.e_BadField.cA (HRows.cons rfl Φ.e_NoWay.g Φ.e_NoWay.cA (HRows.cons rfl Φ.e_TooLarge.g Φ.e_TooLarge.cA HRows.nil))))
theorem told_exm (Φ : FX G mg base) : ∀ r ∈ toldR Φ, ∀ r' ∈ toldR Φ, PySem.W.exmOne G.K (.ref r.2.1) (.ref r'.2.1) = some (decide (r.1 = r'.1)) := by
  intro r hr r' hr'
  have h1 : (r.1, r.2.1) ∈ (toldR Φ).map (fun q => (q.1, q.2.1)) := List.mem_map.mpr ⟨r, hr, rfl⟩
  have h2 : (r'.1, r'.2.1) ∈ (toldR Φ).map (fun q => (q.1, q.2.1)) := List.mem_map.mpr ⟨r', hr', rfl⟩
  exact Φ.exm (r.1, r.2.1) h1 (r'.1, r'.2.1) h2
theorem told_look (Φ : FX G mg base) (me : ME) : mTold (toldR Φ) me = mToldN toldN me := by
  funext ρ S
  unfold mTold mToldN
  cases me ρ S with
  | exc x S1 =>
    have e : ((toldR Φ).lookup x.cls).map (·.2) = toldN.lookup x.cls := lookup_rows (l := toldR Φ)
    dsimp only
    cases h : (toldR Φ).lookup x.cls with
    | none => rw [h] at e; rw [← e]; rfl
    | some r => rw [h] at e; rw [← e]; rfl
  | _ => rfl
theorem se_toldN {X : Cx} {W : WX} {c : Addr} {k : Nat} {params : Arguments} {body : Expr} {scope : Scope} {me : ME} {p lpos pos : Pos} (Φ : FX G mg base) (hmg : X.mg = mg) (hb : X.base = base) (hK : X.K = G.K) (hg : Gl X "_law_told")
    (T : TabOk G mg base c (X.env.qual ++ "<lambda>")) (hcode : X.env.code = .ref c) (hro : Room (k + 2) X.A) (L : LamX.LamS X.env.scope scope) (hdef : defaultsOf params X.env = ([], []))
    (hbind : ∀ (q : Str) (cl : List (Str × Addr)) (pm cv ctv : Value), bindArgs (PySem.W.kla_fn "<lambda>" q params body scope cl pm cv ctv) ⟨[], []⟩ = pure [])
    (hbody : ∀ (A : Around) (outer : List Env) (s : Shared) (H : Hp) (E : XK) (f c' : Addr), Room k (A.deeper (LamX.lamEnv X scope s.heap.objs.size f c')) → SE G (LamX.lamCx X A outer s H E scope f c') (WD E) body me) :
    SE G X W (.Call (.Name "_law_told" p) [.Lambda params body scope lpos] [] pos) (mToldN toldN me) := by
  subst hmg hb
  rw [← told_look Φ]
  exact se_toldD Φ.d__law_told hK hg rfl sc__law_told rfl (.inl rfl) (told_hds Φ) (told_exm Φ) T hcode hro L hdef hbind hbody (fun _ => rfl)
/-- _law_dice -/
def m__law_dice : MS := (msSeq (msIf (mTest (mChain ltM ltM (mBin subM (mC (.int 0)) (mC (.int 10))) (mV 0) (mC (.int 10)))) (msRet (mLst (mCons (mCB absM (mCons (mV 0) mNil)) (mCons (mC (.int 0)) (mCons (mC (.int 2)) mNil))))) msNil)
  (msRet (mLst (mCons (mV 0) (mCons (mBin addM (mC (.int 1)) (mBin modM (mCB int1M (mCons (mV 0) mNil)) (mC (.int 1009)))) (mCons (mCB int1M (mCons (mBin geM (mV 0) (mBin powM (mC (.int 10)) (mC (.int 18)))) mNil)) mNil))))))
def f__law_dice : DF := fnM 1 m__law_dice
theorem ok__law_dice (Φ : FX G mg base) : FnOk P w0 G.K mg base (L2.CX P w0) 1 Φ.d__law_dice.a Φ.d__law_dice.fd ["cell"] (spM G 1 f__law_dice) :=
  fnM_ok (k := 0) Φ.d__law_dice.F sc__law_dice rfl fun A outer s H E hr => (sss_cons (ss_if (st_chain op_lt cmpM_ok op_lt cmpM_ok (se_sub se_int se_int) (se_var 0) se_int) (sss_one (ss_ret (se_lst (sa_cons (se_callB call_abs absM_ok (by rfl) Φ.m_abs (by rfl) (sa_cons (se_var 0) sa_nil)) (sa_cons se_int (sa_cons se_int sa_nil)))))) sss_nil)
  (sss_one (ss_ret (se_lst (sa_cons (se_var 0) (sa_cons (se_add rfl se_int (se_mod (se_callTy call_int1 int1M_ok (by rfl) Φ.m_int (by rfl) (sa_cons (se_var 0) sa_nil)) se_int)) (sa_cons (se_callTy call_int1 int1M_ok (by rfl) Φ.m_int (by rfl) (sa_cons (se_ge (se_var 0) (se_pow se_int se_int)) sa_nil)) sa_nil)))))))
/-- _law_rounds -/
def m__law_rounds : MS := (msSeq (msAsg (.one 2) (mSl (mV 0) mNoP (mP (mV 1))))
  (msSeq (msIf (mTest (mBin eqM (mV 2) (mLst mNil))) (msAsg (.one 2) (mLst (mCons (mC (.int 0)) mNil))) msNil)
  (msRet (mLc [3] (miSeq (mV 2)) (.one 3) mYes (mCall 1 f__law_dice (mCons (mV 3) mNil))))))
def f__law_rounds : DF := fnM 4 m__law_rounds
theorem ok__law_rounds (Φ : FX G mg base) : FnOk P w0 G.K mg base (L2.CX P w0) 2 Φ.d__law_rounds.a Φ.d__law_rounds.fd ["script", "most"] (spM G 2 f__law_rounds) :=
  fnM_ok (k := 1) Φ.d__law_rounds.F sc__law_rounds rfl fun A outer s H E hr => (sss_cons (ss_set (i := 2) rfl sc__law_rounds.nd rfl (.inl rfl) (se_sl rfl (se_var 0) so_none (so_some (se_var 1))))
  (sss_cons (ss_if (st_eq rfl (u64 hr) (se_var 2) (se_lst sa_nil)) (sss_one (ss_set (i := 2) rfl sc__law_rounds.nd rfl (.inl rfl) (se_lst (sa_cons se_int sa_nil)))) sss_nil)
  (sss_one (ss_ret (se_lc (own := [("cell", 3)]) (t := (.one 3)) rfl rfl sc__law_rounds.nd (si_seq rfl (se_var 2)) (blkOk_by (by kernel_rfl)) (by decide) (fun _ _ _ _ _ => (gt_one sc__law_rounds.nd rfl (.inl rfl))) (fun _ _ _ _ _ => sts_nil) (fun _ _ _ _ _ => (se_callD Φ.d__law_dice rfl (ok__law_dice Φ) LamX.takes0 (hr.mono (by decide)) (by rfl) (sa_cons (se_var 3) sa_nil))))))))
/-- _law_roll -/
def m__law_roll : MS := (msSeq (msIf (mOr (mTest (mBin eqM (mBin ixM (mV 0) (mC (.int 2))) (mC (.int 2)))) (mAnd (mTest (mBin eqM (mBin ixM (mV 0) (mC (.int 2))) (mC (.int 1)))) (mTest (mBin gtM (mBin ixM (mV 0) (mC (.int 0))) (mC (.int 0)))))) (msSeq (msAsg (.one 2) (mBin modM (mCB int1M (mCons (mBin ixM (mV 0) (mC (.int 0))) mNil)) (mV 1)))
  (msSeq (msSub setLM (mV 0) (mC (.int 0)) (mBin divM (mBin ixM (mV 0) (mC (.int 0))) (mV 1)))
  (msRet (mV 2)))) msNil)
  (msSeq (msSub setLM (mV 0) (mC (.int 2)) (mC (.int 0)))
  (msSeq (msSub setLM (mV 0) (mC (.int 0)) (mBin modM (mCB int1M (mCons (mBin addM (mBin addM (mBin mulM (mBin ixM (mV 0) (mC (.int 0))) (mC (.int 48271))) (mBin mulM (mBin ixM (mV 0) (mC (.int 1))) (mC (.int 69621)))) (mC (.int 11))) mNil)) (mC (.int 2147483647))))
  (msSeq (msSub setLM (mV 0) (mC (.int 1)) (mBin addM (mBin ixM (mV 0) (mC (.int 1))) (mC (.int 1))))
  (msRet (mBin modM (mCB int1M (mCons (mBin addM (mBin divM (mBin ixM (mV 0) (mC (.int 0))) (mC (.int 7))) (mBin ixM (mV 0) (mC (.int 0)))) mNil)) (mV 1)))))))
def f__law_roll : DF := fnM 3 m__law_roll
theorem ok__law_roll (Φ : FX G mg base) : FnOk P w0 G.K mg base (L2.CX P w0) 1 Φ.d__law_roll.a Φ.d__law_roll.fd ["dice", "many"] (spM G 2 f__law_roll) :=
  fnM_ok (k := 0) Φ.d__law_roll.F sc__law_roll rfl fun A outer s H E hr => (sss_cons (ss_if (PW.pt (sw_or (st_eq rfl (u64 hr) (se_ixs rfl (se_var 0) se_int) se_int) (sw_or1 (PW.pt (sw_and (st_eq rfl (u64 hr) (se_ixs rfl (se_var 0) se_int) se_int) (sw_and1 (st_gt (se_ixs rfl (se_var 0) se_int) se_int))))))) (sss_cons (ss_set (i := 2) rfl sc__law_roll.nd rfl (.inl rfl) (se_mod (se_callTy call_int1 int1M_ok (by rfl) Φ.m_int (by rfl) (sa_cons (se_ixs rfl (se_var 0) se_int) sa_nil)) (se_var 1)))
  (sss_cons (ss_subL (se_div (se_ixs rfl (se_var 0) se_int) (se_var 1)) (se_var 0) se_int)
  (sss_one (ss_ret (se_var 2))))) sss_nil)
  (sss_cons (ss_subL se_int (se_var 0) se_int)
  (sss_cons (ss_subL (se_mod (se_callTy call_int1 int1M_ok (by rfl) Φ.m_int (by rfl) (sa_cons (se_add rfl (se_add rfl (se_mul (se_ixs rfl (se_var 0) se_int) se_int) (se_mul (se_ixs rfl (se_var 0) se_int) se_int)) se_int) sa_nil)) se_int) (se_var 0) se_int)
  (sss_cons (ss_subL (se_add rfl (se_ixs rfl (se_var 0) se_int) se_int) (se_var 0) se_int)
  (sss_one (ss_ret (se_mod (se_callTy call_int1 int1M_ok (by rfl) Φ.m_int (by rfl) (sa_cons (se_add rfl (se_div (se_ixs rfl (se_var 0) se_int) se_int) (se_ixs rfl (se_var 0) se_int)) sa_nil)) (se_var 1))))))))
/-- shared_ways -/
def m_shared_ways : MS := (msSeq (msAsg (.many [2, 3, 4, 5]) (mTup (mCons (mC (.int 1)) (mCons (mC (.int 0)) (mCons (mC (.int 0)) (mCons (mC (.int 1)) mNil))))))
  (msSeq (msWhile (mTest (mBin neM (mV 1) (mC (.int 0)))) (msSeq (msAsg (.one 6) (mBin divM (mV 0) (mV 1)))
  (msSeq (msPar [0, 1] (mCons (mV 1) (mCons (mBin subM (mV 0) (mBin mulM (mV 6) (mV 1))) mNil)))
  (msSeq (msPar [2, 4] (mCons (mV 4) (mCons (mBin subM (mV 2) (mBin mulM (mV 6) (mV 4))) mNil)))
  (msPar [3, 5] (mCons (mV 5) (mCons (mBin subM (mV 3) (mBin mulM (mV 6) (mV 5))) mNil)))))))
  (msRet (mIfE (mTest (mBin geM (mV 0) (mC (.int 0)))) (mTup (mCons (mV 0) (mCons (mV 2) (mCons (mV 3) mNil)))) (mTup (mCons (mNeg (mV 0)) (mCons (mNeg (mV 2)) (mCons (mNeg (mV 3)) mNil))))))))
def f_shared_ways : DF := fnM 7 m_shared_ways
theorem ok_shared_ways (Φ : FX G mg base) : FnOk P w0 G.K mg base (L2.CX P w0) 1 Φ.d_shared_ways.a Φ.d_shared_ways.fd ["a", "b"] (spM G 2 f_shared_ways) :=
  fnM_ok (k := 0) Φ.d_shared_ways.F sc_shared_ways rfl fun A outer s H E hr => (sss_cons (ss_asg (t := (.many [2, 3, 4, 5])) rfl (se_tup (sa_cons se_int (sa_cons se_int (sa_cons se_int (sa_cons se_int sa_nil))))) (gt_many rfl (gts_cons sc_shared_ways.nd rfl (.inl rfl) (gts_cons sc_shared_ways.nd rfl (.inl rfl) (gts_cons sc_shared_ways.nd rfl (.inl rfl) (gts_cons sc_shared_ways.nd rfl (.inl rfl) gts_nil))))))
  (sss_cons (ss_while (passes_of rfl) (st_ne rfl (u64 hr) (se_var 1) se_int) (sss_cons (ss_set (i := 6) rfl sc_shared_ways.nd rfl (.inl rfl) (se_div (se_var 0) (se_var 1)))
  (sss_cons (ss_par (i := 0) (j := 1) rfl sc_shared_ways.nd rfl rfl (by decide) rfl rfl (sa_cons (se_var 1) (sa_cons (se_sub (se_var 0) (se_mul (se_var 6) (se_var 1))) sa_nil)) (by rfl))
  (sss_cons (ss_par (i := 2) (j := 4) rfl sc_shared_ways.nd rfl rfl (by decide) rfl rfl (sa_cons (se_var 4) (sa_cons (se_sub (se_var 2) (se_mul (se_var 6) (se_var 4))) sa_nil)) (by rfl))
  (sss_one (ss_par (i := 3) (j := 5) rfl sc_shared_ways.nd rfl rfl (by decide) rfl rfl (sa_cons (se_var 5) (sa_cons (se_sub (se_var 3) (se_mul (se_var 6) (se_var 5))) sa_nil)) (by rfl)))))))
  (sss_one (ss_ret (se_if (st_ge (se_var 0) se_int) (se_tup (sa_cons (se_var 0) (sa_cons (se_var 2) (sa_cons (se_var 3) sa_nil)))) (se_tup (sa_cons (se_neg (se_var 0)) (sa_cons (se_neg (se_var 2)) (sa_cons (se_neg (se_var 3)) sa_nil)))))))))
/-- shared -/
def m_shared : MS := (msSeq (msWhile (mTest (mBin neM (mV 1) (mC (.int 0)))) (msPar [0, 1] (mCons (mV 1) (mCons (mBin modM (mV 0) (mV 1)) mNil))))
  (msRet (mCB absM (mCons (mV 0) mNil))))
def f_shared : DF := fnM 2 m_shared
theorem ok_shared (Φ : FX G mg base) : FnOk P w0 G.K mg base (L2.CX P w0) 1 Φ.d_shared.a Φ.d_shared.fd ["a", "b"] (spM G 2 f_shared) :=
  fnM_ok (k := 0) Φ.d_shared.F sc_shared rfl fun A outer s H E hr => (sss_cons (ss_while (passes_of rfl) (st_ne rfl (u64 hr) (se_var 1) se_int) (sss_one (ss_par (i := 0) (j := 1) rfl sc_shared.nd rfl rfl (by decide) rfl rfl (sa_cons (se_var 1) (sa_cons (se_mod (se_var 0) (se_var 1)) sa_nil)) (by rfl))))
  (sss_one (ss_ret (se_callB call_abs absM_ok (by rfl) Φ.m_abs (by rfl) (sa_cons (se_var 0) sa_nil)))))
/-- back -/
def m_back : MS := (msSeq (msAsg (.many [2, 3, 4]) (mCall 2 f_shared_ways (mCons (mBin modM (mV 0) (mV 1)) (mCons (mV 1) mNil))))
  (msSeq (msIf (mTest (mBin neM (mV 2) (mC (.int 1)))) (msRaise "NoWay") msNil)
  (msRet (mBin modM (mV 3) (mV 1)))))
def f_back : DF := fnM 5 m_back
theorem ok_back (Φ : FX G mg base) : FnOk P w0 G.K mg base (L2.CX P w0) 2 Φ.d_back.a Φ.d_back.fd ["a", "n"] (spM G 2 f_back) :=
  fnM_ok (k := 1) Φ.d_back.F sc_back rfl fun A outer s H E hr => (sss_cons (ss_asg (t := (.many [2, 3, 4])) rfl (se_callD Φ.d_shared_ways rfl (ok_shared_ways Φ) (takes_of rfl rfl rfl rfl) (hr.mono (by decide)) (by rfl) (sa_cons (se_mod (se_var 0) (se_var 1)) (sa_cons (se_var 1) sa_nil))) (gt_many rfl (gts_cons sc_back.nd rfl (.inl rfl) (gts_cons sc_back.nd rfl (.inl rfl) (gts_cons sc_back.nd rfl (.inl rfl) gts_nil)))))
  (sss_cons (ss_if (st_ne rfl (u64 hr) (se_var 2) se_int) (sss_one (ss_raiseE Φ.e_NoWay rfl rfl (takes_of rfl rfl rfl rfl) (by rfl))) sss_nil)
  (sss_one (ss_ret (se_mod (se_var 3) (se_var 1))))))
/-- power -/
def m_power : MS := (msSeq (msIf (mTest (mBin ltM (mV 1) (mC (.int 0)))) (msPar [0, 1] (mCons (mCall 2 f_back (mCons (mV 0) (mCons (mV 2) mNil))) (mCons (mNeg (mV 1)) mNil))) msNil)
  (msSeq (msPar [3, 0] (mCons (mBin modM (mC (.int 1)) (mV 2)) (mCons (mBin modM (mV 0) (mV 2)) mNil)))
  (msSeq (msWhile (mTest (mBin gtM (mV 1) (mC (.int 0)))) (msSeq (msIf (mTest (mBin eqM (mBin modM (mV 1) (mC (.int 2))) (mC (.int 1)))) (msAsg (.one 3) (mBin modM (mBin mulM (mV 3) (mV 0)) (mV 2))) msNil)
  (msSeq (msAsg (.one 0) (mBin modM (mBin mulM (mV 0) (mV 0)) (mV 2)))
  (msAug 1 idivM (mC (.int 2))))))
  (msRet (mV 3)))))
def f_power : DF := fnM 4 m_power
theorem ok_power (Φ : FX G mg base) : FnOk P w0 G.K mg base (L2.CX P w0) 3 Φ.d_power.a Φ.d_power.fd ["a", "many", "n"] (spM G 3 f_power) :=
  fnM_ok (k := 2) Φ.d_power.F sc_power rfl fun A outer s H E hr => (sss_cons (ss_if (st_lt (se_var 1) se_int) (sss_one (ss_par (i := 0) (j := 1) rfl sc_power.nd rfl rfl (by decide) rfl rfl (sa_cons (se_callD Φ.d_back rfl (ok_back Φ) (takes_of rfl rfl rfl rfl) (hr.mono (by decide)) (by rfl) (sa_cons (se_var 0) (sa_cons (se_var 2) sa_nil))) (sa_cons (se_neg (se_var 1)) sa_nil)) (by rfl))) sss_nil)
  (sss_cons (ss_par (i := 3) (j := 0) rfl sc_power.nd rfl rfl (by decide) rfl rfl (sa_cons (se_mod se_int (se_var 2)) (sa_cons (se_mod (se_var 0) (se_var 2)) sa_nil)) (by rfl))
  (sss_cons (ss_while (passes_of rfl) (st_gt (se_var 1) se_int) (sss_cons (ss_if (st_eq rfl (u64 hr) (se_mod (se_var 1) se_int) se_int) (sss_one (ss_set (i := 3) rfl sc_power.nd rfl (.inl rfl) (se_mod (se_mul (se_var 3) (se_var 0)) (se_var 2)))) sss_nil)
  (sss_cons (ss_set (i := 0) rfl sc_power.nd rfl (.inl rfl) (se_mod (se_mul (se_var 0) (se_var 0)) (se_var 2)))
  (sss_one (ss_aug (i := 1) sc_power.nd rfl (.inl rfl) se_int iop_fdivM idivM_ok)))))
  (sss_one (ss_ret (se_var 3))))))
/-- passes -/
def m_passes : MS := (msSeq (msPar [2, 3] (mCons (mBin subM (mV 1) (mC (.int 1))) (mCons (mC (.int 0)) mNil)))
  (msSeq (msWhile (mTest (mBin eqM (mBin modM (mV 2) (mC (.int 2))) (mC (.int 0)))) (msPar [2, 3] (mCons (mBin divM (mV 2) (mC (.int 2))) (mCons (mBin addM (mV 3) (mC (.int 1))) mNil))))
  (msSeq (msAsg (.one 4) (mCall 3 f_power (mCons (mV 0) (mCons (mV 2) (mCons (mV 1) mNil)))))
  (msSeq (msIf (mTest (mBin (inM false) (mV 4) (mTup (mCons (mC (.int 1)) (mCons (mBin subM (mV 1) (mC (.int 1))) mNil))))) (msRet (mC (.bl true))) msNil)
  (msSeq (msFor (miRange1 (mCons (mBin subM (mV 3) (mC (.int 1))) mNil)) (.one 5) (msSeq (msAsg (.one 4) (mBin modM (mBin mulM (mV 4) (mV 4)) (mV 1)))
  (msIf (mTest (mBin eqM (mV 4) (mBin subM (mV 1) (mC (.int 1))))) (msRet (mC (.bl true))) msNil)))
  (msRet (mC (.bl false))))))))
def f_passes : DF := fnM 6 m_passes
theorem ok_passes (Φ : FX G mg base) : FnOk P w0 G.K mg base (L2.CX P w0) 4 Φ.d_passes.a Φ.d_passes.fd ["a", "n"] (spM G 2 f_passes) :=
  fnM_ok (k := 3) Φ.d_passes.F sc_passes rfl fun A outer s H E hr => (sss_cons (ss_par (i := 2) (j := 3) rfl sc_passes.nd rfl rfl (by decide) rfl rfl (sa_cons (se_sub (se_var 1) se_int) (sa_cons se_int sa_nil)) (by rfl))
  (sss_cons (ss_while (passes_of rfl) (st_eq rfl (u64 hr) (se_mod (se_var 2) se_int) se_int) (sss_one (ss_par (i := 2) (j := 3) rfl sc_passes.nd rfl rfl (by decide) rfl rfl (sa_cons (se_div (se_var 2) se_int) (sa_cons (se_add rfl (se_var 3) se_int) sa_nil)) (by rfl))))
  (sss_cons (ss_set (i := 4) rfl sc_passes.nd rfl (.inl rfl) (se_callD Φ.d_power rfl (ok_power Φ) (takes_of rfl rfl rfl rfl) (hr.mono (by decide)) (by rfl) (sa_cons (se_var 0) (sa_cons (se_var 2) (sa_cons (se_var 1) sa_nil)))))
  (sss_cons (ss_if (st_in rfl (se_var 4) (se_tup (sa_cons se_int (sa_cons (se_sub (se_var 1) se_int) sa_nil)))) (sss_one (ss_ret se_bl)) sss_nil)
  (sss_cons (ss_for (t := (.one 5)) rfl (passes_of rfl) rfl (si_range1 (by rfl) Φ.m_range (sa_cons (se_sub (se_var 3) se_int) sa_nil)) (gt_one sc_passes.nd rfl (.inl rfl)) (sss_cons (ss_set (i := 4) rfl sc_passes.nd rfl (.inl rfl) (se_mod (se_mul (se_var 4) (se_var 4)) (se_var 1)))
  (sss_one (ss_if (st_eq rfl (u64 hr) (se_var 4) (se_sub (se_var 1) se_int)) (sss_one (ss_ret se_bl)) sss_nil))))
  (sss_one (ss_ret se_bl)))))))
/-- is_prime -/
def m_is_prime : MS := (msSeq (msIf (mTest (mBin ltM (mV 0) (mC (.int 2)))) (msRet (mC (.bl false))) msNil)
  (msSeq (msAsg (.one 1) (mTup (mCons (mC (.int 2)) (mCons (mC (.int 3)) (mCons (mC (.int 5)) (mCons (mC (.int 7)) (mCons (mC (.int 11)) (mCons (mC (.int 13)) (mCons (mC (.int 17)) (mCons (mC (.int 19)) (mCons (mC (.int 23)) (mCons (mC (.int 29)) (mCons (mC (.int 31)) (mCons (mC (.int 37)) (mCons (mC (.int 41)) mNil)))))))))))))))
  (msSeq (msFor (miSeq (mV 1)) (.one 2) (msIf (mTest (mBin eqM (mBin modM (mV 0) (mV 2)) (mC (.int 0)))) (msRet (mBin eqM (mV 0) (mV 2))) msNil))
  (msSeq (msIf (mTest (mBin gtM (mV 0) (mBin mulM (mC (.int 3)) (mBin powM (mC (.int 10)) (mC (.int 24)))))) (msRaise "TooLarge") msNil)
  (msRet (mAnyG false (miSeq (mV 1)) (.one 2) [2] (mCall 2 f_passes (mCons (mV 2) (mCons (mV 0) mNil)))))))))
def f_is_prime : DF := fnM 3 m_is_prime
theorem ok_is_prime (Φ : FX G mg base) : FnOk P w0 G.K mg base (L2.CX P w0) 6 Φ.d_is_prime.a Φ.d_is_prime.fd ["n"] (spM G 1 f_is_prime) :=
  fnM_ok (k := 5) Φ.d_is_prime.F sc_is_prime rfl fun A outer s H E hr => (sss_cons (ss_if (st_lt (se_var 0) se_int) (sss_one (ss_ret se_bl)) sss_nil)
  (sss_cons (ss_set (i := 1) rfl sc_is_prime.nd rfl (.inl rfl) (se_tup (sa_cons se_int (sa_cons se_int (sa_cons se_int (sa_cons se_int (sa_cons se_int (sa_cons se_int (sa_cons se_int (sa_cons se_int (sa_cons se_int (sa_cons se_int (sa_cons se_int (sa_cons se_int (sa_cons se_int sa_nil)))))))))))))))
  (sss_cons (ss_for (t := (.one 2)) rfl (passes_of rfl) rfl (si_seq rfl (se_var 1)) (gt_one sc_is_prime.nd rfl (.inl rfl)) (sss_one (ss_if (st_eq rfl (u64 hr) (se_mod (se_var 0) (se_var 2)) se_int) (sss_one (ss_ret (se_eq rfl (u64 hr) (se_var 0) (se_var 2)))) sss_nil)))
  (sss_cons (ss_if (st_gt (se_var 0) (se_mul se_int (se_pow se_int se_int))) (sss_one (ss_raiseE Φ.e_TooLarge rfl rfl (takes_of rfl rfl rfl rfl) (by rfl))) sss_nil)
  (sss_one (ss_ret (se_allD (k := 2) (own := [("p", 2)]) (t := (.one 2)) rfl hr sc_is_prime.nd (by rfl) Φ.m_all Φ.t_is_prime rfl (si_seq rfl (se_var 1)) (genOk_by (by kernel_rfl)) (by decide) (fun _ _ _ _ _ => (gt_one sc_is_prime.nd rfl (.inl rfl))) (fun _ _ _ _ _ hr2 => (se_callD Φ.d_passes rfl (ok_passes Φ) LamX.takes0 (hr2.mono (by decide)) (by rfl) (sa_cons (se_var 2) (sa_cons (se_var 0) sa_nil)))))))))))
/-- some_part -/
def m_some_part : MS := (msSeq (msIf (mOr (mTest (mBin ltM (mV 0) (mC (.int 4)))) (mTest (mCall 1 f_is_prime (mCons (mV 0) mNil)))) (msRaise "NoWay") msNil)
  (msSeq (msIf (mTest (mBin eqM (mBin modM (mV 0) (mC (.int 2))) (mC (.int 0)))) (msRet (mC (.int 2))) msNil)
  (msSeq (msFor (miRange2 (mCons (mC (.int 1)) (mCons (mC (.int 100)) mNil))) (.one 1) (msSeq (msAsg (.many [2, 3, 4]) (mTup (mCons (mC (.int 2)) (mCons (mC (.int 2)) (mCons (mC (.int 1)) mNil)))))
  (msSeq (msWhile (mTest (mBin eqM (mV 4) (mC (.int 1)))) (msSeq (msAsg (.one 2) (mBin modM (mBin addM (mBin mulM (mV 2) (mV 2)) (mV 1)) (mV 0)))
  (msSeq (msAsg (.one 3) (mBin modM (mBin addM (mBin mulM (mV 3) (mV 3)) (mV 1)) (mV 0)))
  (msSeq (msAsg (.one 3) (mBin modM (mBin addM (mBin mulM (mV 3) (mV 3)) (mV 1)) (mV 0)))
  (msAsg (.one 4) (mCall 2 f_shared (mCons (mBin subM (mV 2) (mV 3)) (mCons (mV 0) mNil))))))))
  (msIf (mTest (mBin neM (mV 4) (mV 0))) (msRet (mV 4)) msNil))))
  (msRaise "NoWay"))))
def f_some_part : DF := fnM 5 m_some_part
theorem ok_some_part (Φ : FX G mg base) : FnOk P w0 G.K mg base (L2.CX P w0) 7 Φ.d_some_part.a Φ.d_some_part.fd ["n"] (spM G 1 f_some_part) :=
  fnM_ok (k := 6) Φ.d_some_part.F sc_some_part rfl fun A outer s H E hr => (sss_cons (ss_if (PW.pt (sw_or (st_lt (se_var 0) se_int) (sw_or1 (st_val (se_callD Φ.d_is_prime rfl (ok_is_prime Φ) (takes_of rfl rfl rfl rfl) (hr.mono (by decide)) (by rfl) (sa_cons (se_var 0) sa_nil)))))) (sss_one (ss_raiseE Φ.e_NoWay rfl rfl (takes_of rfl rfl rfl rfl) (by rfl))) sss_nil)
  (sss_cons (ss_if (st_eq rfl (u64 hr) (se_mod (se_var 0) se_int) se_int) (sss_one (ss_ret se_int)) sss_nil)
  (sss_cons (ss_for (t := (.one 1)) rfl (passes_of rfl) rfl (si_range2 (by rfl) Φ.m_range (sa_cons se_int (sa_cons se_int sa_nil))) (gt_one sc_some_part.nd rfl (.inl rfl)) (sss_cons (ss_asg (t := (.many [2, 3, 4])) rfl (se_tup (sa_cons se_int (sa_cons se_int (sa_cons se_int sa_nil)))) (gt_many rfl (gts_cons sc_some_part.nd rfl (.inl rfl) (gts_cons sc_some_part.nd rfl (.inl rfl) (gts_cons sc_some_part.nd rfl (.inl rfl) gts_nil)))))
  (sss_cons (ss_while (passes_of rfl) (st_eq rfl (u64 hr) (se_var 4) se_int) (sss_cons (ss_set (i := 2) rfl sc_some_part.nd rfl (.inl rfl) (se_mod (se_add rfl (se_mul (se_var 2) (se_var 2)) (se_var 1)) (se_var 0)))
  (sss_cons (ss_set (i := 3) rfl sc_some_part.nd rfl (.inl rfl) (se_mod (se_add rfl (se_mul (se_var 3) (se_var 3)) (se_var 1)) (se_var 0)))
  (sss_cons (ss_set (i := 3) rfl sc_some_part.nd rfl (.inl rfl) (se_mod (se_add rfl (se_mul (se_var 3) (se_var 3)) (se_var 1)) (se_var 0)))
  (sss_one (ss_set (i := 4) rfl sc_some_part.nd rfl (.inl rfl) (se_callD Φ.d_shared rfl (ok_shared Φ) (takes_of rfl rfl rfl rfl) (hr.mono (by decide)) (by rfl) (sa_cons (se_sub (se_var 2) (se_var 3)) (sa_cons (se_var 0) sa_nil)))))))))
  (sss_one (ss_if (st_ne rfl (u64 hr) (se_var 4) (se_var 0)) (sss_one (ss_ret (se_var 4))) sss_nil)))))
  (sss_one (ss_raiseE Φ.e_NoWay rfl rfl (takes_of rfl rfl rfl rfl) (by rfl))))))
/-- parts -/
def m_parts : MS := (msSeq (msIf (mTest (mBin ltM (mV 0) (mC (.int 1)))) (msRaise "BadNumber") msNil)
  (msSeq (msIf (mTest (mBin gtM (mV 0) (mBin powM (mC (.int 10)) (mC (.int 16))))) (msRaise "TooLarge") msNil)
  (msSeq (msPar [1, 2] (mCons mDNew (mCons (mC (.int 2)) mNil)))
  (msSeq (msWhile (mAnd (mTest (mBin leM (mBin mulM (mV 2) (mV 2)) (mV 0))) (mTest (mBin ltM (mV 2) (mC (.int 2000))))) (msSeq (msWhile (mTest (mBin eqM (mBin modM (mV 0) (mV 2)) (mC (.int 0)))) (msSeq (msSub dputM (mV 1) (mV 2) (mBin addM (mDGet2 (mV 1) (mV 2) (mC (.int 0))) (mC (.int 1))))
  (msAug 0 idivM (mV 2))))
  (msAug 2 iaddM (mC (.int 1)))))
  (msSeq (msAsg (.one 3) (mIfE (mTest (mBin gtM (mV 0) (mC (.int 1)))) (mLst (mCons (mV 0) mNil)) (mLst mNil)))
  (msSeq (msWhile (mTest (mBin neM (mV 3) (mLst mNil))) (msSeq (msAsg (.one 4) (mBM popM (mV 3) mNil))
  (msIf (mTest (mCall 1 f_is_prime (mCons (mV 4) mNil))) (msSub dputM (mV 1) (mV 4) (mBin addM (mDGet2 (mV 1) (mV 4) (mC (.int 0))) (mC (.int 1)))) (msSeq (msAsg (.one 5) (mCall 1 f_some_part (mCons (mV 4) mNil)))
  (msExpr (mBM extendM (mV 3) (mCons (mLst (mCons (mV 5) (mCons (mBin divM (mV 4) (mV 5)) mNil))) mNil)))))))
  (msRet (mCB tupleM (mCons (mSortItems (mV 1)) mNil)))))))))
def f_parts : DF := fnM 6 m_parts
theorem ok_parts (Φ : FX G mg base) : FnOk P w0 G.K mg base (L2.CX P w0) 8 Φ.d_parts.a Φ.d_parts.fd ["n"] (spM G 1 f_parts) :=
  fnM_ok (k := 7) Φ.d_parts.F sc_parts rfl fun A outer s H E hr => (sss_cons (ss_if (st_lt (se_var 0) se_int) (sss_one (ss_raiseE Φ.e_BadNumber rfl rfl (takes_of rfl rfl rfl rfl) (by rfl))) sss_nil)
  (sss_cons (ss_if (st_gt (se_var 0) (se_pow se_int se_int)) (sss_one (ss_raiseE Φ.e_TooLarge rfl rfl (takes_of rfl rfl rfl rfl) (by rfl))) sss_nil)
  (sss_cons (ss_par (i := 1) (j := 2) rfl sc_parts.nd rfl rfl (by decide) rfl rfl (sa_cons se_dnew (sa_cons se_int sa_nil)) (by rfl))
  (sss_cons (ss_while (passes_of rfl) (PW.pt (sw_and (st_le (se_mul (se_var 2) (se_var 2)) (se_var 0)) (sw_and1 (st_lt (se_var 2) se_int)))) (sss_cons (ss_while (passes_of rfl) (st_eq rfl (u64 hr) (se_mod (se_var 0) (se_var 2)) se_int) (sss_cons (ss_dput (u1 hr) (se_var 1) (se_var 2) (se_add rfl (se_dget2 (u1 hr) (se_var 1) (se_var 2) se_int ⟨rfl, rfl, rfl, rfl⟩) se_int))
  (sss_one (ss_aug (i := 0) sc_parts.nd rfl (.inl rfl) (se_var 2) iop_fdivM idivM_ok))))
  (sss_one (ss_aug (i := 2) sc_parts.nd rfl (.inl rfl) se_int iop_add iaddM_ok))))
  (sss_cons (ss_set (i := 3) rfl sc_parts.nd rfl (.inl rfl) (se_if (st_gt (se_var 0) se_int) (se_lst (sa_cons (se_var 0) sa_nil)) (se_lst sa_nil)))
  (sss_cons (ss_while (passes_of rfl) (st_ne rfl (u64 hr) (se_var 3) (se_lst sa_nil)) (sss_cons (ss_set (i := 4) rfl sc_parts.nd rfl (.inl rfl) (se_bm0 rfl PySem.F.slot_list_pop PySem.F.type_list_pop mt_pop popM_ok (se_var 3)))
  (sss_one (ss_if (st_val (se_callD Φ.d_is_prime rfl (ok_is_prime Φ) (takes_of rfl rfl rfl rfl) (hr.mono (by decide)) (by rfl) (sa_cons (se_var 4) sa_nil))) (sss_one (ss_dput (u1 hr) (se_var 1) (se_var 4) (se_add rfl (se_dget2 (u1 hr) (se_var 1) (se_var 4) se_int ⟨rfl, rfl, rfl, rfl⟩) se_int))) (sss_cons (ss_set (i := 5) rfl sc_parts.nd rfl (.inl rfl) (se_callD Φ.d_some_part rfl (ok_some_part Φ) (takes_of rfl rfl rfl rfl) (hr.mono (by decide)) (by rfl) (sa_cons (se_var 4) sa_nil)))
  (sss_one (ss_expr (se_bm rfl PySem.F.slot_list_extend PySem.F.type_list_extend mt_extend extendM_ok (se_var 3) (sa_cons (se_lst (sa_cons (se_var 5) (sa_cons (se_div (se_var 4) (se_var 5)) sa_nil))) sa_nil)))))))))
  (sss_one (ss_ret (se_callTy call_tuple_of tupleM_ok (by rfl) Φ.m_tuple (by rfl) (sa_cons (se_sortItems rfl (se_var 1) (by rfl) Φ.m_sorted) sa_nil))))))))))
/-- count_apart -/
def m_count_apart : MS := (msSeq (msAsg (.one 1) (mV 0))
  (msSeq (msFor (miSeq (mCall 1 f_parts (mCons (mV 0) mNil))) (.many [2, 3]) (msAsg (.one 1) (mBin mulM (mBin divM (mV 1) (mV 2)) (mBin subM (mV 2) (mC (.int 1))))))
  (msRet (mV 1))))
def f_count_apart : DF := fnM 4 m_count_apart
theorem ok_count_apart (Φ : FX G mg base) : FnOk P w0 G.K mg base (L2.CX P w0) 9 Φ.d_count_apart.a Φ.d_count_apart.fd ["n"] (spM G 1 f_count_apart) :=
  fnM_ok (k := 8) Φ.d_count_apart.F sc_count_apart rfl fun A outer s H E hr => (sss_cons (ss_set (i := 1) rfl sc_count_apart.nd rfl (.inl rfl) (se_var 0))
  (sss_cons (ss_for (t := (.many [2, 3])) rfl (passes_of rfl) rfl (si_seq rfl (se_callD Φ.d_parts rfl (ok_parts Φ) (takes_of rfl rfl rfl rfl) (hr.mono (by decide)) (by rfl) (sa_cons (se_var 0) sa_nil))) (gt_many rfl (gts_cons sc_count_apart.nd rfl (.inl rfl) (gts_cons sc_count_apart.nd rfl (.inl rfl) gts_nil))) (sss_one (ss_set (i := 1) rfl sc_count_apart.nd rfl (.inl rfl) (se_mul (se_div (se_var 1) (se_var 2)) (se_sub (se_var 2) se_int)))))
  (sss_one (ss_ret (se_var 1)))))
/-- turns -/
def m_turns : MS := (msSeq (msIf (mTest (mBin neM (mCall 2 f_shared (mCons (mV 0) (mCons (mV 1) mNil))) (mC (.int 1)))) (msRaise "NoWay") msNil)
  (msSeq (msAsg (.one 2) (mCall 1 f_count_apart (mCons (mV 1) mNil)))
  (msSeq (msFor (miSeq (mIfE (mTest (mBin gtM (mV 2) (mC (.int 1)))) (mCall 1 f_parts (mCons (mV 2) mNil)) (mTup mNil))) (.many [3, 4]) (msFor (miRange1 (mCons (mV 4) mNil)) (.one 5) (msIf (mTest (mBin eqM (mCall 3 f_power (mCons (mV 0) (mCons (mBin divM (mV 2) (mV 3)) (mCons (mV 1) mNil)))) (mBin modM (mC (.int 1)) (mV 1)))) (msAug 2 idivM (mV 3)) msNil)))
  (msRet (mV 2)))))
def f_turns : DF := fnM 6 m_turns
theorem ok_turns (Φ : FX G mg base) : FnOk P w0 G.K mg base (L2.CX P w0) 10 Φ.d_turns.a Φ.d_turns.fd ["a", "n"] (spM G 2 f_turns) :=
  fnM_ok (k := 9) Φ.d_turns.F sc_turns rfl fun A outer s H E hr => (sss_cons (ss_if (st_ne rfl (u64 hr) (se_callD Φ.d_shared rfl (ok_shared Φ) (takes_of rfl rfl rfl rfl) (hr.mono (by decide)) (by rfl) (sa_cons (se_var 0) (sa_cons (se_var 1) sa_nil))) se_int) (sss_one (ss_raiseE Φ.e_NoWay rfl rfl (takes_of rfl rfl rfl rfl) (by rfl))) sss_nil)
  (sss_cons (ss_set (i := 2) rfl sc_turns.nd rfl (.inl rfl) (se_callD Φ.d_count_apart rfl (ok_count_apart Φ) (takes_of rfl rfl rfl rfl) (hr.mono (by decide)) (by rfl) (sa_cons (se_var 1) sa_nil)))
  (sss_cons (ss_for (t := (.many [3, 4])) rfl (passes_of rfl) rfl (si_seq rfl (se_if (st_gt (se_var 2) se_int) (se_callD Φ.d_parts rfl (ok_parts Φ) (takes_of rfl rfl rfl rfl) (hr.mono (by decide)) (by rfl) (sa_cons (se_var 2) sa_nil)) (se_tup sa_nil))) (gt_many rfl (gts_cons sc_turns.nd rfl (.inl rfl) (gts_cons sc_turns.nd rfl (.inl rfl) gts_nil))) (sss_one (ss_for (t := (.one 5)) rfl (passes_of rfl) rfl (si_range1 (by rfl) Φ.m_range (sa_cons (se_var 4) sa_nil)) (gt_one sc_turns.nd rfl (.inl rfl)) (sss_one (ss_if (st_eq rfl (u64 hr) (se_callD Φ.d_power rfl (ok_power Φ) (takes_of rfl rfl rfl rfl) (hr.mono (by decide)) (by rfl) (sa_cons (se_var 0) (sa_cons (se_div (se_var 2) (se_var 3)) (sa_cons (se_var 1) sa_nil)))) (se_mod se_int (se_var 1))) (sss_one (ss_aug (i := 2) sc_turns.nd rfl (.inl rfl) (se_var 3) iop_fdivM idivM_ok)) sss_nil)))))
  (sss_one (ss_ret (se_var 2))))))
/-- together -/
def m_together : MS := (msSeq (msAsg (.many [1, 2]) (mTup (mCons (mC (.int 0)) (mCons (mC (.int 1)) mNil))))
  (msSeq (msFor (miSeq (mV 0)) (.many [3, 4]) (msSeq (msAsg (.many [5, 6, 7]) (mCall 2 f_shared_ways (mCons (mV 2) (mCons (mV 4) mNil))))
  (msSeq (msIf (mTest (mBin neM (mBin modM (mBin subM (mV 3) (mV 1)) (mV 5)) (mC (.int 0)))) (msRaise "NoWay") msNil)
  (msSeq (msAsg (.one 1) (mBin addM (mV 1) (mBin mulM (mV 2) (mBin modM (mBin mulM (mBin divM (mBin subM (mV 3) (mV 1)) (mV 5)) (mV 6)) (mBin divM (mV 4) (mV 5))))))
  (msSeq (msAsg (.one 2) (mBin mulM (mBin divM (mV 2) (mV 5)) (mV 4)))
  (msAug 1 imodM (mV 2)))))))
  (msRet (mTup (mCons (mV 1) (mCons (mV 2) mNil))))))
def f_together : DF := fnM 8 m_together
theorem ok_together (Φ : FX G mg base) : FnOk P w0 G.K mg base (L2.CX P w0) 2 Φ.d_together.a Φ.d_together.fd ["row"] (spM G 1 f_together) :=
  fnM_ok (k := 1) Φ.d_together.F sc_together rfl fun A outer s H E hr => (sss_cons (ss_asg (t := (.many [1, 2])) rfl (se_tup (sa_cons se_int (sa_cons se_int sa_nil))) (gt_many rfl (gts_cons sc_together.nd rfl (.inl rfl) (gts_cons sc_together.nd rfl (.inl rfl) gts_nil))))
  (sss_cons (ss_for (t := (.many [3, 4])) rfl (passes_of rfl) rfl (si_seq rfl (se_var 0)) (gt_many rfl (gts_cons sc_together.nd rfl (.inl rfl) (gts_cons sc_together.nd rfl (.inl rfl) gts_nil))) (sss_cons (ss_asg (t := (.many [5, 6, 7])) rfl (se_callD Φ.d_shared_ways rfl (ok_shared_ways Φ) (takes_of rfl rfl rfl rfl) (hr.mono (by decide)) (by rfl) (sa_cons (se_var 2) (sa_cons (se_var 4) sa_nil))) (gt_many rfl (gts_cons sc_together.nd rfl (.inl rfl) (gts_cons sc_together.nd rfl (.inl rfl) (gts_cons sc_together.nd rfl (.inl rfl) gts_nil)))))
  (sss_cons (ss_if (st_ne rfl (u64 hr) (se_mod (se_sub (se_var 3) (se_var 1)) (se_var 5)) se_int) (sss_one (ss_raiseE Φ.e_NoWay rfl rfl (takes_of rfl rfl rfl rfl) (by rfl))) sss_nil)
  (sss_cons (ss_set (i := 1) rfl sc_together.nd rfl (.inl rfl) (se_add rfl (se_var 1) (se_mul (se_var 2) (se_mod (se_mul (se_div (se_sub (se_var 3) (se_var 1)) (se_var 5)) (se_var 6)) (se_div (se_var 4) (se_var 5))))))
  (sss_cons (ss_set (i := 2) rfl sc_together.nd rfl (.inl rfl) (se_mul (se_div (se_var 2) (se_var 5)) (se_var 4)))
  (sss_one (ss_aug (i := 1) sc_together.nd rfl (.inl rfl) (se_var 2) iop_mod imodM_ok)))))))
  (sss_one (ss_ret (se_tup (sa_cons (se_var 1) (sa_cons (se_var 2) sa_nil)))))))
/-- _law_together -/
def m__law_together : MS := (msSeq (msAsg (.one 1) (mLc [4] (miRange1 (mCons (mC (.int 3)) mNil)) (.one 4) mYes (mTup (mCons (mCall 2 f__law_roll (mCons (mV 0) (mCons (mC (.int 9)) mNil))) (mCons (mBin addM (mC (.int 1)) (mCall 2 f__law_roll (mCons (mV 0) (mCons (mC (.int 9)) mNil)))) mNil)))))
  (msSeq (msAsg (.one 2) (mLc [4] (miRange1 (mCons (mC (.int 2520)) mNil)) (.one 4) (mTest (mBin eqM (mLc [5, 6] (miSeq (mV 1)) (.many [5, 6]) (mTest (mBin neM (mBin modM (mBin subM (mV 4) (mV 5)) (mV 6)) (mC (.int 0)))) (mC (.int 1))) (mLst mNil))) (mV 4)))
  (msSeq (msAsg (.one 3) (mToldN toldN (mCall 1 f_together (mCons (mV 1) mNil))))
  (msSeq (msIf (mTest (mBin eqM (mV 2) (mLst mNil))) (msIf (mTest (mBin neM (mV 3) (mC (.str "no way")))) (msRet (mC (.bl false))) msNil) (msIf (mTest (mBin neM (mV 3) (mTup (mCons (mBin ixM (mV 2) (mC (.int 0))) (mCons (mIfE (mTest (mBin gtM (mCB lenM (mCons (mV 2) mNil)) (mC (.int 1)))) (mBin subM (mBin ixM (mV 2) (mC (.int 1))) (mBin ixM (mV 2) (mC (.int 0)))) (mC (.int 2520))) mNil))))) (msRet (mC (.bl false))) msNil))
  (msRet (mC (.bl true)))))))
def f__law_together : DF := fnM 7 m__law_together
theorem ok__law_together (Φ : FX G mg base) : FnOk P w0 G.K mg base (L2.CX P w0) 5 Φ.d__law_together.a Φ.d__law_together.fd ["dice"] (spM G 1 f__law_together) :=
  fnM_ok (k := 4) Φ.d__law_together.F sc__law_together rfl fun A outer s H E hr => (sss_cons (ss_set (i := 1) rfl sc__law_together.nd rfl (.inr rfl) (se_lc (own := [("k", 4)]) (t := (.one 4)) rfl rfl sc__law_together.nd (si_range1 (by rfl) Φ.m_range (sa_cons se_int sa_nil)) (blkOk_by (by kernel_rfl)) (by decide) (fun _ _ _ _ _ => (gt_one sc__law_together.nd rfl (.inl rfl))) (fun _ _ _ _ _ => sts_nil) (fun _ _ _ _ _ => (se_tup (sa_cons (se_callD Φ.d__law_roll rfl (ok__law_roll Φ) LamX.takes0 (hr.mono (by decide)) (by rfl) (sa_cons (se_var 0) (sa_cons se_int sa_nil))) (sa_cons (se_add rfl se_int (se_callD Φ.d__law_roll rfl (ok__law_roll Φ) LamX.takes0 (hr.mono (by decide)) (by rfl) (sa_cons (se_var 0) (sa_cons se_int sa_nil)))) sa_nil))))))
  (sss_cons (ss_setLc (i := 2) (own := [("k", 4)]) (t := (.one 4)) rfl rfl sc__law_together.nd rfl rfl rfl (si_range1 (by rfl) Φ.m_range (sa_cons se_int sa_nil)) (blkOk_by (by kernel_rfl)) (by decide) (fun _ _ _ _ _ => (gt_one sc__law_together.nd rfl (.inr rfl))) (fun _ _ _ _ _ => (sts_one (st_eq rfl (u64 hr) (se_lc (own := [("r", 5), ("m", 6)]) (t := (.many [5, 6])) rfl rfl sc__law_together.nd (si_seq rfl (se_var 1)) (blkOk_by (by kernel_rfl)) (by decide) (fun _ _ _ _ _ => (gt_many rfl (gts_cons sc__law_together.nd rfl (.inl rfl) (gts_cons sc__law_together.nd rfl (.inl rfl) gts_nil)))) (fun _ _ _ _ _ => (sts_one (st_ne rfl (u64 hr) (se_mod (se_sub (se_var 4) (se_var 5)) (se_var 6)) se_int))) (fun _ _ _ _ _ => se_int)) (se_lst sa_nil)))) (fun _ _ _ _ _ => (se_var 4)))
  (sss_cons (ss_set (i := 3) rfl sc__law_together.nd rfl (.inl rfl) (se_toldN (k := 2) Φ rfl rfl rfl (by rfl) Φ.t__law_together rfl hr (LamX.lamS_by (by kernel_rfl)) rfl (by intros; rfl) (fun _ _ _ _ _ _ _ hr3 => (se_callD Φ.d_together rfl (ok_together Φ) (takes_of rfl rfl rfl rfl) (hr3.mono (by decide)) (by rfl) (sa_cons (se_var 1) sa_nil)))))
  (sss_cons (ss_if (st_eq rfl (u64 hr) (se_var 2) (se_lst sa_nil)) (sss_one (ss_if (st_ne rfl (u64 hr) (se_var 3) se_str) (sss_one (ss_ret se_bl)) sss_nil)) (sss_one (ss_if (st_ne rfl (u64 hr) (se_var 3) (se_tup (sa_cons (se_ixs rfl (se_var 2) se_int) (sa_cons (se_if (st_gt (se_callB call_len_seq lenM_ok (by rfl) Φ.m_len (by rfl) (sa_cons (se_var 2) sa_nil)) se_int) (se_sub (se_ixs rfl (se_var 2) se_int) (se_ixs rfl (se_var 2) se_int)) se_int) sa_nil)))) (sss_one (ss_ret se_bl)) sss_nil)))
  (sss_one (ss_ret se_bl))))))
/-- raised -/
def m_raised : MS := (msSeq (msAsg (.one 2) (mC (.int 1)))
  (msSeq (msFor (miRange1 (mCons (mV 1) mNil)) (.one 3) (msAug 2 imulM (mV 0)))
  (msRet (mV 2))))
def f_raised : DF := fnM 4 m_raised
theorem ok_raised (Φ : FX G mg base) : FnOk P w0 G.K mg base (L2.CX P w0) 1 Φ.d_raised.a Φ.d_raised.fd ["a", "many"] (spM G 2 f_raised) :=
  fnM_ok (k := 0) Φ.d_raised.F sc_raised rfl fun A outer s H E hr => (sss_cons (ss_set (i := 2) rfl sc_raised.nd rfl (.inl rfl) se_int)
  (sss_cons (ss_for (t := (.one 3)) rfl (passes_of rfl) rfl (si_range1 (by rfl) Φ.m_range (sa_cons (se_var 1) sa_nil)) (gt_one sc_raised.nd rfl (.inl rfl)) (sss_one (ss_aug (i := 2) sc_raised.nd rfl (.inl rfl) (se_var 0) iop_mulM imulM_ok)))
  (sss_one (ss_ret (se_var 2)))))
/-- divisors -/
def m_divisors : MS := (msSeq (msAsg (.one 1) (mLst (mCons (mC (.int 1)) mNil)))
  (msSeq (msFor (miSeq (mCall 1 f_parts (mCons (mV 0) mNil))) (.many [2, 3]) (msAsg (.one 1) (mLc2 [4, 5] [5] (miSeq (mV 1)) (.one 4) mYes (miRange1 (mCons (mBin addM (mV 3) (mC (.int 1))) mNil)) (.one 5) mYes (mBin mulM (mV 4) (mCall 2 f_raised (mCons (mV 2) (mCons (mV 5) mNil)))))))
  (msRet (mCB tupleM (mCons (mCB sortedIM (mCons (mV 1) mNil)) mNil)))))
def f_divisors : DF := fnM 6 m_divisors
theorem ok_divisors (Φ : FX G mg base) : FnOk P w0 G.K mg base (L2.CX P w0) 9 Φ.d_divisors.a Φ.d_divisors.fd ["n"] (spM G 1 f_divisors) :=
  fnM_ok (k := 8) Φ.d_divisors.F sc_divisors rfl fun A outer s H E hr => (sss_cons (ss_set (i := 1) rfl sc_divisors.nd rfl (.inl rfl) (se_lst (sa_cons se_int sa_nil)))
  (sss_cons (ss_for (t := (.many [2, 3])) rfl (passes_of rfl) rfl (si_seq rfl (se_callD Φ.d_parts rfl (ok_parts Φ) (takes_of rfl rfl rfl rfl) (hr.mono (by decide)) (by rfl) (sa_cons (se_var 0) sa_nil))) (gt_many rfl (gts_cons sc_divisors.nd rfl (.inr rfl) (gts_cons sc_divisors.nd rfl (.inr rfl) gts_nil))) (sss_one (ss_setLc2 (i := 1) (own := [("one", 4), ("k", 5)]) (vs1 := [5]) (t := (.one 4)) (t1 := (.one 5)) rfl rfl sc_divisors.nd rfl rfl rfl (si_seq rfl (se_var 1)) (blkOk_by (by kernel_rfl)) (by decide) (by decide) (by decide) (fun _ _ _ _ _ => (gt_one sc_divisors.nd rfl (.inl rfl))) (fun _ _ _ _ _ => sts_nil) (fun _ _ _ _ _ => (si_range1 (by rfl) Φ.m_range (sa_cons (se_add rfl (se_var 3) se_int) sa_nil))) (fun _ _ _ _ _ => (gt_one sc_divisors.nd rfl (.inl rfl))) (fun _ _ _ _ _ => sts_nil) (fun _ _ _ _ _ => (se_mul (se_var 4) (se_callD Φ.d_raised rfl (ok_raised Φ) LamX.takes0 (hr.mono (by decide)) (by rfl) (sa_cons (se_var 2) (sa_cons (se_var 5) sa_nil))))))))
  (sss_one (ss_ret (se_callTy call_tuple_of tupleM_ok (by rfl) Φ.m_tuple (by rfl) (sa_cons (se_callB cr_sortedI sortedIM_ok (by rfl) Φ.m_sorted (by rfl) (sa_cons (se_var 1) sa_nil)) sa_nil))))))
/-- weight -/
def m_weight : MS := (msSeq (msAsg (.one 1) (mCall 1 f_parts (mCons (mV 0) mNil)))
  (msRet (mIfE (mTest (mAnyG true (miSeq (mV 1)) (.many [2, 3]) [2, 3] (mBin gtM (mV 3) (mC (.int 1))))) (mC (.int 0)) (mBin subM (mC (.int 1)) (mBin mulM (mC (.int 2)) (mBin modM (mCB lenM (mCons (mV 1) mNil)) (mC (.int 2))))))))
def f_weight : DF := fnM 4 m_weight
theorem ok_weight (Φ : FX G mg base) : FnOk P w0 G.K mg base (L2.CX P w0) 9 Φ.d_weight.a Φ.d_weight.fd ["n"] (spM G 1 f_weight) :=
  fnM_ok (k := 8) Φ.d_weight.F sc_weight rfl fun A outer s H E hr => (sss_cons (ss_set (i := 1) rfl sc_weight.nd rfl (.inl rfl) (se_callD Φ.d_parts rfl (ok_parts Φ) (takes_of rfl rfl rfl rfl) (hr.mono (by decide)) (by rfl) (sa_cons (se_var 0) sa_nil)))
  (sss_one (ss_ret (se_if (st_val (se_anyD (k := 5) (own := [("p", 2), ("many", 3)]) (t := (.many [2, 3])) rfl hr sc_weight.nd (by rfl) Φ.m_any Φ.t_weight rfl (si_seq rfl (se_var 1)) (genOk_by (by kernel_rfl)) (by decide) (fun _ _ _ _ _ => (gt_many rfl (gts_cons sc_weight.nd rfl (.inl rfl) (gts_cons sc_weight.nd rfl (.inl rfl) gts_nil)))) (fun _ _ _ _ _ hr2 => (se_gt (se_var 3) se_int)))) se_int (se_sub se_int (se_mul se_int (se_mod (se_callB call_len_seq lenM_ok (by rfl) Φ.m_len (by rfl) (sa_cons (se_var 1) sa_nil)) se_int)))))))
/-- _law_parts -/
def m__law_parts : MS := (msSeq (msAsg (.one 1) (mBin addM (mC (.int 1)) (mCall 2 f__law_roll (mCons (mV 0) (mCons (mC (.int 300)) mNil)))))
  (msSeq (msAsg (.one 2) (mLc [6] (miRange2 (mCons (mC (.int 1)) (mCons (mBin addM (mV 1) (mC (.int 1))) mNil))) (.one 6) (mTest (mBin eqM (mBin modM (mV 1) (mV 6)) (mC (.int 0)))) (mV 6)))
  (msSeq (msIf (mTest (mBin neM (mCB listM (mCons (mCall 1 f_divisors (mCons (mV 1) mNil)) mNil)) (mV 2))) (msRet (mC (.bl false))) msNil)
  (msSeq (msIf (mTest (mBin neM (mCall 1 f_count_apart (mCons (mV 1) mNil)) (mCB lenM (mCons (mLc [6] (miRange2 (mCons (mC (.int 1)) (mCons (mBin addM (mV 1) (mC (.int 1))) mNil))) (.one 6) (mTest (mBin eqM (mCall 2 f_shared (mCons (mV 6) (mCons (mV 1) mNil))) (mC (.int 1)))) (mV 6)) mNil)))) (msRet (mC (.bl false))) msNil)
  (msSeq (msIf (mTest (mBin neM (mCB sumM (mCons (mLc [6] (miSeq (mV 2)) (.one 6) mYes (mCall 1 f_weight (mCons (mV 6) mNil))) mNil)) (mCB int1M (mCons (mBin eqM (mV 1) (mC (.int 1))) mNil)))) (msRet (mC (.bl false))) msNil)
  (msSeq (msAsg (.one 3) (mC (.int 1)))
  (msSeq (msFor (miSeq (mCall 1 f_parts (mCons (mV 1) mNil))) (.many [4, 5]) (msFor (miRange1 (mCons (mV 5) mNil)) (.one 6) (msAsg (.one 3) (mBin mulM (mV 3) (mV 4)))))
  (msSeq (msIf (mTest (mBin neM (mV 3) (mV 1))) (msRet (mC (.bl false))) msNil)
  (msSeq (msIf (mTest (mBin neM (mLc [4, 5] (miSeq (mCall 1 f_parts (mCons (mV 1) mNil))) (.many [4, 5]) (mTest (mBin neM (mLc [6] (miRange2 (mCons (mC (.int 2)) (mCons (mV 4) mNil))) (.one 6) (mTest (mBin eqM (mBin modM (mV 4) (mV 6)) (mC (.int 0)))) (mV 6)) (mLst mNil))) (mV 4)) (mLst mNil))) (msRet (mC (.bl false))) msNil)
  (msRet (mC (.bl true))))))))))))
def f__law_parts : DF := fnM 7 m__law_parts
theorem ok__law_parts (Φ : FX G mg base) : FnOk P w0 G.K mg base (L2.CX P w0) 10 Φ.d__law_parts.a Φ.d__law_parts.fd ["dice"] (spM G 1 f__law_parts) :=
  fnM_ok (k := 9) Φ.d__law_parts.F sc__law_parts rfl fun A outer s H E hr => (sss_cons (ss_set (i := 1) rfl sc__law_parts.nd rfl (.inr rfl) (se_add rfl se_int (se_callD Φ.d__law_roll rfl (ok__law_roll Φ) (takes_of rfl rfl rfl rfl) (hr.mono (by decide)) (by rfl) (sa_cons (se_var 0) (sa_cons se_int sa_nil)))))
  (sss_cons (ss_setLc (i := 2) (own := [("k", 6)]) (t := (.one 6)) rfl rfl sc__law_parts.nd rfl rfl rfl (si_range2 (by rfl) Φ.m_range (sa_cons se_int (sa_cons (se_add rfl (se_var 1) se_int) sa_nil))) (blkOk_by (by kernel_rfl)) (by decide) (fun _ _ _ _ _ => (gt_one sc__law_parts.nd rfl (.inl rfl))) (fun _ _ _ _ _ => (sts_one (st_eq rfl (u64 hr) (se_mod (se_var 1) (se_var 6)) se_int))) (fun _ _ _ _ _ => (se_var 6)))
  (sss_cons (ss_if (st_ne rfl (u64 hr) (se_callTy call_list_of listM_ok (by rfl) Φ.m_list (by rfl) (sa_cons (se_callD Φ.d_divisors rfl (ok_divisors Φ) (takes_of rfl rfl rfl rfl) (hr.mono (by decide)) (by rfl) (sa_cons (se_var 1) sa_nil)) sa_nil)) (se_var 2)) (sss_one (ss_ret se_bl)) sss_nil)
  (sss_cons (ss_if (st_ne rfl (u64 hr) (se_callD Φ.d_count_apart rfl (ok_count_apart Φ) (takes_of rfl rfl rfl rfl) (hr.mono (by decide)) (by rfl) (sa_cons (se_var 1) sa_nil)) (se_callB call_len_seq lenM_ok (by rfl) Φ.m_len (by rfl) (sa_cons (se_lc (own := [("k", 6)]) (t := (.one 6)) rfl rfl sc__law_parts.nd (si_range2 (by rfl) Φ.m_range (sa_cons se_int (sa_cons (se_add rfl (se_var 1) se_int) sa_nil))) (blkOk_by (by kernel_rfl)) (by decide) (fun _ _ _ _ _ => (gt_one sc__law_parts.nd rfl (.inl rfl))) (fun _ _ _ _ _ => (sts_one (st_eq rfl (u64 hr) (se_callD Φ.d_shared rfl (ok_shared Φ) LamX.takes0 (hr.mono (by decide)) (by rfl) (sa_cons (se_var 6) (sa_cons (se_var 1) sa_nil))) se_int))) (fun _ _ _ _ _ => (se_var 6))) sa_nil))) (sss_one (ss_ret se_bl)) sss_nil)
  (sss_cons (ss_if (st_ne rfl (u64 hr) (se_callB (cr_sum rfl) sumM_ok (by rfl) Φ.m_sum (by rfl) (sa_cons (se_lc (own := [("k", 6)]) (t := (.one 6)) rfl rfl sc__law_parts.nd (si_seq rfl (se_var 2)) (blkOk_by (by kernel_rfl)) (by decide) (fun _ _ _ _ _ => (gt_one sc__law_parts.nd rfl (.inl rfl))) (fun _ _ _ _ _ => sts_nil) (fun _ _ _ _ _ => (se_callD Φ.d_weight rfl (ok_weight Φ) LamX.takes0 (hr.mono (by decide)) (by rfl) (sa_cons (se_var 6) sa_nil)))) sa_nil)) (se_callTy call_int1 int1M_ok (by rfl) Φ.m_int (by rfl) (sa_cons (se_eq rfl (u64 hr) (se_var 1) se_int) sa_nil))) (sss_one (ss_ret se_bl)) sss_nil)
  (sss_cons (ss_set (i := 3) rfl sc__law_parts.nd rfl (.inl rfl) se_int)
  (sss_cons (ss_for (t := (.many [4, 5])) rfl (passes_of rfl) rfl (si_seq rfl (se_callD Φ.d_parts rfl (ok_parts Φ) (takes_of rfl rfl rfl rfl) (hr.mono (by decide)) (by rfl) (sa_cons (se_var 1) sa_nil))) (gt_many rfl (gts_cons sc__law_parts.nd rfl (.inl rfl) (gts_cons sc__law_parts.nd rfl (.inl rfl) gts_nil))) (sss_one (ss_for (t := (.one 6)) rfl (passes_of rfl) rfl (si_range1 (by rfl) Φ.m_range (sa_cons (se_var 5) sa_nil)) (gt_one sc__law_parts.nd rfl (.inl rfl)) (sss_one (ss_set (i := 3) rfl sc__law_parts.nd rfl (.inl rfl) (se_mul (se_var 3) (se_var 4)))))))
  (sss_cons (ss_if (st_ne rfl (u64 hr) (se_var 3) (se_var 1)) (sss_one (ss_ret se_bl)) sss_nil)
  (sss_cons (ss_if (st_ne rfl (u64 hr) (se_lc (own := [("p", 4), ("often", 5)]) (t := (.many [4, 5])) rfl rfl sc__law_parts.nd (si_seq rfl (se_callD Φ.d_parts rfl (ok_parts Φ) (takes_of rfl rfl rfl rfl) (hr.mono (by decide)) (by rfl) (sa_cons (se_var 1) sa_nil))) (blkOk_by (by kernel_rfl)) (by decide) (fun _ _ _ _ _ => (gt_many rfl (gts_cons sc__law_parts.nd rfl (.inr rfl) (gts_cons sc__law_parts.nd rfl (.inl rfl) gts_nil)))) (fun _ _ _ _ _ => (sts_one (st_ne rfl (u64 hr) (se_lc (own := [("k", 6)]) (t := (.one 6)) rfl rfl sc__law_parts.nd (si_range2 (by rfl) Φ.m_range (sa_cons se_int (sa_cons (se_var 4) sa_nil))) (blkOk_by (by kernel_rfl)) (by decide) (fun _ _ _ _ _ => (gt_one sc__law_parts.nd rfl (.inl rfl))) (fun _ _ _ _ _ => (sts_one (st_eq rfl (u64 hr) (se_mod (se_var 4) (se_var 6)) se_int))) (fun _ _ _ _ _ => (se_var 6))) (se_lst sa_nil)))) (fun _ _ _ _ _ => (se_var 4))) (se_lst sa_nil)) (sss_one (ss_ret se_bl)) sss_nil)
  (sss_one (ss_ret se_bl)))))))))))
/-- square_sign -/
def m_square_sign : MS := (msSeq (msIf (mOr (mTest (mBin ltM (mV 1) (mC (.int 1)))) (mTest (mBin eqM (mBin modM (mV 1) (mC (.int 2))) (mC (.int 0))))) (msRaise "BadNumber") msNil)
  (msSeq (msPar [0, 2] (mCons (mBin modM (mV 0) (mV 1)) (mCons (mC (.int 1)) mNil)))
  (msSeq (msWhile (mTest (mBin neM (mV 0) (mC (.int 0)))) (msSeq (msWhile (mTest (mBin eqM (mBin modM (mV 0) (mC (.int 2))) (mC (.int 0)))) (msSeq (msAug 0 idivM (mC (.int 2)))
  (msIf (mTest (mBin (inM false) (mBin modM (mV 1) (mC (.int 8))) (mTup (mCons (mC (.int 3)) (mCons (mC (.int 5)) mNil))))) (msAsg (.one 2) (mNeg (mV 2))) msNil)))
  (msSeq (msPar [0, 1] (mCons (mV 1) (mCons (mV 0) mNil)))
  (msSeq (msIf (mAnd (mTest (mBin eqM (mBin modM (mV 0) (mC (.int 4))) (mC (.int 3)))) (mTest (mBin eqM (mBin modM (mV 1) (mC (.int 4))) (mC (.int 3))))) (msAsg (.one 2) (mNeg (mV 2))) msNil)
  (msAug 0 imodM (mV 1))))))
  (msRet (mIfE (mTest (mBin eqM (mV 1) (mC (.int 1)))) (mV 2) (mC (.int 0)))))))
def f_square_sign : DF := fnM 3 m_square_sign
theorem ok_square_sign (Φ : FX G mg base) : FnOk P w0 G.K mg base (L2.CX P w0) 1 Φ.d_square_sign.a Φ.d_square_sign.fd ["a", "n"] (spM G 2 f_square_sign) :=
  fnM_ok (k := 0) Φ.d_square_sign.F sc_square_sign rfl fun A outer s H E hr => (sss_cons (ss_if (PW.pt (sw_or (st_lt (se_var 1) se_int) (sw_or1 (st_eq rfl (u64 hr) (se_mod (se_var 1) se_int) se_int)))) (sss_one (ss_raiseE Φ.e_BadNumber rfl rfl (takes_of rfl rfl rfl rfl) (by rfl))) sss_nil)
  (sss_cons (ss_par (i := 0) (j := 2) rfl sc_square_sign.nd rfl rfl (by decide) rfl rfl (sa_cons (se_mod (se_var 0) (se_var 1)) (sa_cons se_int sa_nil)) (by rfl))
  (sss_cons (ss_while (passes_of rfl) (st_ne rfl (u64 hr) (se_var 0) se_int) (sss_cons (ss_while (passes_of rfl) (st_eq rfl (u64 hr) (se_mod (se_var 0) se_int) se_int) (sss_cons (ss_aug (i := 0) sc_square_sign.nd rfl (.inl rfl) se_int iop_fdivM idivM_ok)
  (sss_one (ss_if (st_in rfl (se_mod (se_var 1) se_int) (se_tup (sa_cons se_int (sa_cons se_int sa_nil)))) (sss_one (ss_set (i := 2) rfl sc_square_sign.nd rfl (.inl rfl) (se_neg (se_var 2)))) sss_nil))))
  (sss_cons (ss_par (i := 0) (j := 1) rfl sc_square_sign.nd rfl rfl (by decide) rfl rfl (sa_cons (se_var 1) (sa_cons (se_var 0) sa_nil)) (by rfl))
  (sss_cons (ss_if (PW.pt (sw_and (st_eq rfl (u64 hr) (se_mod (se_var 0) se_int) se_int) (sw_and1 (st_eq rfl (u64 hr) (se_mod (se_var 1) se_int) se_int)))) (sss_one (ss_set (i := 2) rfl sc_square_sign.nd rfl (.inl rfl) (se_neg (se_var 2)))) sss_nil)
  (sss_one (ss_aug (i := 0) sc_square_sign.nd rfl (.inl rfl) (se_var 1) iop_mod imodM_ok))))))
  (sss_one (ss_ret (se_if (st_eq rfl (u64 hr) (se_var 1) se_int) (se_var 2) se_int))))))
/-- _law_signs -/
def m__law_signs : MS := (msSeq (msAsg (.one 2) (mBin addM (mBin mulM (mC (.int 2)) (mCall 2 f__law_roll (mCons (mV 0) (mCons (mC (.int 30)) mNil)))) (mC (.int 1))))
  (msSeq (msAsg (.one 3) (mC (.int 1)))
  (msSeq (msFor (miSeq (mCall 1 f_parts (mCons (mV 2) mNil))) (.many [4, 5]) (msSeq (msAsg (.one 6) (mIfE (mTest (mBin eqM (mBin modM (mV 1) (mV 4)) (mC (.int 0)))) (mC (.int 0)) (mIfE (mTest (mBin neM (mLc [7] (miRange1 (mCons (mV 4) mNil)) (.one 7) (mTest (mBin eqM (mBin modM (mBin subM (mBin mulM (mV 7) (mV 7)) (mV 1)) (mV 4)) (mC (.int 0)))) (mV 7)) (mLst mNil))) (mC (.int 1)) (mBin subM (mC (.int 0)) (mC (.int 1))))))
  (msFor (miRange1 (mCons (mV 5) mNil)) (.one 7) (msAsg (.one 3) (mBin mulM (mV 3) (mV 6))))))
  (msSeq (msIf (mTest (mBin neM (mCall 2 f_square_sign (mCons (mV 1) (mCons (mV 2) mNil))) (mV 3))) (msRet (mC (.bl false))) msNil)
  (msRet (mC (.bl true)))))))
def f__law_signs : DF := fnM 8 m__law_signs
theorem ok__law_signs (Φ : FX G mg base) : FnOk P w0 G.K mg base (L2.CX P w0) 9 Φ.d__law_signs.a Φ.d__law_signs.fd ["dice", "a"] (spM G 2 f__law_signs) :=
  fnM_ok (k := 8) Φ.d__law_signs.F sc__law_signs rfl fun A outer s H E hr => (sss_cons (ss_set (i := 2) rfl sc__law_signs.nd rfl (.inl rfl) (se_add rfl (se_mul se_int (se_callD Φ.d__law_roll rfl (ok__law_roll Φ) (takes_of rfl rfl rfl rfl) (hr.mono (by decide)) (by rfl) (sa_cons (se_var 0) (sa_cons se_int sa_nil)))) se_int))
  (sss_cons (ss_set (i := 3) rfl sc__law_signs.nd rfl (.inl rfl) se_int)
  (sss_cons (ss_for (t := (.many [4, 5])) rfl (passes_of rfl) rfl (si_seq rfl (se_callD Φ.d_parts rfl (ok_parts Φ) (takes_of rfl rfl rfl rfl) (hr.mono (by decide)) (by rfl) (sa_cons (se_var 2) sa_nil))) (gt_many rfl (gts_cons sc__law_signs.nd rfl (.inr rfl) (gts_cons sc__law_signs.nd rfl (.inl rfl) gts_nil))) (sss_cons (ss_set (i := 6) rfl sc__law_signs.nd rfl (.inl rfl) (se_if (st_eq rfl (u64 hr) (se_mod (se_var 1) (se_var 4)) se_int) se_int (se_if (st_ne rfl (u64 hr) (se_lc (own := [("k", 7)]) (t := (.one 7)) rfl rfl sc__law_signs.nd (si_range1 (by rfl) Φ.m_range (sa_cons (se_var 4) sa_nil)) (blkOk_by (by kernel_rfl)) (by decide) (fun _ _ _ _ _ => (gt_one sc__law_signs.nd rfl (.inl rfl))) (fun _ _ _ _ _ => (sts_one (st_eq rfl (u64 hr) (se_mod (se_sub (se_mul (se_var 7) (se_var 7)) (se_var 1)) (se_var 4)) se_int))) (fun _ _ _ _ _ => (se_var 7))) (se_lst sa_nil)) se_int (se_sub se_int se_int))))
  (sss_one (ss_for (t := (.one 7)) rfl (passes_of rfl) rfl (si_range1 (by rfl) Φ.m_range (sa_cons (se_var 5) sa_nil)) (gt_one sc__law_signs.nd rfl (.inl rfl)) (sss_one (ss_set (i := 3) rfl sc__law_signs.nd rfl (.inl rfl) (se_mul (se_var 3) (se_var 6))))))))
  (sss_cons (ss_if (st_ne rfl (u64 hr) (se_callD Φ.d_square_sign rfl (ok_square_sign Φ) (takes_of rfl rfl rfl rfl) (hr.mono (by decide)) (by rfl) (sa_cons (se_var 1) (sa_cons (se_var 2) sa_nil))) (se_var 3)) (sss_one (ss_ret se_bl)) sss_nil)
  (sss_one (ss_ret se_bl))))))
/-- root_floor -/
def m_root_floor : MS := (msSeq (msIf (mTest (mBin ltM (mV 0) (mC (.int 0)))) (msRaise "BadNumber") msNil)
  (msSeq (msAsg (.many [1, 2]) (mTup (mCons (mC (.int 0)) (mCons (mC (.int 1)) mNil))))
  (msSeq (msWhile (mTest (mBin leM (mBin mulM (mV 2) (mV 2)) (mV 0))) (msAug 2 imulM (mC (.int 2))))
  (msSeq (msWhile (mTest (mBin gtM (mBin subM (mV 2) (mV 1)) (mC (.int 1)))) (msSeq (msAsg (.one 3) (mBin divM (mBin addM (mV 1) (mV 2)) (mC (.int 2))))
  (msIf (mTest (mBin leM (mBin mulM (mV 3) (mV 3)) (mV 0))) (msAsg (.one 1) (mV 3)) (msAsg (.one 2) (mV 3)))))
  (msRet (mV 1))))))
def f_root_floor : DF := fnM 4 m_root_floor
theorem ok_root_floor (Φ : FX G mg base) : FnOk P w0 G.K mg base (L2.CX P w0) 1 Φ.d_root_floor.a Φ.d_root_floor.fd ["number"] (spM G 1 f_root_floor) :=
  fnM_ok (k := 0) Φ.d_root_floor.F sc_root_floor rfl fun A outer s H E hr => (sss_cons (ss_if (st_lt (se_var 0) se_int) (sss_one (ss_raiseE Φ.e_BadNumber rfl rfl (takes_of rfl rfl rfl rfl) (by rfl))) sss_nil)
  (sss_cons (ss_asg (t := (.many [1, 2])) rfl (se_tup (sa_cons se_int (sa_cons se_int sa_nil))) (gt_many rfl (gts_cons sc_root_floor.nd rfl (.inl rfl) (gts_cons sc_root_floor.nd rfl (.inl rfl) gts_nil))))
  (sss_cons (ss_while (passes_of rfl) (st_le (se_mul (se_var 2) (se_var 2)) (se_var 0)) (sss_one (ss_aug (i := 2) sc_root_floor.nd rfl (.inl rfl) se_int iop_mulM imulM_ok)))
  (sss_cons (ss_while (passes_of rfl) (st_gt (se_sub (se_var 2) (se_var 1)) se_int) (sss_cons (ss_set (i := 3) rfl sc_root_floor.nd rfl (.inl rfl) (se_div (se_add rfl (se_var 1) (se_var 2)) se_int))
  (sss_one (ss_if (st_le (se_mul (se_var 3) (se_var 3)) (se_var 0)) (sss_one (ss_set (i := 1) rfl sc_root_floor.nd rfl (.inl rfl) (se_var 3))) (sss_one (ss_set (i := 2) rfl sc_root_floor.nd rfl (.inl rfl) (se_var 3)))))))
  (sss_one (ss_ret (se_var 1)))))))
/-- law -/
def m_law : MS := (msSeq (msFor (miSeq (mCall 2 f__law_rounds (mCons (mV 0) (mCons (mC (.int 5)) mNil)))) (.one 1) (msSeq (msAsg (.many [2, 3, 4]) (mTup (mCons (mBin subM (mCall 2 f__law_roll (mCons (mV 1) (mCons (mC (.int 401)) mNil))) (mC (.int 200))) (mCons (mBin subM (mCall 2 f__law_roll (mCons (mV 1) (mCons (mC (.int 401)) mNil))) (mC (.int 200))) (mCons (mBin addM (mC (.int 1)) (mCall 2 f__law_roll (mCons (mV 1) (mCons (mC (.int 60)) mNil)))) mNil)))))
  (msSeq (msAsg (.many [5, 6, 7]) (mCall 2 f_shared_ways (mCons (mV 2) (mCons (mV 3) mNil))))
  (msSeq (msAsg (.one 8) (mLc [13] (miRange2 (mCons (mC (.int 1)) (mCons (mC (.int 201)) mNil))) (.one 13) (mAnd (mTest (mBin eqM (mBin modM (mV 2) (mV 13)) (mC (.int 0)))) (mTest (mBin eqM (mBin modM (mV 3) (mV 13)) (mC (.int 0))))) (mV 13)))
  (msSeq (msIf (mOr (mTest (mBin neM (mV 5) (mCall 2 f_shared (mCons (mV 2) (mCons (mV 3) mNil))))) (mOr (mTest (mBin neM (mBin addM (mBin mulM (mV 2) (mV 6)) (mBin mulM (mV 3) (mV 7))) (mV 5))) (mAnd (mTest (mBin neM (mTup (mCons (mV 2) (mCons (mV 3) mNil))) (mTup (mCons (mC (.int 0)) (mCons (mC (.int 0)) mNil))))) (mTest (mBin neM (mV 5) (mCB maxM (mCons (mV 8) mNil))))))) (msRet (mC (.bl false))) msNil)
  (msSeq (msAsg (.one 9) (mToldN toldN (mCall 2 f_back (mCons (mV 2) (mCons (mV 4) mNil)))))
  (msSeq (msAsg (.one 10) (mLc [13] (miRange1 (mCons (mV 4) mNil)) (.one 13) (mTest (mBin eqM (mBin modM (mBin mulM (mV 2) (mV 13)) (mV 4)) (mBin modM (mC (.int 1)) (mV 4)))) (mV 13)))
  (msSeq (msIf (mTest (mBin neM (mV 9) (mIfE (mTest (mBin eqM (mV 10) (mLst mNil))) (mC (.str "no way")) (mBin ixM (mV 10) (mC (.int 0)))))) (msRet (mC (.bl false))) msNil)
  (msSeq (msPar [11, 12] (mCons (mCall 2 f__law_roll (mCons (mV 1) (mCons (mC (.int 12)) mNil))) (mCons (mC (.int 1)) mNil)))
  (msSeq (msFor (miRange1 (mCons (mV 11) mNil)) (.one 13) (msAsg (.one 12) (mBin mulM (mV 12) (mV 2))))
  (msSeq (msIf (mOr (mTest (mBin neM (mCall 3 f_power (mCons (mV 2) (mCons (mV 11) (mCons (mV 4) mNil)))) (mBin modM (mV 12) (mV 4)))) (mAnd (mTest (mBin neM (mV 10) (mLst mNil))) (mTest (mBin neM (mBin modM (mBin mulM (mCall 3 f_power (mCons (mV 2) (mCons (mBin subM (mC (.int 0)) (mV 11)) (mCons (mV 4) mNil)))) (mCall 3 f_power (mCons (mV 2) (mCons (mV 11) (mCons (mV 4) mNil))))) (mV 4)) (mBin modM (mC (.int 1)) (mV 4)))))) (msRet (mC (.bl false))) msNil)
  (msSeq (msIf (mTest (mBin neM (mV 10) (mLst mNil))) (msIf (mTest (mBin neM (mCall 2 f_turns (mCons (mV 2) (mCons (mV 4) mNil))) (mBin ixM (mLc [13] (miRange2 (mCons (mC (.int 1)) (mCons (mBin addM (mV 4) (mC (.int 1))) mNil))) (.one 13) (mTest (mBin eqM (mCall 3 f_power (mCons (mV 2) (mCons (mV 13) (mCons (mV 4) mNil)))) (mBin modM (mC (.int 1)) (mV 4)))) (mV 13)) (mC (.int 0))))) (msRet (mC (.bl false))) msNil) (msIf (mTest (mBin neM (mToldN toldN (mCall 2 f_turns (mCons (mV 2) (mCons (mV 4) mNil)))) (mC (.str "no way")))) (msRet (mC (.bl false))) msNil))
  (msSeq (msIf (mNot (mTest (mCall 1 f__law_together (mCons (mV 1) mNil)))) (msRet (mC (.bl false))) msNil)
  (msSeq (msIf (mNot (mTest (mCall 1 f__law_parts (mCons (mV 1) mNil)))) (msRet (mC (.bl false))) msNil)
  (msSeq (msIf (mNot (mTest (mCall 2 f__law_signs (mCons (mV 1) (mCons (mV 2) mNil))))) (msRet (mC (.bl false))) msNil)
  (msSeq (msAsg (.one 14) (mCall 2 f__law_roll (mCons (mV 1) (mCons (mC (.int 300)) mNil))))
  (msSeq (msIf (mNot (mTest (mChain leM ltM (mBin mulM (mCall 1 f_root_floor (mCons (mV 14) mNil)) (mCall 1 f_root_floor (mCons (mV 14) mNil))) (mV 14) (mBin mulM (mBin addM (mCall 1 f_root_floor (mCons (mV 14) mNil)) (mC (.int 1))) (mBin addM (mCall 1 f_root_floor (mCons (mV 14) mNil)) (mC (.int 1))))))) (msRet (mC (.bl false))) msNil)
  (msSeq (msIf (mTest (mBin neM (mToldN toldN (mCall 2 f_square_sign (mCons (mV 2) (mCons (mBin mulM (mC (.int 2)) (mV 4)) mNil)))) (mC (.str "number")))) (msRet (mC (.bl false))) msNil)
  (msSeq (msIf (mTest (mBin neM (mToldN toldN (mCall 1 f_parts (mCons (mC (.int 0)) mNil))) (mC (.str "number")))) (msRet (mC (.bl false))) msNil)
  (msIf (mTest (mBin neM (mToldN toldN (mCall 1 f_root_floor (mCons (mBin subM (mC (.int 0)) (mV 4)) mNil))) (mC (.str "number")))) (msRet (mC (.bl false))) msNil))))))))))))))))))))
  (msRet (mC (.bl true))))
def f_law : DF := fnM 15 m_law
theorem ok_law (Φ : FX G mg base) : FnOk P w0 G.K mg base (L2.CX P w0) 13 Φ.d_law.a Φ.d_law.fd ["script"] (spM G 1 f_law) :=
  fnM_ok (k := 12) Φ.d_law.F sc_law rfl fun A outer s H E hr => (sss_cons (ss_for (t := (.one 1)) rfl (passes_of rfl) rfl (si_seq rfl (se_callD Φ.d__law_rounds rfl (ok__law_rounds Φ) (takes_of rfl rfl rfl rfl) (hr.mono (by decide)) (by rfl) (sa_cons (se_var 0) (sa_cons se_int sa_nil)))) (gt_one sc_law.nd rfl (.inl rfl)) (sss_cons (ss_asg (t := (.many [2, 3, 4])) rfl (se_tup (sa_cons (se_sub (se_callD Φ.d__law_roll rfl (ok__law_roll Φ) (takes_of rfl rfl rfl rfl) (hr.mono (by decide)) (by rfl) (sa_cons (se_var 1) (sa_cons se_int sa_nil))) se_int) (sa_cons (se_sub (se_callD Φ.d__law_roll rfl (ok__law_roll Φ) (takes_of rfl rfl rfl rfl) (hr.mono (by decide)) (by rfl) (sa_cons (se_var 1) (sa_cons se_int sa_nil))) se_int) (sa_cons (se_add rfl se_int (se_callD Φ.d__law_roll rfl (ok__law_roll Φ) (takes_of rfl rfl rfl rfl) (hr.mono (by decide)) (by rfl) (sa_cons (se_var 1) (sa_cons se_int sa_nil)))) sa_nil)))) (gt_many rfl (gts_cons sc_law.nd rfl (.inr rfl) (gts_cons sc_law.nd rfl (.inr rfl) (gts_cons sc_law.nd rfl (.inr rfl) gts_nil)))))
  (sss_cons (ss_asg (t := (.many [5, 6, 7])) rfl (se_callD Φ.d_shared_ways rfl (ok_shared_ways Φ) (takes_of rfl rfl rfl rfl) (hr.mono (by decide)) (by rfl) (sa_cons (se_var 2) (sa_cons (se_var 3) sa_nil))) (gt_many rfl (gts_cons sc_law.nd rfl (.inl rfl) (gts_cons sc_law.nd rfl (.inl rfl) (gts_cons sc_law.nd rfl (.inl rfl) gts_nil)))))
  (sss_cons (ss_setLc (i := 8) (own := [("k", 13)]) (t := (.one 13)) rfl rfl sc_law.nd rfl rfl rfl (si_range2 (by rfl) Φ.m_range (sa_cons se_int (sa_cons se_int sa_nil))) (blkOk_by (by kernel_rfl)) (by decide) (fun _ _ _ _ _ => (gt_one sc_law.nd rfl (.inl rfl))) (fun _ _ _ _ _ => (sts_one (PW.pt (sw_and (st_eq rfl (u64 hr) (se_mod (se_var 2) (se_var 13)) se_int) (sw_and1 (st_eq rfl (u64 hr) (se_mod (se_var 3) (se_var 13)) se_int)))))) (fun _ _ _ _ _ => (se_var 13)))
  (sss_cons (ss_if (PW.pt (sw_or (st_ne rfl (u64 hr) (se_var 5) (se_callD Φ.d_shared rfl (ok_shared Φ) (takes_of rfl rfl rfl rfl) (hr.mono (by decide)) (by rfl) (sa_cons (se_var 2) (sa_cons (se_var 3) sa_nil)))) (sw_or (st_ne rfl (u64 hr) (se_add rfl (se_mul (se_var 2) (se_var 6)) (se_mul (se_var 3) (se_var 7))) (se_var 5)) (sw_or1 (PW.pt (sw_and (st_ne rfl (u64 hr) (se_tup (sa_cons (se_var 2) (sa_cons (se_var 3) sa_nil))) (se_tup (sa_cons se_int (sa_cons se_int sa_nil)))) (sw_and1 (st_ne rfl (u64 hr) (se_var 5) (se_callB (cr_max rfl) maxM_ok (by rfl) Φ.m_max (by rfl) (sa_cons (se_var 8) sa_nil)))))))))) (sss_one (ss_ret se_bl)) sss_nil)
  (sss_cons (ss_set (i := 9) rfl sc_law.nd rfl (.inl rfl) (se_toldN (k := 10) Φ rfl rfl rfl (by rfl) Φ.t_law rfl hr (LamX.lamS_by (by kernel_rfl)) rfl (by intros; rfl) (fun _ _ _ _ _ _ _ hr3 => (se_callD Φ.d_back rfl (ok_back Φ) (takes_of rfl rfl rfl rfl) (hr3.mono (by decide)) (by rfl) (sa_cons (se_var 2) (sa_cons (se_var 4) sa_nil))))))
  (sss_cons (ss_setLc (i := 10) (own := [("k", 13)]) (t := (.one 13)) rfl rfl sc_law.nd rfl rfl rfl (si_range1 (by rfl) Φ.m_range (sa_cons (se_var 4) sa_nil)) (blkOk_by (by kernel_rfl)) (by decide) (fun _ _ _ _ _ => (gt_one sc_law.nd rfl (.inl rfl))) (fun _ _ _ _ _ => (sts_one (st_eq rfl (u64 hr) (se_mod (se_mul (se_var 2) (se_var 13)) (se_var 4)) (se_mod se_int (se_var 4))))) (fun _ _ _ _ _ => (se_var 13)))
  (sss_cons (ss_if (st_ne rfl (u64 hr) (se_var 9) (se_if (st_eq rfl (u64 hr) (se_var 10) (se_lst sa_nil)) se_str (se_ixs rfl (se_var 10) se_int))) (sss_one (ss_ret se_bl)) sss_nil)
  (sss_cons (ss_par (i := 11) (j := 12) rfl sc_law.nd rfl rfl (by decide) rfl rfl (sa_cons (se_callD Φ.d__law_roll rfl (ok__law_roll Φ) (takes_of rfl rfl rfl rfl) (hr.mono (by decide)) (by rfl) (sa_cons (se_var 1) (sa_cons se_int sa_nil))) (sa_cons se_int sa_nil)) (by rfl))
  (sss_cons (ss_for (t := (.one 13)) rfl (passes_of rfl) rfl (si_range1 (by rfl) Φ.m_range (sa_cons (se_var 11) sa_nil)) (gt_one sc_law.nd rfl (.inl rfl)) (sss_one (ss_set (i := 12) rfl sc_law.nd rfl (.inl rfl) (se_mul (se_var 12) (se_var 2)))))
  (sss_cons (ss_if (PW.pt (sw_or (st_ne rfl (u64 hr) (se_callD Φ.d_power rfl (ok_power Φ) (takes_of rfl rfl rfl rfl) (hr.mono (by decide)) (by rfl) (sa_cons (se_var 2) (sa_cons (se_var 11) (sa_cons (se_var 4) sa_nil)))) (se_mod (se_var 12) (se_var 4))) (sw_or1 (PW.pt (sw_and (st_ne rfl (u64 hr) (se_var 10) (se_lst sa_nil)) (sw_and1 (st_ne rfl (u64 hr) (se_mod (se_mul (se_callD Φ.d_power rfl (ok_power Φ) (takes_of rfl rfl rfl rfl) (hr.mono (by decide)) (by rfl) (sa_cons (se_var 2) (sa_cons (se_sub se_int (se_var 11)) (sa_cons (se_var 4) sa_nil)))) (se_callD Φ.d_power rfl (ok_power Φ) (takes_of rfl rfl rfl rfl) (hr.mono (by decide)) (by rfl) (sa_cons (se_var 2) (sa_cons (se_var 11) (sa_cons (se_var 4) sa_nil))))) (se_var 4)) (se_mod se_int (se_var 4))))))))) (sss_one (ss_ret se_bl)) sss_nil)
  (sss_cons (ss_if (st_ne rfl (u64 hr) (se_var 10) (se_lst sa_nil)) (sss_one (ss_if (st_ne rfl (u64 hr) (se_callD Φ.d_turns rfl (ok_turns Φ) (takes_of rfl rfl rfl rfl) (hr.mono (by decide)) (by rfl) (sa_cons (se_var 2) (sa_cons (se_var 4) sa_nil))) (se_ixs rfl (se_lc (own := [("k", 13)]) (t := (.one 13)) rfl rfl sc_law.nd (si_range2 (by rfl) Φ.m_range (sa_cons se_int (sa_cons (se_add rfl (se_var 4) se_int) sa_nil))) (blkOk_by (by kernel_rfl)) (by decide) (fun _ _ _ _ _ => (gt_one sc_law.nd rfl (.inl rfl))) (fun _ _ _ _ _ => (sts_one (st_eq rfl (u64 hr) (se_callD Φ.d_power rfl (ok_power Φ) LamX.takes0 (hr.mono (by decide)) (by rfl) (sa_cons (se_var 2) (sa_cons (se_var 13) (sa_cons (se_var 4) sa_nil)))) (se_mod se_int (se_var 4))))) (fun _ _ _ _ _ => (se_var 13))) se_int)) (sss_one (ss_ret se_bl)) sss_nil)) (sss_one (ss_if (st_ne rfl (u64 hr) (se_toldN (k := 10) Φ rfl rfl rfl (by rfl) Φ.t_law rfl hr (LamX.lamS_by (by kernel_rfl)) rfl (by intros; rfl) (fun _ _ _ _ _ _ _ hr3 => (se_callD Φ.d_turns rfl (ok_turns Φ) (takes_of rfl rfl rfl rfl) (hr3.mono (by decide)) (by rfl) (sa_cons (se_var 2) (sa_cons (se_var 4) sa_nil))))) se_str) (sss_one (ss_ret se_bl)) sss_nil)))
  (sss_cons (ss_if (st_not (st_val (se_callD Φ.d__law_together rfl (ok__law_together Φ) (takes_of rfl rfl rfl rfl) (hr.mono (by decide)) (by rfl) (sa_cons (se_var 1) sa_nil)))) (sss_one (ss_ret se_bl)) sss_nil)
  (sss_cons (ss_if (st_not (st_val (se_callD Φ.d__law_parts rfl (ok__law_parts Φ) (takes_of rfl rfl rfl rfl) (hr.mono (by decide)) (by rfl) (sa_cons (se_var 1) sa_nil)))) (sss_one (ss_ret se_bl)) sss_nil)
  (sss_cons (ss_if (st_not (st_val (se_callD Φ.d__law_signs rfl (ok__law_signs Φ) (takes_of rfl rfl rfl rfl) (hr.mono (by decide)) (by rfl) (sa_cons (se_var 1) (sa_cons (se_var 2) sa_nil))))) (sss_one (ss_ret se_bl)) sss_nil)
  (sss_cons (ss_set (i := 14) rfl sc_law.nd rfl (.inl rfl) (se_callD Φ.d__law_roll rfl (ok__law_roll Φ) (takes_of rfl rfl rfl rfl) (hr.mono (by decide)) (by rfl) (sa_cons (se_var 1) (sa_cons se_int sa_nil))))
  (sss_cons (ss_if (st_not (st_chain op_le cmpM_ok op_lt cmpM_ok (se_mul (se_callD Φ.d_root_floor rfl (ok_root_floor Φ) (takes_of rfl rfl rfl rfl) (hr.mono (by decide)) (by rfl) (sa_cons (se_var 14) sa_nil)) (se_callD Φ.d_root_floor rfl (ok_root_floor Φ) (takes_of rfl rfl rfl rfl) (hr.mono (by decide)) (by rfl) (sa_cons (se_var 14) sa_nil))) (se_var 14) (se_mul (se_add rfl (se_callD Φ.d_root_floor rfl (ok_root_floor Φ) (takes_of rfl rfl rfl rfl) (hr.mono (by decide)) (by rfl) (sa_cons (se_var 14) sa_nil)) se_int) (se_add rfl (se_callD Φ.d_root_floor rfl (ok_root_floor Φ) (takes_of rfl rfl rfl rfl) (hr.mono (by decide)) (by rfl) (sa_cons (se_var 14) sa_nil)) se_int)))) (sss_one (ss_ret se_bl)) sss_nil)
  (sss_cons (ss_if (st_ne rfl (u64 hr) (se_toldN (k := 10) Φ rfl rfl rfl (by rfl) Φ.t_law rfl hr (LamX.lamS_by (by kernel_rfl)) rfl (by intros; rfl) (fun _ _ _ _ _ _ _ hr3 => (se_callD Φ.d_square_sign rfl (ok_square_sign Φ) (takes_of rfl rfl rfl rfl) (hr3.mono (by decide)) (by rfl) (sa_cons (se_var 2) (sa_cons (se_mul se_int (se_var 4)) sa_nil))))) se_str) (sss_one (ss_ret se_bl)) sss_nil)
  (sss_cons (ss_if (st_ne rfl (u64 hr) (se_toldN (k := 10) Φ rfl rfl rfl (by rfl) Φ.t_law rfl hr (LamX.lamS_by (by kernel_rfl)) rfl (by intros; rfl) (fun _ _ _ _ _ _ _ hr3 => (se_callD Φ.d_parts rfl (ok_parts Φ) (takes_of rfl rfl rfl rfl) (hr3.mono (by decide)) (by rfl) (sa_cons se_int sa_nil)))) se_str) (sss_one (ss_ret se_bl)) sss_nil)
  (sss_one (ss_if (st_ne rfl (u64 hr) (se_toldN (k := 10) Φ rfl rfl rfl (by rfl) Φ.t_law rfl hr (LamX.lamS_by (by kernel_rfl)) rfl (by intros; rfl) (fun _ _ _ _ _ _ _ hr3 => (se_callD Φ.d_root_floor rfl (ok_root_floor Φ) (takes_of rfl rfl rfl rfl) (hr3.mono (by decide)) (by rfl) (sa_cons (se_sub se_int (se_var 4)) sa_nil)))) se_str) (sss_one (ss_ret se_bl)) sss_nil)))))))))))))))))))))
  (sss_one (ss_ret se_bl)))
end K01
set_option Elab.async false
set_option linter.all false
set_option maxRecDepth 100000
set_option maxHeartbeats 0
/-! Printed by gen.py: the head, the end. -/
namespace K01
open PySem PySem.Spec PyProof.Rows L2 Mx
def faN : List He.Fa := [.glo "_law_told", .glo "_law_dice", .glo "_law_rounds", .glo "_law_roll", .glo "shared_ways", .glo "shared", .glo "back", .glo "power", .glo "passes", .glo "is_prime", .glo "some_part", .glo "parts", .glo "count_apart", .glo "turns", .glo "together", .glo "_law_together", .glo "raised", .glo "divisors", .glo "weight", .glo "_law_parts", .glo "square_sign", .glo "_law_signs", .glo "root_floor", .glo "law", .glo "BadField", .glo "BadNumber", .glo "NoWay", .glo "TooLarge", .exc "BadField", .exc "BadNumber", .exc "NoWay", .exc "TooLarge", .free "abs", .free "all", .free "any", .free "int", .free "len", .free "list", .free "max", .free "range", .free "sorted", .free "sum", .free "tuple", .exm "BadNumber" "BadNumber" true, .exm "BadNumber" "BadField" false, .exm "BadNumber" "NoWay" false, .exm "BadNumber" "TooLarge" false, .exm "BadField" "BadNumber" false, .exm "BadField" "BadField" true, .exm "BadField" "NoWay" false, .exm "BadField" "TooLarge" false, .exm "NoWay" "BadNumber" false, .exm "NoWay" "BadField" false, .exm "NoWay" "NoWay" true, .exm "NoWay" "TooLarge" false, .exm "TooLarge" "BadNumber" false, .exm "TooLarge" "BadField" false, .exm "TooLarge" "NoWay" false, .exm "TooLarge" "TooLarge" true]
def dd__law_told : He.DefD := ⟨("_law_told", none), "_law_told", "_law_told", defArgs s__law_told, defBody s__law_told, defScope s__law_told, [], []⟩
def dd__law_dice : He.DefD := ⟨("_law_dice", none), "_law_dice", "_law_dice", defArgs s__law_dice, defBody s__law_dice, defScope s__law_dice, [], []⟩
def dd__law_rounds : He.DefD := ⟨("_law_rounds", none), "_law_rounds", "_law_rounds", defArgs s__law_rounds, defBody s__law_rounds, defScope s__law_rounds, [], []⟩
def dd__law_roll : He.DefD := ⟨("_law_roll", none), "_law_roll", "_law_roll", defArgs s__law_roll, defBody s__law_roll, defScope s__law_roll, [], []⟩
def dd_shared_ways : He.DefD := ⟨("shared_ways", none), "shared_ways", "shared_ways", defArgs s_shared_ways, defBody s_shared_ways, defScope s_shared_ways, [], []⟩
def dd_shared : He.DefD := ⟨("shared", none), "shared", "shared", defArgs s_shared, defBody s_shared, defScope s_shared, [], []⟩
def dd_back : He.DefD := ⟨("back", none), "back", "back", defArgs s_back, defBody s_back, defScope s_back, [], []⟩
def dd_power : He.DefD := ⟨("power", none), "power", "power", defArgs s_power, defBody s_power, defScope s_power, [], []⟩
def dd_passes : He.DefD := ⟨("passes", none), "passes", "passes", defArgs s_passes, defBody s_passes, defScope s_passes, [], []⟩
def dd_is_prime : He.DefD := ⟨("is_prime", none), "is_prime", "is_prime", defArgs s_is_prime, defBody s_is_prime, defScope s_is_prime, [], []⟩
def dd_some_part : He.DefD := ⟨("some_part", none), "some_part", "some_part", defArgs s_some_part, defBody s_some_part, defScope s_some_part, [], []⟩
def dd_parts : He.DefD := ⟨("parts", none), "parts", "parts", defArgs s_parts, defBody s_parts, defScope s_parts, [], []⟩
def dd_count_apart : He.DefD := ⟨("count_apart", none), "count_apart", "count_apart", defArgs s_count_apart, defBody s_count_apart, defScope s_count_apart, [], []⟩
def dd_turns : He.DefD := ⟨("turns", none), "turns", "turns", defArgs s_turns, defBody s_turns, defScope s_turns, [], []⟩
def dd_together : He.DefD := ⟨("together", none), "together", "together", defArgs s_together, defBody s_together, defScope s_together, [], []⟩
def dd__law_together : He.DefD := ⟨("_law_together", none), "_law_together", "_law_together", defArgs s__law_together, defBody s__law_together, defScope s__law_together, [], []⟩
def dd_raised : He.DefD := ⟨("raised", none), "raised", "raised", defArgs s_raised, defBody s_raised, defScope s_raised, [], []⟩
def dd_divisors : He.DefD := ⟨("divisors", none), "divisors", "divisors", defArgs s_divisors, defBody s_divisors, defScope s_divisors, [], []⟩
def dd_weight : He.DefD := ⟨("weight", none), "weight", "weight", defArgs s_weight, defBody s_weight, defScope s_weight, [], []⟩
def dd__law_parts : He.DefD := ⟨("_law_parts", none), "_law_parts", "_law_parts", defArgs s__law_parts, defBody s__law_parts, defScope s__law_parts, [], []⟩
def dd_square_sign : He.DefD := ⟨("square_sign", none), "square_sign", "square_sign", defArgs s_square_sign, defBody s_square_sign, defScope s_square_sign, [], []⟩
def dd__law_signs : He.DefD := ⟨("_law_signs", none), "_law_signs", "_law_signs", defArgs s__law_signs, defBody s__law_signs, defScope s__law_signs, [], []⟩
def dd_root_floor : He.DefD := ⟨("root_floor", none), "root_floor", "root_floor", defArgs s_root_floor, defBody s_root_floor, defScope s_root_floor, [], []⟩
def dd_law : He.DefD := ⟨("law", none), "law", "law", defArgs s_law, defBody s_law, defScope s_law, [], []⟩
def fnN : List He.DefD := [dd__law_told, dd__law_dice, dd__law_rounds, dd__law_roll, dd_shared_ways, dd_shared, dd_back, dd_power, dd_passes, dd_is_prime, dd_some_part, dd_parts, dd_count_apart, dd_turns, dd_together, dd__law_together, dd_raised, dd_divisors, dd_weight, dd__law_parts, dd_square_sign, dd__law_signs, dd_root_floor, dd_law]
def tfN : List He.Defn := [("is_prime", none), ("_law_together", none), ("weight", none), ("law", none)]
def exN (K : PySem.W.Frag) : Bool := decide ((tfN.map fun p => (He.cT K p).2).Nodup)
abbrev R : PySem.W.OpenRow := PySem.W.OpenLaw.row PySem.Challenge.rw_idealhall_k01_clocks
abbrev hk : PySem.W.Hook := He.hookX 5 faN fnN [] tfN exN
def ob (s : PySem.W.SharedT) : He.AlX := He.obsX 5 faN fnN [] tfN exN (HandSHeadRun.getT s)
theorem ob_eq (s : PySem.W.SharedT) : ob s = hk.obs s.abs := He.obsX_eq (HandSHeadRun.getT_eq s)
def looseN : List PySem.Str := (["FieldFault", "BadNumber", "BadField", "NoWay", "TooLarge", "shared", "shared_ways", "back", "power", "raised", "root_floor", "is_prime", "passes", "parts", "some_part", "divisors", "count_apart", "weight", "together", "turns", "square_sign", "_law_dice", "_law_roll", "_law_rounds", "_law_told", "_law_together", "_law_parts", "_law_signs"] : List PySem.Str)
theorem run (w : World) : HandSHeadRun.RunEq R (PySem.W.view R.prog [31]) hk ob 4000 looseN w := by
  intro os
  kernel_rfl
def gb (K : PySem.W.Frag) : Gb := ⟨K, [((He.cT K ("is_prime", none)).2, (("is_prime" : Str) ++ .ofString ".<locals>.") ++ .ofString "<genexpr>"), ((He.cT K ("_law_together", none)).2, (("_law_together" : Str) ++ .ofString ".<locals>.") ++ .ofString "<lambda>"), ((He.cT K ("weight", none)).2, (("weight" : Str) ++ .ofString ".<locals>.") ++ .ofString "<genexpr>"), ((He.cT K ("law", none)).2, (("law" : Str) ++ .ofString ".<locals>.") ++ .ofString "<lambda>")], fun x => ([("BadField", He.ga K "BadField"), ("BadNumber", He.ga K "BadNumber"), ("NoWay", He.ga K "NoWay"), ("TooLarge", He.ga K "TooLarge")] : List (Str × Addr)).lookup x⟩
theorem law_at {w : World} {mg : Str → Option Value} {h : Heap} {fa : Addr} {K : PySem.W.Frag} (lawOk : LawM f_law 63) (X : K.In h) (N : h.Ns mainGlobals mg) (hfa : mg ("law" : Str) = some (.ref fa)) (c : He.SaysX faN fnN [] tfN exN w h K) :
    LamX.LawAtS PySem.Challenge.rw_idealhall_k01_clocks w K (L2.CX (PySem.Challenge.rw_idealhall_k01_clocks).prog w) 13 63 "script" mg fa h := by
  have D := c.t.d
  obtain ⟨d__law_told, a__law_told, c__law_told, b__law_told⟩ := defOk_of (G := gb K) (mg := mg) (x := "_law_told") (st := s__law_told) (ps := ["what"]) X N (D.def_ 0 (d := dd__law_told) rfl) (D.fact 0 (f := .glo "_law_told") rfl) (fun _ _ _ _ _ _ us hl => match us, hl with | [_], _ => rfl)
  obtain ⟨d__law_dice, a__law_dice, c__law_dice, b__law_dice⟩ := defOk_of (G := gb K) (mg := mg) (x := "_law_dice") (st := s__law_dice) (ps := ["cell"]) X N (D.def_ 1 (d := dd__law_dice) rfl) (D.fact 1 (f := .glo "_law_dice") rfl) (fun _ _ _ _ _ _ us hl => match us, hl with | [_], _ => rfl)
  obtain ⟨d__law_rounds, a__law_rounds, c__law_rounds, b__law_rounds⟩ := defOk_of (G := gb K) (mg := mg) (x := "_law_rounds") (st := s__law_rounds) (ps := ["script", "most"]) X N (D.def_ 2 (d := dd__law_rounds) rfl) (D.fact 2 (f := .glo "_law_rounds") rfl) (fun _ _ _ _ _ _ us hl => match us, hl with | [_, _], _ => rfl)
  obtain ⟨d__law_roll, a__law_roll, c__law_roll, b__law_roll⟩ := defOk_of (G := gb K) (mg := mg) (x := "_law_roll") (st := s__law_roll) (ps := ["dice", "many"]) X N (D.def_ 3 (d := dd__law_roll) rfl) (D.fact 3 (f := .glo "_law_roll") rfl) (fun _ _ _ _ _ _ us hl => match us, hl with | [_, _], _ => rfl)
  obtain ⟨d_shared_ways, a_shared_ways, c_shared_ways, b_shared_ways⟩ := defOk_of (G := gb K) (mg := mg) (x := "shared_ways") (st := s_shared_ways) (ps := ["a", "b"]) X N (D.def_ 4 (d := dd_shared_ways) rfl) (D.fact 4 (f := .glo "shared_ways") rfl) (fun _ _ _ _ _ _ us hl => match us, hl with | [_, _], _ => rfl)
  obtain ⟨d_shared, a_shared, c_shared, b_shared⟩ := defOk_of (G := gb K) (mg := mg) (x := "shared") (st := s_shared) (ps := ["a", "b"]) X N (D.def_ 5 (d := dd_shared) rfl) (D.fact 5 (f := .glo "shared") rfl) (fun _ _ _ _ _ _ us hl => match us, hl with | [_, _], _ => rfl)
  obtain ⟨d_back, a_back, c_back, b_back⟩ := defOk_of (G := gb K) (mg := mg) (x := "back") (st := s_back) (ps := ["a", "n"]) X N (D.def_ 6 (d := dd_back) rfl) (D.fact 6 (f := .glo "back") rfl) (fun _ _ _ _ _ _ us hl => match us, hl with | [_, _], _ => rfl)
  obtain ⟨d_power, a_power, c_power, b_power⟩ := defOk_of (G := gb K) (mg := mg) (x := "power") (st := s_power) (ps := ["a", "many", "n"]) X N (D.def_ 7 (d := dd_power) rfl) (D.fact 7 (f := .glo "power") rfl) (fun _ _ _ _ _ _ us hl => match us, hl with | [_, _, _], _ => rfl)
  obtain ⟨d_passes, a_passes, c_passes, b_passes⟩ := defOk_of (G := gb K) (mg := mg) (x := "passes") (st := s_passes) (ps := ["a", "n"]) X N (D.def_ 8 (d := dd_passes) rfl) (D.fact 8 (f := .glo "passes") rfl) (fun _ _ _ _ _ _ us hl => match us, hl with | [_, _], _ => rfl)
  obtain ⟨d_is_prime, a_is_prime, c_is_prime, b_is_prime⟩ := defOk_of (G := gb K) (mg := mg) (x := "is_prime") (st := s_is_prime) (ps := ["n"]) X N (D.def_ 9 (d := dd_is_prime) rfl) (D.fact 9 (f := .glo "is_prime") rfl) (fun _ _ _ _ _ _ us hl => match us, hl with | [_], _ => rfl)
  obtain ⟨d_some_part, a_some_part, c_some_part, b_some_part⟩ := defOk_of (G := gb K) (mg := mg) (x := "some_part") (st := s_some_part) (ps := ["n"]) X N (D.def_ 10 (d := dd_some_part) rfl) (D.fact 10 (f := .glo "some_part") rfl) (fun _ _ _ _ _ _ us hl => match us, hl with | [_], _ => rfl)
  obtain ⟨d_parts, a_parts, c_parts, b_parts⟩ := defOk_of (G := gb K) (mg := mg) (x := "parts") (st := s_parts) (ps := ["n"]) X N (D.def_ 11 (d := dd_parts) rfl) (D.fact 11 (f := .glo "parts") rfl) (fun _ _ _ _ _ _ us hl => match us, hl with | [_], _ => rfl)
  obtain ⟨d_count_apart, a_count_apart, c_count_apart, b_count_apart⟩ := defOk_of (G := gb K) (mg := mg) (x := "count_apart") (st := s_count_apart) (ps := ["n"]) X N (D.def_ 12 (d := dd_count_apart) rfl) (D.fact 12 (f := .glo "count_apart") rfl) (fun _ _ _ _ _ _ us hl => match us, hl with | [_], _ => rfl)
  obtain ⟨d_turns, a_turns, c_turns, b_turns⟩ := defOk_of (G := gb K) (mg := mg) (x := "turns") (st := s_turns) (ps := ["a", "n"]) X N (D.def_ 13 (d := dd_turns) rfl) (D.fact 13 (f := .glo "turns") rfl) (fun _ _ _ _ _ _ us hl => match us, hl with | [_, _], _ => rfl)
  obtain ⟨d_together, a_together, c_together, b_together⟩ := defOk_of (G := gb K) (mg := mg) (x := "together") (st := s_together) (ps := ["row"]) X N (D.def_ 14 (d := dd_together) rfl) (D.fact 14 (f := .glo "together") rfl) (fun _ _ _ _ _ _ us hl => match us, hl with | [_], _ => rfl)
  obtain ⟨d__law_together, a__law_together, c__law_together, b__law_together⟩ := defOk_of (G := gb K) (mg := mg) (x := "_law_together") (st := s__law_together) (ps := ["dice"]) X N (D.def_ 15 (d := dd__law_together) rfl) (D.fact 15 (f := .glo "_law_together") rfl) (fun _ _ _ _ _ _ us hl => match us, hl with | [_], _ => rfl)
  obtain ⟨d_raised, a_raised, c_raised, b_raised⟩ := defOk_of (G := gb K) (mg := mg) (x := "raised") (st := s_raised) (ps := ["a", "many"]) X N (D.def_ 16 (d := dd_raised) rfl) (D.fact 16 (f := .glo "raised") rfl) (fun _ _ _ _ _ _ us hl => match us, hl with | [_, _], _ => rfl)
  obtain ⟨d_divisors, a_divisors, c_divisors, b_divisors⟩ := defOk_of (G := gb K) (mg := mg) (x := "divisors") (st := s_divisors) (ps := ["n"]) X N (D.def_ 17 (d := dd_divisors) rfl) (D.fact 17 (f := .glo "divisors") rfl) (fun _ _ _ _ _ _ us hl => match us, hl with | [_], _ => rfl)
  obtain ⟨d_weight, a_weight, c_weight, b_weight⟩ := defOk_of (G := gb K) (mg := mg) (x := "weight") (st := s_weight) (ps := ["n"]) X N (D.def_ 18 (d := dd_weight) rfl) (D.fact 18 (f := .glo "weight") rfl) (fun _ _ _ _ _ _ us hl => match us, hl with | [_], _ => rfl)
  obtain ⟨d__law_parts, a__law_parts, c__law_parts, b__law_parts⟩ := defOk_of (G := gb K) (mg := mg) (x := "_law_parts") (st := s__law_parts) (ps := ["dice"]) X N (D.def_ 19 (d := dd__law_parts) rfl) (D.fact 19 (f := .glo "_law_parts") rfl) (fun _ _ _ _ _ _ us hl => match us, hl with | [_], _ => rfl)
  obtain ⟨d_square_sign, a_square_sign, c_square_sign, b_square_sign⟩ := defOk_of (G := gb K) (mg := mg) (x := "square_sign") (st := s_square_sign) (ps := ["a", "n"]) X N (D.def_ 20 (d := dd_square_sign) rfl) (D.fact 20 (f := .glo "square_sign") rfl) (fun _ _ _ _ _ _ us hl => match us, hl with | [_, _], _ => rfl)
  obtain ⟨d__law_signs, a__law_signs, c__law_signs, b__law_signs⟩ := defOk_of (G := gb K) (mg := mg) (x := "_law_signs") (st := s__law_signs) (ps := ["dice", "a"]) X N (D.def_ 21 (d := dd__law_signs) rfl) (D.fact 21 (f := .glo "_law_signs") rfl) (fun _ _ _ _ _ _ us hl => match us, hl with | [_, _], _ => rfl)
  obtain ⟨d_root_floor, a_root_floor, c_root_floor, b_root_floor⟩ := defOk_of (G := gb K) (mg := mg) (x := "root_floor") (st := s_root_floor) (ps := ["number"]) X N (D.def_ 22 (d := dd_root_floor) rfl) (D.fact 22 (f := .glo "root_floor") rfl) (fun _ _ _ _ _ _ us hl => match us, hl with | [_], _ => rfl)
  obtain ⟨d_law, a_law, c_law, b_law⟩ := defOk_of (G := gb K) (mg := mg) (x := "law") (st := s_law) (ps := ["script"]) X N (D.def_ 23 (d := dd_law) rfl) (D.fact 23 (f := .glo "law") rfl) (fun _ _ _ _ _ _ us hl => match us, hl with | [_], _ => rfl)
  obtain ⟨e_BadField, ee_BadField⟩ := excOk_of (G := gb K) (mg := mg) (x := "BadField") X N (D.fact 24 (f := .glo "BadField") rfl) (D.fact 28 (f := .exc "BadField") rfl) rfl
  obtain ⟨e_BadNumber, ee_BadNumber⟩ := excOk_of (G := gb K) (mg := mg) (x := "BadNumber") X N (D.fact 25 (f := .glo "BadNumber") rfl) (D.fact 29 (f := .exc "BadNumber") rfl) rfl
  obtain ⟨e_NoWay, ee_NoWay⟩ := excOk_of (G := gb K) (mg := mg) (x := "NoWay") X N (D.fact 26 (f := .glo "NoWay") rfl) (D.fact 30 (f := .exc "NoWay") rfl) rfl
  obtain ⟨e_TooLarge, ee_TooLarge⟩ := excOk_of (G := gb K) (mg := mg) (x := "TooLarge") X N (D.fact 27 (f := .glo "TooLarge") rfl) (D.fact 31 (f := .exc "TooLarge") rfl) rfl
  have m_abs : mg "abs" = none := He.free_ok X N (D.fact 32 (f := .free "abs") rfl)
  have m_all : mg "all" = none := He.free_ok X N (D.fact 33 (f := .free "all") rfl)
  have m_any : mg "any" = none := He.free_ok X N (D.fact 34 (f := .free "any") rfl)
  have m_int : mg "int" = none := He.free_ok X N (D.fact 35 (f := .free "int") rfl)
  have m_len : mg "len" = none := He.free_ok X N (D.fact 36 (f := .free "len") rfl)
  have m_list : mg "list" = none := He.free_ok X N (D.fact 37 (f := .free "list") rfl)
  have m_max : mg "max" = none := He.free_ok X N (D.fact 38 (f := .free "max") rfl)
  have m_range : mg "range" = none := He.free_ok X N (D.fact 39 (f := .free "range") rfl)
  have m_sorted : mg "sorted" = none := He.free_ok X N (D.fact 40 (f := .free "sorted") rfl)
  have m_sum : mg "sum" = none := He.free_ok X N (D.fact 41 (f := .free "sum") rfl)
  have m_tuple : mg "tuple" = none := He.free_ok X N (D.fact 42 (f := .free "tuple") rfl)
  have nd : (tfN.map fun p => (He.cT K p).2).Nodup := of_decide_eq_true c.more
  have exm : ∀ r ∈ ([("BadNumber", e_BadNumber.C), ("BadField", e_BadField.C), ("NoWay", e_NoWay.C), ("TooLarge", e_TooLarge.C)] : List (Str × Addr)), ∀ r' ∈ ([("BadNumber", e_BadNumber.C), ("BadField", e_BadField.C), ("NoWay", e_NoWay.C), ("TooLarge", e_TooLarge.C)] : List (Str × Addr)), PySem.W.exmOne (gb K).K (.ref r.2) (.ref r'.2) = some (decide ((r.1 : Str) = r'.1)) := by
    rw [ee_BadNumber, ee_BadField, ee_NoWay, ee_TooLarge]
    intro r hr r' hr'
    simp only [List.mem_cons, List.not_mem_nil, or_false] at hr hr'
    rcases hr with rfl | rfl | rfl | rfl <;> rcases hr' with rfl | rfl | rfl | rfl
    · exact (He.exm_ok (D.fact 43 (f := .exm "BadNumber" "BadNumber" true) rfl)).trans (show some true = some (decide (("BadNumber" : Str) = "BadNumber")) from by decide +kernel)
    · exact (He.exm_ok (D.fact 44 (f := .exm "BadNumber" "BadField" false) rfl)).trans (show some false = some (decide (("BadNumber" : Str) = "BadField")) from by decide +kernel)
    · exact (He.exm_ok (D.fact 45 (f := .exm "BadNumber" "NoWay" false) rfl)).trans (show some false = some (decide (("BadNumber" : Str) = "NoWay")) from by decide +kernel)
    · exact (He.exm_ok (D.fact 46 (f := .exm "BadNumber" "TooLarge" false) rfl)).trans (show some false = some (decide (("BadNumber" : Str) = "TooLarge")) from by decide +kernel)
    · exact (He.exm_ok (D.fact 47 (f := .exm "BadField" "BadNumber" false) rfl)).trans (show some false = some (decide (("BadField" : Str) = "BadNumber")) from by decide +kernel)
    · exact (He.exm_ok (D.fact 48 (f := .exm "BadField" "BadField" true) rfl)).trans (show some true = some (decide (("BadField" : Str) = "BadField")) from by decide +kernel)
    · exact (He.exm_ok (D.fact 49 (f := .exm "BadField" "NoWay" false) rfl)).trans (show some false = some (decide (("BadField" : Str) = "NoWay")) from by decide +kernel)
    · exact (He.exm_ok (D.fact 50 (f := .exm "BadField" "TooLarge" false) rfl)).trans (show some false = some (decide (("BadField" : Str) = "TooLarge")) from by decide +kernel)
    · exact (He.exm_ok (D.fact 51 (f := .exm "NoWay" "BadNumber" false) rfl)).trans (show some false = some (decide (("NoWay" : Str) = "BadNumber")) from by decide +kernel)
    · exact (He.exm_ok (D.fact 52 (f := .exm "NoWay" "BadField" false) rfl)).trans (show some false = some (decide (("NoWay" : Str) = "BadField")) from by decide +kernel)
    · exact (He.exm_ok (D.fact 53 (f := .exm "NoWay" "NoWay" true) rfl)).trans (show some true = some (decide (("NoWay" : Str) = "NoWay")) from by decide +kernel)
    · exact (He.exm_ok (D.fact 54 (f := .exm "NoWay" "TooLarge" false) rfl)).trans (show some false = some (decide (("NoWay" : Str) = "TooLarge")) from by decide +kernel)
    · exact (He.exm_ok (D.fact 55 (f := .exm "TooLarge" "BadNumber" false) rfl)).trans (show some false = some (decide (("TooLarge" : Str) = "BadNumber")) from by decide +kernel)
    · exact (He.exm_ok (D.fact 56 (f := .exm "TooLarge" "BadField" false) rfl)).trans (show some false = some (decide (("TooLarge" : Str) = "BadField")) from by decide +kernel)
    · exact (He.exm_ok (D.fact 57 (f := .exm "TooLarge" "NoWay" false) rfl)).trans (show some false = some (decide (("TooLarge" : Str) = "NoWay")) from by decide +kernel)
    · exact (He.exm_ok (D.fact 58 (f := .exm "TooLarge" "TooLarge" true) rfl)).trans (show some true = some (decide (("TooLarge" : Str) = "TooLarge")) from by decide +kernel)
  have hfd : d_law.a = fa := by
    have e := d_law.g.symm.trans hfa
    exact Value.ref.inj (Option.some.inj e)
  subst hfd
  refine ⟨d_law.fd, tfN.map (He.cT K), spM (gb K) 1 f_law, fun p hp => ?_, fun p hp => ?_, fun p hp => ?_, fun s u => b_law s [u] rfl, fun H a ns hl hz hT hS => ?_, fun base KB NB TB => ?_⟩
  · obtain ⟨q, hq, rfl⟩ := List.mem_map.mp hp
    exact c.empty q hq
  · obtain ⟨q, hq, rfl⟩ := List.mem_map.mp hp
    exact c.out q hq
  · obtain ⟨q, hq, rfl⟩ := List.mem_map.mp hp
    exact PySem.W.codeHd_of_K X (c.hd q hq)
  · refine law_sp (G := gb K) lawOk hl hz (fun p hp => ?_) hS
    have hp2 : p.1 ∈ (tfN.map (He.cT K)).map (·.2) := by
      have e : (gb K).T.map (·.1) = (tfN.map (He.cT K)).map (·.2) := rfl
      rw [← e]
      exact List.mem_map.mpr ⟨p, hp, rfl⟩
    obtain ⟨q, hq, e⟩ := List.mem_map.mp hp2
    rw [← e]
    exact hT q hq
  · exact ok_law (P := (PySem.Challenge.rw_idealhall_k01_clocks).prog) (w0 := w) (G := gb K) (mg := mg) (base := base) { d__law_told := d__law_told, d__law_dice := d__law_dice, d__law_rounds := d__law_rounds, d__law_roll := d__law_roll, d_shared_ways := d_shared_ways, d_shared := d_shared, d_back := d_back, d_power := d_power, d_passes := d_passes, d_is_prime := d_is_prime, d_some_part := d_some_part, d_parts := d_parts, d_count_apart := d_count_apart, d_turns := d_turns, d_together := d_together, d__law_together := d__law_together, d_raised := d_raised, d_divisors := d_divisors, d_weight := d_weight, d__law_parts := d__law_parts, d_square_sign := d_square_sign, d__law_signs := d__law_signs, d_root_floor := d_root_floor, d_law := d_law, e_BadField := e_BadField, e_BadNumber := e_BadNumber, e_NoWay := e_NoWay, e_TooLarge := e_TooLarge, m_abs := m_abs, m_all := m_all, m_any := m_any, m_int := m_int, m_len := m_len, m_list := m_list, m_max := m_max, m_range := m_range, m_sorted := m_sorted, m_sum := m_sum, m_tuple := m_tuple, t_is_prime := ⟨(He.cT K ("is_prime", none)).2, by rw [c_is_prime]; exact TB (He.cT K ("is_prime", none)) (List.mem_map.mpr ⟨("is_prime", none), List.mem_of_getElem? (i := 0) rfl, rfl⟩), List.mem_of_getElem? (i := 0) rfl, tab_uniq (T := (gb K).T) (i := 0) nd rfl⟩, t__law_together := ⟨(He.cT K ("_law_together", none)).2, by rw [c__law_together]; exact TB (He.cT K ("_law_together", none)) (List.mem_map.mpr ⟨("_law_together", none), List.mem_of_getElem? (i := 1) rfl, rfl⟩), List.mem_of_getElem? (i := 1) rfl, tab_uniq (T := (gb K).T) (i := 1) nd rfl⟩, t_weight := ⟨(He.cT K ("weight", none)).2, by rw [c_weight]; exact TB (He.cT K ("weight", none)) (List.mem_map.mpr ⟨("weight", none), List.mem_of_getElem? (i := 2) rfl, rfl⟩), List.mem_of_getElem? (i := 2) rfl, tab_uniq (T := (gb K).T) (i := 2) nd rfl⟩, t_law := ⟨(He.cT K ("law", none)).2, by rw [c_law]; exact TB (He.cT K ("law", none)) (List.mem_map.mpr ⟨("law", none), List.mem_of_getElem? (i := 3) rfl, rfl⟩), List.mem_of_getElem? (i := 3) rfl, tab_uniq (T := (gb K).T) (i := 3) nd rfl⟩, exm := exm }
theorem holds (lawOk : LawM f_law 63) : PySem.Challenge.rw_idealhall_k01_clocks.Holds := by
  w_on; o_law
  refine HandSHeadRun.head_any (r := PySem.W.OpenLaw.row PySem.Challenge.rw_idealhall_k01_clocks) (q := PySem.W.view (PySem.W.OpenLaw.row PySem.Challenge.rw_idealhall_k01_clocks).prog [31]) (H := hk) (ob := ob) (M := 4000) (loose := looseN) (d := HandSHeadRun.topDef (PySem.W.OpenLaw.row PySem.Challenge.rw_idealhall_k01_clocks).prog 31) (kwd := []) ob_eq
    (by kernel_rfl) (fun s => by kernel_rfl) run (by kernel_rfl) (by kernel_rfl) (by kernel_rfl) (by rfl) (by first | assumption | decide +kernel) (by decide +kernel) ⟨rfl, rfl, rfl, rfl, rfl, by decide +kernel⟩ ?hw ?hc
  case hw => w_witness2
  case hc =>
    refine LamX.walk_ofTsE (l := PySem.Challenge.rw_idealhall_k01_clocks) (n := 63) (k := 13) (x := "script") (CX := fun w => L2.CX (PySem.Challenge.rw_idealhall_k01_clocks).prog w) rfl (by decide) (by kernel_rfl) ⟨rfl, by decide, by decide⟩ ?F (fun _ _ _ _ _ z => cx_no z)
    intro w mg fa h Y G hmg0
    obtain ⟨K, KX, c⟩ := Y
    have hmg : mg ("law" : PySem.Str) = some (.ref fa) := by
      have e : (HandSHeadRun.topDef (PySem.W.OpenLaw.row PySem.Challenge.rw_idealhall_k01_clocks).prog 31).name = ("law" : PySem.Str) := by kernel_rfl
      rw [← e]
      exact hmg0
    exact ⟨K, KX, law_at lawOk KX G hmg c⟩
end K01
set_option Elab.async false
set_option linter.all false
set_option maxRecDepth 100000
set_option maxHeartbeats 2000000
/-! The layer M, part S: reckoning with M-functions. -/
namespace Mx
open PySem
theorem eqM_int {a b : Int} {S : Store} : eqM (.int a) (.int b) S = .ok (.bl (decide (a = b))) S := by
  unfold eqM eqB
  show (match (if SeqAt.shaped (.int a) = true ∧ SeqAt.shaped (.int b) = true then some (PyData.eqv (.int a) (.int b)) else none) with | some k => Out.ok (D.bl k) S | none => .bad) = _
  rw [if_pos ⟨rfl, rfl⟩]
  show Out.ok (D.bl (PyData.eqv (.int a) (.int b))) S = _
  have e : PyData.eqv (.int a) (.int b) = decide (a = b) := by
    first | rfl | (unfold PyData.eqv; simp [Bool.beq_eq_decide_eq])
  rw [e]
theorem neM_int {a b : Int} {S : Store} : neM (.int a) (.int b) S = .ok (.bl (!decide (a = b))) S := by
  have h := eqM_int (a := a) (b := b) (S := S)
  unfold eqM at h
  unfold neM
  cases e : eqB S (.int a) (.int b) with
  | none => rw [e] at h; cases h
  | some k =>
    rw [e] at h
    injection h with h1
    injection h1 with h2
    rw [h2]
theorem addM_int {a b : Int} {S : Store} : addM (.int a) (.int b) S = .ok (.int (a + b)) S := rfl
theorem subM_int {a b : Int} {S : Store} : subM (.int a) (.int b) S = .ok (.int (a - b)) S := rfl
theorem cmpM_int {p : Int → Int → Bool} {a b : Int} {S : Store} : cmpM p (.int a) (.int b) S = .ok (.bl (p a b)) S := rfl
theorem modM_ne {a b : Int} {S : Store} (h : b ≠ 0) : modM (.int a) (.int b) S = .ok (.int (a.fmod b)) S := if_pos h
theorem modM_pos {a b : Int} {S : Store} (h : 0 < b) : modM (.int a) (.int b) S = .ok (.int (a % b)) S := by
  rw [modM_ne (by omega), Int.fmod_eq_emod_of_nonneg a (by omega)]
theorem divM_ne {a b : Int} {S : Store} (h : CDivM b) : divM (.int a) (.int b) S = .ok (.int (a.fdiv b)) S := if_pos h
theorem mulM_int {a b : Int} {S : Store} (h : CMulM a b) : mulM (.int a) (.int b) S = .ok (.int (a * b)) S := if_pos h
theorem log2_lt {a k : Nat} (h : a < 2 ^ k) (hk : 0 < k) : a.log2 < k := by
  by_cases h0 : a = 0
  · rw [h0]; simpa using hk
  · exact (Nat.log2_lt h0).mpr h
theorem cmul {a b : Int} {k l : Nat} (ha : a.natAbs < 2 ^ k) (hb : b.natAbs < 2 ^ l) (hkl : k + l ≤ 100000000) (hk : 0 < k := by decide) (hl : 0 < l := by decide) : CMulM a b := by
  have h1 := log2_lt ha hk
  have h2 := log2_lt hb hl
  unfold CMulM
  omega
theorem cdiv {b : Int} {k : Nat} (h0 : b ≠ 0) (h : b.natAbs < 2 ^ k) (hk : 0 < k := by decide) (hk2 : k ≤ 9000 := by decide) : CDivM b := ⟨h0, by have := log2_lt h hk; omega⟩
theorem LIM0 : (0 ≤ LIM) = True := by simp [LIM]
theorem LIM1 : (1 ≤ LIM) = True := by simp [LIM]
theorem LIM2 : (2 ≤ LIM) = True := by simp [LIM]
theorem LIM3 : (3 ≤ LIM) = True := by simp [LIM]
theorem LIM4 : (4 ≤ LIM) = True := by simp [LIM]
theorem LIM5 : (5 ≤ LIM) = True := by simp [LIM]
theorem LIM6 : (6 ≤ LIM) = True := by simp [LIM]
theorem LIM7 : (7 ≤ LIM) = True := by simp [LIM]
theorem LIM13 : (13 ≤ LIM) = True := by simp [LIM]
theorem fin_same {S : Store} {d : D} : fin S (.ok d S) = .ok d S := by
  unfold fin
  dsimp only
  split
  · rw [List.take_length]
  · rfl
theorem fin_app {S T : Store} {d : D} (h : D.blw S.length d = true) : fin S (.ok d (S ++ T)) = .ok d S := by
  unfold fin
  dsimp only
  have e : (S ++ T).take S.length = S := by rw [List.take_append_of_le_length (Nat.le_refl _), List.take_length]
  rw [if_pos, e]
  rw [Bool.and_eq_true]
  exact ⟨h, by unfold keepB; rw [e]; simp⟩
theorem fin_exc {S T : Store} {c : Str} : fin S (.exc ⟨c, none⟩ (S ++ T)) = .exc ⟨c, none⟩ S := by
  unfold fin
  dsimp only
  have e : (S ++ T).take S.length = S := by rw [List.take_append_of_le_length (Nat.le_refl _), List.take_length]
  rw [if_pos, e]
  rw [Bool.and_eq_true]
  exact ⟨rfl, by unfold keepB; rw [e]; simp⟩
theorem fin_exc0 {S : Store} {c : Str} : fin S (.exc ⟨c, none⟩ S) = .exc ⟨c, none⟩ S := by
  have h := fin_exc (S := S) (T := []) (c := c)
  rwa [List.append_nil] at h
/-! ### while -/
theorem while_end {c : MT} {b : MS} {n : Nat} {ρ : Env'} {S S1 : Store} (h : c ρ S = .ok false S1) : whileN c b (n + 1) ρ S = .next ρ S1 := by
  unfold whileN
  rw [h]
  rfl
theorem while_go {c : MT} {b : MS} {n : Nat} {ρ ρ2 : Env'} {S S1 S2 : Store} (h : c ρ S = .ok true S1) (hb : b ρ S1 = .next ρ2 S2) : whileN c b (n + 1) ρ S = whileN c b n ρ2 S2 := by
  rw [whileN]
  dsimp only
  rw [h]
  show (match b ρ S1 with | .next ρ2 S2 => whileN c b n ρ2 S2 | .cont ρ2 S2 => whileN c b n ρ2 S2 | .brk ρ2 S2 => .next ρ2 S2 | .ret d S2 => .ret d S2 | .exc x ρ2 S2 => .exc x ρ2 S2 | .bad => .bad) = _
  rw [hb]
theorem idivM_pos {a b : Int} {S : Store} (h : CDivM b) (hb : 0 < b) : idivM (.int a) (.int b) S = .ok (.int (a / b)) S := by
  have e : idivM (.int a) (.int b) S = .ok (.int (a.fdiv b)) S := if_pos ⟨h, hb⟩
  rw [e, Int.fdiv_eq_ediv_of_nonneg a (by omega)]
theorem divM_pos {a b : Int} {S : Store} (h : CDivM b) (hb : 0 < b) : divM (.int a) (.int b) S = .ok (.int (a / b)) S := by
  rw [divM_ne h, Int.fdiv_eq_ediv_of_nonneg a (by omega)]
theorem imodM_pos {a b : Int} {S : Store} (hb : 0 < b) : imodM (.int a) (.int b) S = .ok (.int (a % b)) S := if_pos hb
theorem imulM_int {a b : Int} {S : Store} (h : CMulM a b) : imulM (.int a) (.int b) S = .ok (.int (a * b)) S := if_pos h
theorem cdiv2 : CDivM 2 := cdiv (k := 2) (by decide) (by decide)
/-! ### for -/
theorem for_nil {s : Src} {t : Tg} {b : MS} {ρ : Env'} {S : Store} (h : okSrc s S = true) : forL s t b [] ρ S = .next ρ S := if_pos h
theorem for_cons {s : Src} {t : Tg} {b : MS} {x : D} {xs : List D} {ρ ρ1 ρ2 : Env'} {S S2 : Store} (h : okSrc s S = true) (h1 : bindT t x ρ = some ρ1) (h2 : b ρ1 S = .next ρ2 S2) : forL s t b (x :: xs) ρ S = forL s t b xs ρ2 S2 := by
  rw [forL]
  dsimp only
  rw [if_pos h, h1]
  dsimp only
  rw [h2]
theorem for_ret {s : Src} {t : Tg} {b : MS} {x d : D} {xs : List D} {ρ ρ1 : Env'} {S S2 : Store} (h : okSrc s S = true) (h1 : bindT t x ρ = some ρ1) (h2 : b ρ1 S = .ret d S2) : forL s t b (x :: xs) ρ S = .ret d S2 := by
  rw [forL]
  dsimp only
  rw [if_pos h, h1]
  dsimp only
  rw [h2]
theorem for_exc {s : Src} {t : Tg} {b : MS} {x : D} {xs : List D} {y : Exc} {ρ ρ1 ρ2 : Env'} {S S2 : Store} (h : okSrc s S = true) (h1 : bindT t x ρ = some ρ1) (h2 : b ρ1 S = .exc y ρ2 S2) : forL s t b (x :: xs) ρ S = .exc y ρ2 S2 := by
  rw [forL]
  dsimp only
  rw [if_pos h, h1]
  dsimp only
  rw [h2]
/-! ### == of data -/
theorem eqM_pd {S : Store} {x y : D} {a b : PyData} (h1 : pdL S x = some a) (h2 : pdL S y = some b) (h3 : SeqAt.shaped a = true) (h4 : SeqAt.shaped b = true) : eqM x y S = .ok (.bl (PyData.eqv a b)) S := by
  unfold eqM eqB
  rw [h1, h2]
  dsimp only
  rw [if_pos ⟨h3, h4⟩]
theorem neM_pd {S : Store} {x y : D} {a b : PyData} (h1 : pdL S x = some a) (h2 : pdL S y = some b) (h3 : SeqAt.shaped a = true) (h4 : SeqAt.shaped b = true) : neM x y S = .ok (.bl (!PyData.eqv a b)) S := by
  unfold neM eqB
  rw [h1, h2]
  dsimp only
  rw [if_pos ⟨h3, h4⟩]
theorem pds_ints : ∀ ns : List Int, pds (ns.map D.int) = some (ns.map PyData.int)
  | [] => by simp [pds]
  | n :: ns => by
    rw [List.map_cons, List.map_cons]
    simp only [pds, pd, pds_ints ns]
theorem lay_ints : ∀ ns : List Int, PyData.canLayAll0 (ns.map PyData.int) = true
  | [] => by simp [PyData.canLayAll0]
  | n :: ns => by
    rw [List.map_cons]
    simp only [PyData.canLayAll0, PyData.canLay0, lay_ints ns, Bool.and_self]
theorem depth_ints : ∀ ns : List Int, PyData.depthAll (ns.map PyData.int) = 0
  | [] => by simp [PyData.depthAll]
  | n :: ns => by
    rw [List.map_cons]
    simp only [PyData.depthAll, PyData.depth, depth_ints ns, Nat.max_self]
theorem shaped_ints (ns : List Int) : SeqAt.shaped (.list (ns.map PyData.int)) = true := by
  unfold SeqAt.shaped
  simp only [PyData.canLay0, lay_ints, PyData.depth, depth_ints, Bool.true_and, decide_eq_true_eq]
  omega
theorem shaped_tup (ns : List Int) : SeqAt.shaped (.tuple (ns.map PyData.int)) = true := by
  unfold SeqAt.shaped
  simp only [PyData.canLay0, lay_ints, PyData.depth, depth_ints, Bool.true_and, decide_eq_true_eq]
  omega
theorem eqv_ints : ∀ xs ys : List Int, PyData.eqvAll (xs.map PyData.int) (ys.map PyData.int) = decide (xs = ys)
  | [], [] => by simp [PyData.eqvAll]
  | [], y :: ys => by simp [PyData.eqvAll]
  | x :: xs, [] => by simp [PyData.eqvAll]
  | x :: xs, y :: ys => by
    rw [List.map_cons, List.map_cons]
    simp only [PyData.eqvAll, PyData.eqv, eqv_ints xs ys]
    by_cases h : x = y <;> by_cases h2 : xs = ys <;> simp [h, h2]
theorem pdL_lst {S : Store} {i : Nat} {xs : List Int} (h : S[i]? = some (.lst (xs.map .int))) : pdL S (.loc i) = some (.list (xs.map PyData.int)) := by
  unfold pdL
  dsimp only
  rw [h]
  dsimp only
  rw [pds_ints]
theorem eqM_lsts {S : Store} {i j : Nat} {xs ys : List Int} (h1 : S[i]? = some (.lst (xs.map .int))) (h2 : S[j]? = some (.lst (ys.map .int))) : eqM (.loc i) (.loc j) S = .ok (.bl (decide (xs = ys))) S := by
  rw [eqM_pd (pdL_lst h1) (pdL_lst h2) (shaped_ints _) (shaped_ints _)]
  simp only [PyData.eqv, eqv_ints]
theorem neM_lsts {S : Store} {i j : Nat} {xs ys : List Int} (h1 : S[i]? = some (.lst (xs.map .int))) (h2 : S[j]? = some (.lst (ys.map .int))) : neM (.loc i) (.loc j) S = .ok (.bl (!decide (xs = ys))) S := by
  rw [neM_pd (pdL_lst h1) (pdL_lst h2) (shaped_ints _) (shaped_ints _)]
  simp only [PyData.eqv, eqv_ints]
theorem pd_tup {S : Store} (xs : List Int) : pdL S (.tup (xs.map .int)) = some (.tuple (xs.map PyData.int)) := by
  show pd (.tup (xs.map .int)) = _
  unfold pd
  rw [pds_ints]
theorem eqM_tups {S : Store} (xs ys : List Int) : eqM (.tup (xs.map .int)) (.tup (ys.map .int)) S = .ok (.bl (decide (xs = ys))) S := by
  rw [eqM_pd (pd_tup xs) (pd_tup ys) (shaped_tup _) (shaped_tup _)]
  simp only [PyData.eqv, eqv_ints]
theorem neM_tups {S : Store} (xs ys : List Int) : neM (.tup (xs.map .int)) (.tup (ys.map .int)) S = .ok (.bl (!decide (xs = ys))) S := by
  rw [neM_pd (pd_tup xs) (pd_tup ys) (shaped_tup _) (shaped_tup _)]
  simp only [PyData.eqv, eqv_ints]
theorem blws_ints {m : Nat} : ∀ ns : List Int, D.blws m (ns.map .int) = true
  | [] => rfl
  | n :: ns => by
    show (D.blw m (.int n) && D.blws m (ns.map .int)) = true
    rw [blws_ints ns]
    rfl
theorem msFor_ap {mi : MI} {t : Tg} {b : MS} {ρ : Env'} {S : Store} : msFor mi t b ρ S = (mi ρ S).toS ρ fun s S1 => forL s t b s.2 ρ S1 := rfl
theorem msWhile_ap {c : MT} {b : MS} {ρ : Env'} {S : Store} : msWhile c b ρ S = whileN c b FUEL ρ S := rfl
theorem FUEL_eq : FUEL = 1180591620717411303424 := by decide
end Mx
set_option Elab.async false
set_option linter.all false
set_option maxRecDepth 100000
set_option maxHeartbeats 2000000
/-! k01: what the defs answer. -/
namespace K01
open PySem Mx
/-! ### shared -/
abbrev shC : MT := mTest (mBin neM (mV 1) (mC (.int 0)))
abbrev shB : MS := msPar [0, 1] (mCons (mV 1) (mCons (mBin modM (mV 0) (mV 1)) mNil))
theorem fmod_abs {a b : Int} (h : b ≠ 0) : (a.fmod b).natAbs < b.natAbs := by
  have e := Int.fmod_eq_emod (a := a) (b := b)
  have h1 := Int.emod_nonneg a h
  have h2 := Int.emod_lt a h
  rw [e]
  split
  · omega
  · rename_i hh
    have hne : a % b ≠ 0 := fun z => hh (.inr (Int.dvd_of_emod_eq_zero z))
    have hb : b < 0 := by
      rcases Int.lt_or_le b 0 with q | q
      · exact q
      · exact absurd (.inl q) hh
    omega
theorem gcd_fmod (a b : Int) : Int.gcd b (a.fmod b) = Int.gcd a b := by
  rw [Int.fmod_def, Int.gcd_sub_mul_left_right, Int.gcd_comm]
theorem sh_loop (S : Store) : ∀ (n : Nat) (a b : Int) (fuel : Nat), b.natAbs ≤ n → n < fuel → ∃ g : Int, whileN shC shB fuel [some (.int a), some (.int b)] S = .next [some (.int g), some (.int 0)] S ∧ g.natAbs = Int.gcd a b := by
  intro n
  induction n with
  | zero =>
    intro a b fuel hb hf
    have h0 : b = 0 := by omega
    subst h0
    obtain ⟨f, rfl⟩ : ∃ f, fuel = f + 1 := ⟨fuel - 1, by omega⟩
    exact ⟨a, while_end (by simp only [msSeq, OutS.thenS, msAsg, msPar, msIf, msRet, msRetN, msAug, msRaise, msNil, msExpr, msSub, Out.toS, Out.bind, mV, mC, mBin, mTest, mCons, mNil, mTup, mIfE, mNeg, mCB, mCall, mChain, mAnd, mOr, mNot, bindT, setAll, startM, OutS.end_, List.getElem?_cons_zero, List.getElem?_cons_succ, List.set_cons_zero, List.set_cons_succ, List.map_cons, List.map_nil, List.length_cons, List.length_nil, List.replicate, List.append_nil, List.nil_append, List.cons_append, if_true, if_false, eqM_int, neM_int, addM_int, subM_int, modM_pos, cmpM_int, Nat.zero_add, Nat.reduceAdd, Nat.reduceSub, LIM0, LIM1, LIM2, LIM3, LIM4, LIM5]; rfl), by simp⟩
  | succ n ih =>
    intro a b fuel hb hf
    obtain ⟨f, rfl⟩ : ∃ f, fuel = f + 1 := ⟨fuel - 1, by omega⟩
    by_cases h0 : b = 0
    · subst h0
      exact ⟨a, while_end (by simp only [msSeq, OutS.thenS, msAsg, msPar, msIf, msRet, msRetN, msAug, msRaise, msNil, msExpr, msSub, Out.toS, Out.bind, mV, mC, mBin, mTest, mCons, mNil, mTup, mIfE, mNeg, mCB, mCall, mChain, mAnd, mOr, mNot, bindT, setAll, startM, OutS.end_, List.getElem?_cons_zero, List.getElem?_cons_succ, List.set_cons_zero, List.set_cons_succ, List.map_cons, List.map_nil, List.length_cons, List.length_nil, List.replicate, List.append_nil, List.nil_append, List.cons_append, if_true, if_false, eqM_int, neM_int, addM_int, subM_int, modM_pos, cmpM_int, Nat.zero_add, Nat.reduceAdd, Nat.reduceSub, LIM0, LIM1, LIM2, LIM3, LIM4, LIM5]; rfl), by simp⟩
    · obtain ⟨g, h1, h2⟩ := ih b (a.fmod b) f (by have := fmod_abs (a := a) h0; omega) (by omega)
      refine ⟨g, ?_, by rw [h2, gcd_fmod]⟩
      rw [← h1]
      refine while_go (S1 := S) ?_ ?_
      · simp only [msSeq, OutS.thenS, msAsg, msPar, msIf, msRet, msRetN, msAug, msRaise, msNil, msExpr, msSub, Out.toS, Out.bind, mV, mC, mBin, mTest, mCons, mNil, mTup, mIfE, mNeg, mCB, mCall, mChain, mAnd, mOr, mNot, bindT, setAll, startM, OutS.end_, List.getElem?_cons_zero, List.getElem?_cons_succ, List.set_cons_zero, List.set_cons_succ, List.map_cons, List.map_nil, List.length_cons, List.length_nil, List.replicate, List.append_nil, List.nil_append, List.cons_append, if_true, if_false, eqM_int, neM_int, addM_int, subM_int, modM_pos, cmpM_int, Nat.zero_add, Nat.reduceAdd, Nat.reduceSub, LIM0, LIM1, LIM2, LIM3, LIM4, LIM5, h0, decide_false, Bool.not_false]
      · simp only [msSeq, OutS.thenS, msAsg, msPar, msIf, msRet, msRetN, msAug, msRaise, msNil, msExpr, msSub, Out.toS, Out.bind, mV, mC, mBin, mTest, mCons, mNil, mTup, mIfE, mNeg, mCB, mCall, mChain, mAnd, mOr, mNot, bindT, setAll, startM, OutS.end_, List.getElem?_cons_zero, List.getElem?_cons_succ, List.set_cons_zero, List.set_cons_succ, List.map_cons, List.map_nil, List.length_cons, List.length_nil, List.replicate, List.append_nil, List.nil_append, List.cons_append, if_true, if_false, eqM_int, neM_int, addM_int, subM_int, modM_pos, cmpM_int, Nat.zero_add, Nat.reduceAdd, Nat.reduceSub, LIM0, LIM1, LIM2, LIM3, LIM4, LIM5, modM_ne h0]
theorem shared_eq {a b : Int} {S : Store} (hb : b.natAbs < 2 ^ 60) : f_shared [.int a, .int b] S = .ok (.int (Int.gcd a b)) S := by
  obtain ⟨g, h1, h2⟩ := sh_loop S b.natAbs a b FUEL (Nat.le_refl _) (by rw [FUEL_eq]; omega)
  have h : m_shared (startM 2 [.int a, .int b]) S = .ret (.int (Int.gcd a b)) S := by
    unfold m_shared msWhile
    simp only [msSeq, OutS.thenS, msAsg, msPar, msIf, msRet, msRetN, msAug, msRaise, msNil, msExpr, msSub, Out.toS, Out.bind, mV, mC, mBin, mTest, mCons, mNil, mTup, mIfE, mNeg, mCB, mCall, mChain, mAnd, mOr, mNot, bindT, setAll, startM, OutS.end_, List.getElem?_cons_zero, List.getElem?_cons_succ, List.set_cons_zero, List.set_cons_succ, List.map_cons, List.map_nil, List.length_cons, List.length_nil, List.replicate, List.append_nil, List.nil_append, List.cons_append, if_true, if_false, eqM_int, neM_int, addM_int, subM_int, modM_pos, cmpM_int, Nat.zero_add, Nat.reduceAdd, Nat.reduceSub, LIM0, LIM1, LIM2, LIM3, LIM4, LIM5]
    rw [h1]
    simp only [msSeq, OutS.thenS, msAsg, msPar, msIf, msRet, msRetN, msAug, msRaise, msNil, msExpr, msSub, Out.toS, Out.bind, mV, mC, mBin, mTest, mCons, mNil, mTup, mIfE, mNeg, mCB, mCall, mChain, mAnd, mOr, mNot, bindT, setAll, startM, OutS.end_, List.getElem?_cons_zero, List.getElem?_cons_succ, List.set_cons_zero, List.set_cons_succ, List.map_cons, List.map_nil, List.length_cons, List.length_nil, List.replicate, List.append_nil, List.nil_append, List.cons_append, if_true, if_false, eqM_int, neM_int, addM_int, subM_int, modM_pos, cmpM_int, Nat.zero_add, Nat.reduceAdd, Nat.reduceSub, LIM0, LIM1, LIM2, LIM3, LIM4, LIM5, absM]
    congr 2
    rw [← h2]
    split <;> omega
  unfold f_shared fnM
  rw [h]
  exact fin_same
end K01
set_option Elab.async false
set_option linter.all false
set_option maxRecDepth 100000
set_option maxHeartbeats 2000000
/-! k01: shared_ways, back. -/
namespace K01
open PySem Mx
abbrev swB : MS := msSeq (msAsg (.one 6) (mBin divM (mV 0) (mV 1)))
  (msSeq (msPar [0, 1] (mCons (mV 1) (mCons (mBin subM (mV 0) (mBin mulM (mV 6) (mV 1))) mNil)))
  (msSeq (msPar [2, 4] (mCons (mV 4) (mCons (mBin subM (mV 2) (mBin mulM (mV 6) (mV 4))) mNil)))
  (msPar [3, 5] (mCons (mV 5) (mCons (mBin subM (mV 3) (mBin mulM (mV 6) (mV 5))) mNil)))))
theorem fdiv_abs {a b : Int} : (a.fdiv b).natAbs ≤ a.natAbs + 1 := by
  have h := Int.natAbs_ediv_le_natAbs a b
  rw [Int.fdiv_eq_ediv]
  split <;> omega
def pB (i : Nat) : Nat := 2 ^ (14 * i + 1)
theorem pB_succ (i : Nat) : pB (i + 1) = 16384 * pB i := by
  unfold pB
  rw [show 14 * (i + 1) + 1 = 14 + (14 * i + 1) by omega, Nat.pow_add]
theorem coef {x k u : Int} {i : Nat} (hx : x.natAbs < pB i) (hu : u.natAbs < pB i) (hk : k.natAbs ≤ 4096) : (x - k * u).natAbs < pB (i + 1) := by
  have h1 := Int.natAbs_sub_le x (k * u)
  rw [Int.natAbs_mul] at h1
  have h2 : k.natAbs * u.natAbs ≤ 4096 * pB i := Nat.mul_le_mul hk (Nat.le_of_lt hu)
  rw [pB_succ]
  omega
theorem sw_loop (S : Store) (A B : Int) : ∀ (n i : Nat) (a b x y u v : Int) (z : Option Mx.D) (fuel : Nat), b.natAbs ≤ n → n < fuel → i + n ≤ 100000 → a.natAbs < 4096 → b.natAbs < 4096 →
    x.natAbs < pB i → y.natAbs < pB i → u.natAbs < pB i → v.natAbs < pB i → A * x + B * y = a → A * u + B * v = b →
    ∃ (g x' y' u' v' : Int) (z' : Option Mx.D), whileN shC swB fuel [some (.int a), some (.int b), some (.int x), some (.int y), some (.int u), some (.int v), z] S = .next [some (.int g), some (.int 0), some (.int x'), some (.int y'), some (.int u'), some (.int v'), z'] S ∧
      g.natAbs = Int.gcd a b ∧ A * x' + B * y' = g ∧ x'.natAbs < pB (i + n) ∧ y'.natAbs < pB (i + n) := by
  have step0 : ∀ (a x y u v : Int) (z : Option Mx.D) (f : Nat), whileN shC swB (f + 1) [some (.int a), some (.int 0), some (.int x), some (.int y), some (.int u), some (.int v), z] S = .next [some (.int a), some (.int 0), some (.int x), some (.int y), some (.int u), some (.int v), z] S := fun a x y u v z f => while_end (by simp only [msSeq, OutS.thenS, msAsg, msPar, msIf, msRet, msRetN, msAug, msRaise, msNil, msExpr, msSub, Out.toS, Out.bind, mV, mC, mBin, mTest, mCons, mNil, mTup, mIfE, mNeg, mCB, mCall, mChain, mAnd, mOr, mNot, bindT, setAll, startM, OutS.end_, List.getElem?_cons_zero, List.getElem?_cons_succ, List.set_cons_zero, List.set_cons_succ, List.map_cons, List.map_nil, List.length_cons, List.length_nil, List.replicate, List.append_nil, List.nil_append, List.cons_append, if_true, if_false, eqM_int, neM_int, addM_int, subM_int, modM_pos, cmpM_int, Nat.zero_add, Nat.reduceAdd, Nat.reduceSub, LIM0, LIM1, LIM2, LIM3, LIM4, LIM5]; rfl)
  intro n
  induction n with
  | zero =>
    intro i a b x y u v z fuel hb hf hin ha hb4 hx hy hu hv e1 e2
    have h0 : b = 0 := by omega
    subst h0
    obtain ⟨f, rfl⟩ : ∃ f, fuel = f + 1 := ⟨fuel - 1, by omega⟩
    exact ⟨a, x, y, u, v, z, step0 .., by simp, e1, hx, hy⟩
  | succ n ih =>
    intro i a b x y u v z fuel hb hf hin ha hb4 hx hy hu hv e1 e2
    obtain ⟨f, rfl⟩ : ∃ f, fuel = f + 1 := ⟨fuel - 1, by omega⟩
    have mono : pB i ≤ pB (i + (n + 1)) := Nat.pow_le_pow_right (by decide) (by omega)
    by_cases h0 : b = 0
    · subst h0
      exact ⟨a, x, y, u, v, z, step0 .., by simp, e1, Nat.lt_of_lt_of_le hx mono, Nat.lt_of_lt_of_le hy mono⟩
    · have hk : (a.fdiv b).natAbs ≤ 4096 := by have := fdiv_abs (a := a) (b := b); omega
      have hmod : a - a.fdiv b * b = a.fmod b := by rw [Int.fmod_def, Int.mul_comm]
      have hlt := fmod_abs (a := a) h0
      have up : ∀ {t : Int}, t.natAbs < pB i → t.natAbs < pB (i + 1) := fun h => Nat.lt_of_lt_of_le h (by rw [pB_succ]; omega)
      obtain ⟨g, x', y', u', v', z', h1, h2, h3, h4, h5⟩ := ih (i + 1) b (a.fmod b) u v (x - a.fdiv b * u) (y - a.fdiv b * v) (some (.int (a.fdiv b))) f (by omega) (by omega) (by omega) hb4 (by omega) (up hu) (up hv) (coef hx hu hk) (coef hy hv hk) e2 (by
        rw [← hmod, ← e1, ← e2]
        grind)
      have ei : i + 1 + n = i + (n + 1) := by omega
      rw [ei] at h4 h5
      refine ⟨g, x', y', u', v', z', ?_, by rw [h2, gcd_fmod], h3, h4, h5⟩
      rw [← h1]
      have c1 : CDivM b := cdiv (k := 12) h0 hb4
      have k13 : (a.fdiv b).natAbs < 2 ^ 13 := by omega
      have c2 : CMulM (a.fdiv b) b := cmul (k := 13) (l := 12) k13 hb4 (by decide)
      have c3 : CMulM (a.fdiv b) u := cmul (k := 13) (l := 14 * i + 1) k13 hu (by omega) (by decide) (by omega)
      have c4 : CMulM (a.fdiv b) v := cmul (k := 13) (l := 14 * i + 1) k13 hv (by omega) (by decide) (by omega)
      refine while_go (S1 := S) ?_ ?_
      · simp only [msSeq, OutS.thenS, msAsg, msPar, msIf, msRet, msRetN, msAug, msRaise, msNil, msExpr, msSub, Out.toS, Out.bind, mV, mC, mBin, mTest, mCons, mNil, mTup, mIfE, mNeg, mCB, mCall, mChain, mAnd, mOr, mNot, bindT, setAll, startM, OutS.end_, List.getElem?_cons_zero, List.getElem?_cons_succ, List.set_cons_zero, List.set_cons_succ, List.map_cons, List.map_nil, List.length_cons, List.length_nil, List.replicate, List.append_nil, List.nil_append, List.cons_append, if_true, if_false, eqM_int, neM_int, addM_int, subM_int, modM_pos, cmpM_int, Nat.zero_add, Nat.reduceAdd, Nat.reduceSub, LIM0, LIM1, LIM2, LIM3, LIM4, LIM5, h0, decide_false, Bool.not_false]
      · simp only [msSeq, OutS.thenS, msAsg, msPar, msIf, msRet, msRetN, msAug, msRaise, msNil, msExpr, msSub, Out.toS, Out.bind, mV, mC, mBin, mTest, mCons, mNil, mTup, mIfE, mNeg, mCB, mCall, mChain, mAnd, mOr, mNot, bindT, setAll, startM, OutS.end_, List.getElem?_cons_zero, List.getElem?_cons_succ, List.set_cons_zero, List.set_cons_succ, List.map_cons, List.map_nil, List.length_cons, List.length_nil, List.replicate, List.append_nil, List.nil_append, List.cons_append, if_true, if_false, eqM_int, neM_int, addM_int, subM_int, modM_pos, cmpM_int, Nat.zero_add, Nat.reduceAdd, Nat.reduceSub, LIM0, LIM1, LIM2, LIM3, LIM4, LIM5, divM_ne c1, mulM_int c2, mulM_int c3, mulM_int c4, hmod]
theorem shared_ways_eq {a b : Int} {S : Store} (ha : a.natAbs < 4096) (hb : b.natAbs < 4096) : ∃ x y : Int, f_shared_ways [.int a, .int b] S = .ok (.tup [.int (Int.gcd a b), .int x, .int y]) S ∧ a * x + b * y = Int.gcd a b ∧ x.natAbs < 2 ^ 60000 ∧ y.natAbs < 2 ^ 60000 := by
  obtain ⟨g, x', y', u', v', z', h1, h2, h3, h4, h5⟩ := sw_loop S a b b.natAbs 0 a b 1 0 0 1 none FUEL (Nat.le_refl _) (by rw [FUEL_eq]; omega) (by omega) ha hb (by decide) (by decide) (by decide) (by decide) (by omega) (by omega)
  have big : pB (0 + b.natAbs) ≤ 2 ^ 60000 := Nat.pow_le_pow_right (by decide) (by omega)
  have h : ∀ T, m_shared_ways (startM 7 [.int a, .int b]) S = T ↔ OutS.ret (if 0 ≤ g then .tup [.int g, .int x', .int y'] else .tup [.int (-g), .int (-x'), .int (-y')]) S = T := by
    intro T
    unfold m_shared_ways msWhile
    simp only [msSeq, OutS.thenS, msAsg, msPar, msIf, msRet, msRetN, msAug, msRaise, msNil, msExpr, msSub, Out.toS, Out.bind, mV, mC, mBin, mTest, mCons, mNil, mTup, mIfE, mNeg, mCB, mCall, mChain, mAnd, mOr, mNot, bindT, setAll, startM, OutS.end_, List.getElem?_cons_zero, List.getElem?_cons_succ, List.set_cons_zero, List.set_cons_succ, List.map_cons, List.map_nil, List.length_cons, List.length_nil, List.replicate, List.append_nil, List.nil_append, List.cons_append, if_true, if_false, eqM_int, neM_int, addM_int, subM_int, modM_pos, cmpM_int, Nat.zero_add, Nat.reduceAdd, Nat.reduceSub, LIM0, LIM1, LIM2, LIM3, LIM4, LIM5]
    rw [h1]
    simp only [msSeq, OutS.thenS, msAsg, msPar, msIf, msRet, msRetN, msAug, msRaise, msNil, msExpr, msSub, Out.toS, Out.bind, mV, mC, mBin, mTest, mCons, mNil, mTup, mIfE, mNeg, mCB, mCall, mChain, mAnd, mOr, mNot, bindT, setAll, startM, OutS.end_, List.getElem?_cons_zero, List.getElem?_cons_succ, List.set_cons_zero, List.set_cons_succ, List.map_cons, List.map_nil, List.length_cons, List.length_nil, List.replicate, List.append_nil, List.nil_append, List.cons_append, if_true, if_false, eqM_int, neM_int, addM_int, subM_int, modM_pos, cmpM_int, Nat.zero_add, Nat.reduceAdd, Nat.reduceSub, LIM0, LIM1, LIM2, LIM3, LIM4, LIM5]
    by_cases hg : 0 ≤ g
    · simp only [msSeq, OutS.thenS, msAsg, msPar, msIf, msRet, msRetN, msAug, msRaise, msNil, msExpr, msSub, Out.toS, Out.bind, mV, mC, mBin, mTest, mCons, mNil, mTup, mIfE, mNeg, mCB, mCall, mChain, mAnd, mOr, mNot, bindT, setAll, startM, OutS.end_, List.getElem?_cons_zero, List.getElem?_cons_succ, List.set_cons_zero, List.set_cons_succ, List.map_cons, List.map_nil, List.length_cons, List.length_nil, List.replicate, List.append_nil, List.nil_append, List.cons_append, if_true, if_false, eqM_int, neM_int, addM_int, subM_int, modM_pos, cmpM_int, Nat.zero_add, Nat.reduceAdd, Nat.reduceSub, LIM0, LIM1, LIM2, LIM3, LIM4, LIM5, hg, decide_true]
    · simp only [msSeq, OutS.thenS, msAsg, msPar, msIf, msRet, msRetN, msAug, msRaise, msNil, msExpr, msSub, Out.toS, Out.bind, mV, mC, mBin, mTest, mCons, mNil, mTup, mIfE, mNeg, mCB, mCall, mChain, mAnd, mOr, mNot, bindT, setAll, startM, OutS.end_, List.getElem?_cons_zero, List.getElem?_cons_succ, List.set_cons_zero, List.set_cons_succ, List.map_cons, List.map_nil, List.length_cons, List.length_nil, List.replicate, List.append_nil, List.nil_append, List.cons_append, if_true, if_false, eqM_int, neM_int, addM_int, subM_int, modM_pos, cmpM_int, Nat.zero_add, Nat.reduceAdd, Nat.reduceSub, LIM0, LIM1, LIM2, LIM3, LIM4, LIM5, hg, decide_false]
  have h' := (h _).mpr rfl
  by_cases hg : 0 ≤ g
  · refine ⟨x', y', ?_, ?_, Nat.lt_of_lt_of_le h4 big, Nat.lt_of_lt_of_le h5 big⟩
    · unfold f_shared_ways fnM
      rw [h', if_pos hg, show g = (Int.gcd a b : Int) by omega]
      exact fin_same
    · omega
  · refine ⟨-x', -y', ?_, ?_, by rw [Int.natAbs_neg]; exact Nat.lt_of_lt_of_le h4 big, by rw [Int.natAbs_neg]; exact Nat.lt_of_lt_of_le h5 big⟩
    · unfold f_shared_ways fnM
      rw [h', if_neg hg, show -g = (Int.gcd a b : Int) by omega]
      exact fin_same
    · rw [Int.mul_neg, Int.mul_neg]
      omega
end K01
set_option Elab.async false
set_option linter.all false
set_option maxRecDepth 100000
set_option maxHeartbeats 2000000
/-! k01: back, power, raised, root_floor. -/
namespace K01
open PySem Mx
theorem gcd_emod (a n : Int) : Int.gcd (a % n) n = Int.gcd a n := by
  rw [Int.emod_def, Int.gcd_sub_mul_left_left]
theorem back_ok {a n : Int} {S : Store} (h0 : 0 < n) (h1 : n < 4096) (hg : Int.gcd a n = 1) : ∃ r : Int, f_back [.int a, .int n] S = .ok (.int r) S ∧ 0 ≤ r ∧ r < n ∧ a * r % n = 1 % n := by
  have b1 := Int.emod_nonneg a (show n ≠ 0 by omega)
  have b2 := Int.emod_lt_of_pos a h0
  obtain ⟨x, y, e, hxy, _, _⟩ := shared_ways_eq (a := a % n) (b := n) (S := S) (by omega) (by omega)
  have hg' : (Int.gcd a n : Int) = 1 := by omega
  rw [gcd_emod, hg'] at e hxy
  refine ⟨x % n, ?_, Int.emod_nonneg x (by omega), Int.emod_lt_of_pos x h0, ?_⟩
  · have h : m_back (startM 5 [.int a, .int n]) S = .ret (.int (x % n)) S := by
      unfold m_back
      simp only [msSeq, OutS.thenS, msAsg, msPar, msIf, msRet, msRetN, msAug, msRaise, msNil, msExpr, msSub, Out.toS, Out.bind, mV, mC, mBin, mTest, mCons, mNil, mTup, mIfE, mNeg, mCB, mCall, mChain, mAnd, mOr, mNot, bindT, setAll, startM, OutS.end_, List.getElem?_cons_zero, List.getElem?_cons_succ, List.set_cons_zero, List.set_cons_succ, List.map_cons, List.map_nil, List.length_cons, List.length_nil, List.replicate, List.append_nil, List.nil_append, List.cons_append, if_true, if_false, eqM_int, neM_int, addM_int, subM_int, modM_pos, cmpM_int, Nat.zero_add, Nat.reduceAdd, Nat.reduceSub, LIM0, LIM1, LIM2, LIM3, LIM4, LIM5, modM_pos h0, e, decide_true, Bool.not_true]
    unfold f_back fnM
    rw [h]
    exact fin_same
  · have e2 : a * (x % n) % n = (a % n) * x % n := by rw [Int.mul_emod, Int.emod_emod, ← Int.mul_emod]; rw [Int.mul_emod (a % n), Int.emod_emod, ← Int.mul_emod]
    rw [e2, show a % n * x = 1 - n * y by omega, Int.sub_mul_emod_self_left]
theorem back_no {a n : Int} {S : Store} (h0 : 0 < n) (h1 : n < 4096) (hg : Int.gcd a n ≠ 1) : f_back [.int a, .int n] S = .exc ⟨"NoWay", none⟩ S := by
  have b1 := Int.emod_nonneg a (show n ≠ 0 by omega)
  have b2 := Int.emod_lt_of_pos a h0
  obtain ⟨x, y, e, hxy, _, _⟩ := shared_ways_eq (a := a % n) (b := n) (S := S) (by omega) (by omega)
  rw [gcd_emod] at e
  have hne : ¬ ((Int.gcd a n : Int) = 1) := fun z => hg (by omega)
  have h : ∃ ρ, m_back (startM 5 [.int a, .int n]) S = .exc ⟨"NoWay", none⟩ ρ S := by
    unfold m_back
    simp only [msSeq, OutS.thenS, msAsg, msPar, msIf, msRet, msRetN, msAug, msRaise, msNil, msExpr, msSub, Out.toS, Out.bind, mV, mC, mBin, mTest, mCons, mNil, mTup, mIfE, mNeg, mCB, mCall, mChain, mAnd, mOr, mNot, bindT, setAll, startM, OutS.end_, List.getElem?_cons_zero, List.getElem?_cons_succ, List.set_cons_zero, List.set_cons_succ, List.map_cons, List.map_nil, List.length_cons, List.length_nil, List.replicate, List.append_nil, List.nil_append, List.cons_append, if_true, if_false, eqM_int, neM_int, addM_int, subM_int, modM_pos, cmpM_int, Nat.zero_add, Nat.reduceAdd, Nat.reduceSub, LIM0, LIM1, LIM2, LIM3, LIM4, LIM5, modM_pos h0, e, hne, decide_false, Bool.not_false]
    exact ⟨_, rfl⟩
  obtain ⟨ρ, h⟩ := h
  unfold f_back fnM
  rw [h]
  exact fin_exc0
/-! ### power -/
theorem emod_pow (a n : Int) : ∀ k : Nat, (a % n) ^ k % n = a ^ k % n
  | 0 => by simp
  | k + 1 => by rw [Int.pow_succ, Int.pow_succ, Int.mul_emod, emod_pow a n k, Int.emod_emod, ← Int.mul_emod]
theorem sq2 (a : Int) : a ^ 2 = a * a := by rw [Int.pow_succ, Int.pow_succ, Int.pow_zero, Int.one_mul]
theorem mul_emod_pow (f a n : Int) (k : Nat) : f * (a % n) ^ k % n = f * a ^ k % n := by rw [Int.mul_emod, emod_pow, ← Int.mul_emod]
theorem emod_mul_pow (f a n : Int) (k : Nat) : f % n * a ^ k % n = f * a ^ k % n := by rw [Int.mul_emod, Int.emod_emod, ← Int.mul_emod]
abbrev pwC : MT := mTest (mBin gtM (mV 1) (mC (.int 0)))
abbrev pwB : MS := msSeq (msIf (mTest (mBin eqM (mBin modM (mV 1) (mC (.int 2))) (mC (.int 1)))) (msAsg (.one 3) (mBin modM (mBin mulM (mV 3) (mV 0)) (mV 2))) msNil)
  (msSeq (msAsg (.one 0) (mBin modM (mBin mulM (mV 0) (mV 0)) (mV 2)))
  (msAug 1 idivM (mC (.int 2))))
theorem pw_loop (S : Store) (n : Int) (h0 : 0 < n) (h1 : n < 4096) : ∀ (j : Nat) (a m f : Int) (fuel : Nat), m.toNat ≤ j → 0 ≤ m → j < fuel → 0 ≤ a → a < n → 0 ≤ f → f < n →
    ∃ a' : Int, whileN pwC pwB fuel [some (.int a), some (.int m), some (.int n), some (.int f)] S = .next [some (.int a'), some (.int 0), some (.int n), some (.int (f * a ^ m.toNat % n))] S := by
  intro j
  induction j with
  | zero =>
    intro a m f fuel hj hm hf ha1 ha2 hf1 hf2
    have h0 : m = 0 := by omega
    subst h0
    obtain ⟨g, rfl⟩ : ∃ g, fuel = g + 1 := ⟨fuel - 1, by omega⟩
    refine ⟨a, ?_⟩
    rw [show f * a ^ (0 : Int).toNat % n = f by simp; exact Int.emod_eq_of_lt hf1 hf2]
    exact while_end (by simp only [msSeq, OutS.thenS, msAsg, msPar, msIf, msRet, msRetN, msAug, msRaise, msNil, msExpr, msSub, Out.toS, Out.bind, mV, mC, mBin, mTest, mCons, mNil, mTup, mIfE, mNeg, mCB, mCall, mChain, mAnd, mOr, mNot, bindT, setAll, startM, OutS.end_, List.getElem?_cons_zero, List.getElem?_cons_succ, List.set_cons_zero, List.set_cons_succ, List.map_cons, List.map_nil, List.length_cons, List.length_nil, List.replicate, List.append_nil, List.nil_append, List.cons_append, if_true, if_false, eqM_int, neM_int, addM_int, subM_int, modM_pos, cmpM_int, Nat.zero_add, Nat.reduceAdd, Nat.reduceSub, LIM0, LIM1, LIM2, LIM3, LIM4, LIM5]; rfl)
  | succ j ih =>
    intro a m f fuel hj hm hf ha1 ha2 hf1 hf2
    obtain ⟨g, rfl⟩ : ∃ g, fuel = g + 1 := ⟨fuel - 1, by omega⟩
    by_cases hz : m = 0
    · subst hz
      refine ⟨a, ?_⟩
      rw [show f * a ^ (0 : Int).toNat % n = f by simp; exact Int.emod_eq_of_lt hf1 hf2]
      exact while_end (by simp only [msSeq, OutS.thenS, msAsg, msPar, msIf, msRet, msRetN, msAug, msRaise, msNil, msExpr, msSub, Out.toS, Out.bind, mV, mC, mBin, mTest, mCons, mNil, mTup, mIfE, mNeg, mCB, mCall, mChain, mAnd, mOr, mNot, bindT, setAll, startM, OutS.end_, List.getElem?_cons_zero, List.getElem?_cons_succ, List.set_cons_zero, List.set_cons_succ, List.map_cons, List.map_nil, List.length_cons, List.length_nil, List.replicate, List.append_nil, List.nil_append, List.cons_append, if_true, if_false, eqM_int, neM_int, addM_int, subM_int, modM_pos, cmpM_int, Nat.zero_add, Nat.reduceAdd, Nat.reduceSub, LIM0, LIM1, LIM2, LIM3, LIM4, LIM5]; rfl)
    · have hpos : 0 < m := by omega
      have c1 : CMulM f a := cmul (k := 12) (l := 12) (by omega) (by omega) (by decide)
      have c2 : CMulM a a := cmul (k := 12) (l := 12) (by omega) (by omega) (by decide)
      have hn : n ≠ 0 := by omega
      have ha' := Int.emod_nonneg (a * a) hn
      have ha'' := Int.emod_lt_of_pos (a * a) h0
      by_cases hp : m % 2 = 1
      · obtain ⟨a', e⟩ := ih (a * a % n) (m / 2) (f * a % n) g (by omega) (by omega) (by omega) ha' ha'' (Int.emod_nonneg _ hn) (Int.emod_lt_of_pos _ h0)
        refine ⟨a', ?_⟩
        have ee : f * a % n * (a * a % n) ^ (m / 2).toNat % n = f * a ^ m.toNat % n := by
          have q : m.toNat = 2 * (m / 2).toNat + 1 := by omega
          rw [mul_emod_pow, emod_mul_pow, q, Int.pow_succ, Int.pow_mul, sq2]
          congr 1
          grind
        rw [ee] at e
        rw [← e]
        refine while_go (S1 := S) ?_ ?_
        · simp only [msSeq, OutS.thenS, msAsg, msPar, msIf, msRet, msRetN, msAug, msRaise, msNil, msExpr, msSub, Out.toS, Out.bind, mV, mC, mBin, mTest, mCons, mNil, mTup, mIfE, mNeg, mCB, mCall, mChain, mAnd, mOr, mNot, bindT, setAll, startM, OutS.end_, List.getElem?_cons_zero, List.getElem?_cons_succ, List.set_cons_zero, List.set_cons_succ, List.map_cons, List.map_nil, List.length_cons, List.length_nil, List.replicate, List.append_nil, List.nil_append, List.cons_append, if_true, if_false, eqM_int, neM_int, addM_int, subM_int, modM_pos, cmpM_int, Nat.zero_add, Nat.reduceAdd, Nat.reduceSub, LIM0, LIM1, LIM2, LIM3, LIM4, LIM5, hpos, decide_true]
        · simp only [msSeq, OutS.thenS, msAsg, msPar, msIf, msRet, msRetN, msAug, msRaise, msNil, msExpr, msSub, Out.toS, Out.bind, mV, mC, mBin, mTest, mCons, mNil, mTup, mIfE, mNeg, mCB, mCall, mChain, mAnd, mOr, mNot, bindT, setAll, startM, OutS.end_, List.getElem?_cons_zero, List.getElem?_cons_succ, List.set_cons_zero, List.set_cons_succ, List.map_cons, List.map_nil, List.length_cons, List.length_nil, List.replicate, List.append_nil, List.nil_append, List.cons_append, if_true, if_false, eqM_int, neM_int, addM_int, subM_int, modM_pos, cmpM_int, Nat.zero_add, Nat.reduceAdd, Nat.reduceSub, LIM0, LIM1, LIM2, LIM3, LIM4, LIM5, modM_pos h0, modM_pos (show (0 : Int) < 2 by decide), hp, decide_true, mulM_int c1, mulM_int c2, idivM_pos cdiv2 (show (0 : Int) < 2 by decide)]
      · obtain ⟨a', e⟩ := ih (a * a % n) (m / 2) f g (by omega) (by omega) (by omega) ha' ha'' hf1 hf2
        refine ⟨a', ?_⟩
        have ee : f * (a * a % n) ^ (m / 2).toNat % n = f * a ^ m.toNat % n := by
          have q : m.toNat = 2 * (m / 2).toNat := by omega
          rw [mul_emod_pow, q, Int.pow_mul, sq2]
        rw [ee] at e
        rw [← e]
        refine while_go (S1 := S) ?_ ?_
        · simp only [msSeq, OutS.thenS, msAsg, msPar, msIf, msRet, msRetN, msAug, msRaise, msNil, msExpr, msSub, Out.toS, Out.bind, mV, mC, mBin, mTest, mCons, mNil, mTup, mIfE, mNeg, mCB, mCall, mChain, mAnd, mOr, mNot, bindT, setAll, startM, OutS.end_, List.getElem?_cons_zero, List.getElem?_cons_succ, List.set_cons_zero, List.set_cons_succ, List.map_cons, List.map_nil, List.length_cons, List.length_nil, List.replicate, List.append_nil, List.nil_append, List.cons_append, if_true, if_false, eqM_int, neM_int, addM_int, subM_int, modM_pos, cmpM_int, Nat.zero_add, Nat.reduceAdd, Nat.reduceSub, LIM0, LIM1, LIM2, LIM3, LIM4, LIM5, hpos, decide_true]
        · simp only [msSeq, OutS.thenS, msAsg, msPar, msIf, msRet, msRetN, msAug, msRaise, msNil, msExpr, msSub, Out.toS, Out.bind, mV, mC, mBin, mTest, mCons, mNil, mTup, mIfE, mNeg, mCB, mCall, mChain, mAnd, mOr, mNot, bindT, setAll, startM, OutS.end_, List.getElem?_cons_zero, List.getElem?_cons_succ, List.set_cons_zero, List.set_cons_succ, List.map_cons, List.map_nil, List.length_cons, List.length_nil, List.replicate, List.append_nil, List.nil_append, List.cons_append, if_true, if_false, eqM_int, neM_int, addM_int, subM_int, modM_pos, cmpM_int, Nat.zero_add, Nat.reduceAdd, Nat.reduceSub, LIM0, LIM1, LIM2, LIM3, LIM4, LIM5, modM_pos h0, modM_pos (show (0 : Int) < 2 by decide), hp, decide_false, mulM_int c1, mulM_int c2, idivM_pos cdiv2 (show (0 : Int) < 2 by decide)]

theorem power_eq {a m n : Int} {S : Store} (h0 : 0 < n) (h1 : n < 4096) (hm : 0 ≤ m) (hm2 : m < 2 ^ 60) : f_power [.int a, .int m, .int n] S = .ok (.int (a ^ m.toNat % n)) S := by
  have hn : n ≠ 0 := by omega
  obtain ⟨a', e⟩ := pw_loop S n h0 h1 m.toNat (a % n) m (1 % n) FUEL (Nat.le_refl _) hm (by rw [FUEL_eq]; omega) (Int.emod_nonneg _ hn) (Int.emod_lt_of_pos _ h0) (Int.emod_nonneg _ hn) (Int.emod_lt_of_pos _ h0)
  have h : m_power (startM 4 [.int a, .int m, .int n]) S = .ret (.int (a ^ m.toNat % n)) S := by
    have hlt : ¬ m < 0 := by omega
    unfold m_power msWhile
    simp only [msSeq, OutS.thenS, msAsg, msPar, msIf, msRet, msRetN, msAug, msRaise, msNil, msExpr, msSub, Out.toS, Out.bind, mV, mC, mBin, mTest, mCons, mNil, mTup, mIfE, mNeg, mCB, mCall, mChain, mAnd, mOr, mNot, bindT, setAll, startM, OutS.end_, List.getElem?_cons_zero, List.getElem?_cons_succ, List.set_cons_zero, List.set_cons_succ, List.map_cons, List.map_nil, List.length_cons, List.length_nil, List.replicate, List.append_nil, List.nil_append, List.cons_append, if_true, if_false, eqM_int, neM_int, addM_int, subM_int, modM_pos, cmpM_int, Nat.zero_add, Nat.reduceAdd, Nat.reduceSub, LIM0, LIM1, LIM2, LIM3, LIM4, LIM5, hlt, decide_false, modM_pos h0]
    rw [e, mul_emod_pow, emod_mul_pow, Int.one_mul]
    simp only [msSeq, OutS.thenS, msAsg, msPar, msIf, msRet, msRetN, msAug, msRaise, msNil, msExpr, msSub, Out.toS, Out.bind, mV, mC, mBin, mTest, mCons, mNil, mTup, mIfE, mNeg, mCB, mCall, mChain, mAnd, mOr, mNot, bindT, setAll, startM, OutS.end_, List.getElem?_cons_zero, List.getElem?_cons_succ, List.set_cons_zero, List.set_cons_succ, List.map_cons, List.map_nil, List.length_cons, List.length_nil, List.replicate, List.append_nil, List.nil_append, List.cons_append, if_true, if_false, eqM_int, neM_int, addM_int, subM_int, modM_pos, cmpM_int, Nat.zero_add, Nat.reduceAdd, Nat.reduceSub, LIM0, LIM1, LIM2, LIM3, LIM4, LIM5]
  unfold f_power fnM
  rw [h]
  exact fin_same
theorem power_neg {a m n r : Int} {S : Store} (h0 : 0 < n) (h1 : n < 4096) (hm : m < 0) (hm2 : -(2 ^ 60) < m) (hb : f_back [.int a, .int n] S = .ok (.int r) S) : f_power [.int a, .int m, .int n] S = .ok (.int (r ^ (-m).toNat % n)) S := by
  have hn : n ≠ 0 := by omega
  obtain ⟨a', e⟩ := pw_loop S n h0 h1 (-m).toNat (r % n) (-m) (1 % n) FUEL (Nat.le_refl _) (by omega) (by rw [FUEL_eq]; omega) (Int.emod_nonneg _ hn) (Int.emod_lt_of_pos _ h0) (Int.emod_nonneg _ hn) (Int.emod_lt_of_pos _ h0)
  have h : m_power (startM 4 [.int a, .int m, .int n]) S = .ret (.int (r ^ (-m).toNat % n)) S := by
    unfold m_power msWhile
    simp only [msSeq, OutS.thenS, msAsg, msPar, msIf, msRet, msRetN, msAug, msRaise, msNil, msExpr, msSub, Out.toS, Out.bind, mV, mC, mBin, mTest, mCons, mNil, mTup, mIfE, mNeg, mCB, mCall, mChain, mAnd, mOr, mNot, bindT, setAll, startM, OutS.end_, List.getElem?_cons_zero, List.getElem?_cons_succ, List.set_cons_zero, List.set_cons_succ, List.map_cons, List.map_nil, List.length_cons, List.length_nil, List.replicate, List.append_nil, List.nil_append, List.cons_append, if_true, if_false, eqM_int, neM_int, addM_int, subM_int, modM_pos, cmpM_int, Nat.zero_add, Nat.reduceAdd, Nat.reduceSub, LIM0, LIM1, LIM2, LIM3, LIM4, LIM5, hm, decide_true, modM_pos h0, hb]
    rw [e, mul_emod_pow, emod_mul_pow, Int.one_mul]
    simp only [msSeq, OutS.thenS, msAsg, msPar, msIf, msRet, msRetN, msAug, msRaise, msNil, msExpr, msSub, Out.toS, Out.bind, mV, mC, mBin, mTest, mCons, mNil, mTup, mIfE, mNeg, mCB, mCall, mChain, mAnd, mOr, mNot, bindT, setAll, startM, OutS.end_, List.getElem?_cons_zero, List.getElem?_cons_succ, List.set_cons_zero, List.set_cons_succ, List.map_cons, List.map_nil, List.length_cons, List.length_nil, List.replicate, List.append_nil, List.nil_append, List.cons_append, if_true, if_false, eqM_int, neM_int, addM_int, subM_int, modM_pos, cmpM_int, Nat.zero_add, Nat.reduceAdd, Nat.reduceSub, LIM0, LIM1, LIM2, LIM3, LIM4, LIM5]
  unfold f_power fnM
  rw [h]
  exact fin_same
/-! ### raised -/
theorem rs_loop (S : Store) (s : Src) (hs : s.1 = none) (a m : Int) (ha : a.natAbs < 4096) : ∀ (k : Nat) (lo f : Int) (z : Option Mx.D) (i : Nat), f.natAbs < pB i → i + k ≤ 1000000 →
    ∃ z', forL s (.one 3) (msAug 2 imulM (mV 0)) (rangeD lo k) [some (.int a), some (.int m), some (.int f), z] S = .next [some (.int a), some (.int m), some (.int (f * a ^ k)), z'] S := by
  have ok : okSrc s S = true := by unfold okSrc; rw [hs]
  intro k
  induction k with
  | zero => intro lo f z i hf hi; exact ⟨z, by rw [show f * a ^ 0 = f by simp]; exact for_nil ok⟩
  | succ k ih =>
    intro lo f z i hf hi
    have c : CMulM f a := cmul (k := 14 * i + 1) (l := 12) hf (by omega) (by omega) (by omega)
    have hb : (f * a).natAbs < pB (i + 1) := by
      rw [Int.natAbs_mul, pB_succ]
      have h2 : f.natAbs * a.natAbs ≤ pB i * 4096 := Nat.mul_le_mul (Nat.le_of_lt hf) (Nat.le_of_lt ha)
      have h3 : 0 < pB i := Nat.two_pow_pos _
      omega
    obtain ⟨z', e⟩ := ih (lo + 1) (f * a) (some (.int lo)) (i + 1) hb (by omega)
    refine ⟨z', ?_⟩
    rw [show f * a ^ (k + 1) = f * a * a ^ k by rw [Int.pow_succ]; grind, ← e]
    show forL s (.one 3) (msAug 2 imulM (mV 0)) (Mx.D.int lo :: rangeD (lo + 1) k) _ S = _
    refine for_cons (ρ1 := [some (.int a), some (.int m), some (.int f), some (.int lo)]) ok (by simp only [msSeq, OutS.thenS, msAsg, msPar, msIf, msRet, msRetN, msAug, msRaise, msNil, msExpr, msSub, Out.toS, Out.bind, mV, mC, mBin, mTest, mCons, mNil, mTup, mIfE, mNeg, mCB, mCall, mChain, mAnd, mOr, mNot, bindT, setAll, startM, OutS.end_, List.getElem?_cons_zero, List.getElem?_cons_succ, List.set_cons_zero, List.set_cons_succ, List.map_cons, List.map_nil, List.length_cons, List.length_nil, List.replicate, List.append_nil, List.nil_append, List.cons_append, if_true, if_false, eqM_int, neM_int, addM_int, subM_int, modM_pos, cmpM_int, Nat.zero_add, Nat.reduceAdd, Nat.reduceSub, LIM0, LIM1, LIM2, LIM3, LIM4, LIM5]) ?_
    simp only [msSeq, OutS.thenS, msAsg, msPar, msIf, msRet, msRetN, msAug, msRaise, msNil, msExpr, msSub, Out.toS, Out.bind, mV, mC, mBin, mTest, mCons, mNil, mTup, mIfE, mNeg, mCB, mCall, mChain, mAnd, mOr, mNot, bindT, setAll, startM, OutS.end_, List.getElem?_cons_zero, List.getElem?_cons_succ, List.set_cons_zero, List.set_cons_succ, List.map_cons, List.map_nil, List.length_cons, List.length_nil, List.replicate, List.append_nil, List.nil_append, List.cons_append, if_true, if_false, eqM_int, neM_int, addM_int, subM_int, modM_pos, cmpM_int, Nat.zero_add, Nat.reduceAdd, Nat.reduceSub, LIM0, LIM1, LIM2, LIM3, LIM4, LIM5, imulM_int c]
theorem raised_eq {a m : Int} {S : Store} (ha : a.natAbs < 4096) (hm1 : -100000 < m) (hm2 : m < 100000) : f_raised [.int a, .int m] S = .ok (.int (a ^ m.toNat)) S := by
  obtain ⟨z', e⟩ := rs_loop S (none, rangeD 0 m.toNat) rfl a m ha m.toNat 0 1 none 0 (by decide) (by omega)
  have h : m_raised (startM 4 [.int a, .int m]) S = .ret (.int (a ^ m.toNat)) S := by
    have hr : inR m = true := by unfold inR; exact decide_eq_true (by omega)
    unfold m_raised msFor miRange1
    simp only [msSeq, OutS.thenS, msAsg, msPar, msIf, msRet, msRetN, msAug, msRaise, msNil, msExpr, msSub, Out.toS, Out.bind, mV, mC, mBin, mTest, mCons, mNil, mTup, mIfE, mNeg, mCB, mCall, mChain, mAnd, mOr, mNot, bindT, setAll, startM, OutS.end_, List.getElem?_cons_zero, List.getElem?_cons_succ, List.set_cons_zero, List.set_cons_succ, List.map_cons, List.map_nil, List.length_cons, List.length_nil, List.replicate, List.append_nil, List.nil_append, List.cons_append, if_true, if_false, eqM_int, neM_int, addM_int, subM_int, modM_pos, cmpM_int, Nat.zero_add, Nat.reduceAdd, Nat.reduceSub, LIM0, LIM1, LIM2, LIM3, LIM4, LIM5, hr]
    rw [e]
    simp only [msSeq, OutS.thenS, msAsg, msPar, msIf, msRet, msRetN, msAug, msRaise, msNil, msExpr, msSub, Out.toS, Out.bind, mV, mC, mBin, mTest, mCons, mNil, mTup, mIfE, mNeg, mCB, mCall, mChain, mAnd, mOr, mNot, bindT, setAll, startM, OutS.end_, List.getElem?_cons_zero, List.getElem?_cons_succ, List.set_cons_zero, List.set_cons_succ, List.map_cons, List.map_nil, List.length_cons, List.length_nil, List.replicate, List.append_nil, List.nil_append, List.cons_append, if_true, if_false, eqM_int, neM_int, addM_int, subM_int, modM_pos, cmpM_int, Nat.zero_add, Nat.reduceAdd, Nat.reduceSub, LIM0, LIM1, LIM2, LIM3, LIM4, LIM5, Int.one_mul]
  unfold f_raised fnM
  rw [h]
  exact fin_same
/-! ### root_floor -/
abbrev rfC1 : MT := mTest (mBin leM (mBin mulM (mV 2) (mV 2)) (mV 0))
abbrev rfB1 : MS := msAug 2 imulM (mC (.int 2))
abbrev rfC2 : MT := mTest (mBin gtM (mBin subM (mV 2) (mV 1)) (mC (.int 1)))
abbrev rfB2 : MS := msSeq (msAsg (.one 3) (mBin divM (mBin addM (mV 1) (mV 2)) (mC (.int 2))))
  (msIf (mTest (mBin leM (mBin mulM (mV 3) (mV 3)) (mV 0))) (msAsg (.one 1) (mV 3)) (msAsg (.one 2) (mV 3)))
theorem rf_loop1 (S : Store) (x : Int) (hx : x < 2 ^ 40) : ∀ (j : Nat) (h : Int) (z1 z3 : Option Mx.D) (fuel : Nat), (2 ^ 41 - h).toNat ≤ j → j < fuel → 0 < h → h < 2 ^ 41 →
    ∃ h' : Int, whileN rfC1 rfB1 fuel [some (.int x), z1, some (.int h), z3] S = .next [some (.int x), z1, some (.int h'), z3] S ∧ x < h' * h' ∧ 0 < h' ∧ h' < 2 ^ 42 := by
  intro j
  induction j with
  | zero => intro h z1 z3 fuel hj hf h0 h1; omega
  | succ j ih =>
    intro h z1 z3 fuel hj hf h0 h1
    obtain ⟨g, rfl⟩ : ∃ g, fuel = g + 1 := ⟨fuel - 1, by omega⟩
    have c : CMulM h h := cmul (k := 41) (l := 41) (by omega) (by omega) (by decide)
    have c2 : CMulM h 2 := cmul (k := 41) (l := 2) (by omega) (by decide) (by decide)
    by_cases hc : h * h ≤ x
    · have hb : h < 2 ^ 20 := by
        rcases Int.lt_or_le h (2 ^ 20) with q | q
        · exact q
        · have := Int.mul_le_mul q q (by decide) (by omega)
          omega
      obtain ⟨h', e, r⟩ := ih (h * 2) z1 z3 g (by omega) (by omega) (by omega) (by omega)
      refine ⟨h', ?_, r⟩
      rw [← e]
      refine while_go (S1 := S) ?_ ?_
      · simp only [msSeq, OutS.thenS, msAsg, msPar, msIf, msRet, msRetN, msAug, msRaise, msNil, msExpr, msSub, Out.toS, Out.bind, mV, mC, mBin, mTest, mCons, mNil, mTup, mIfE, mNeg, mCB, mCall, mChain, mAnd, mOr, mNot, bindT, setAll, startM, OutS.end_, List.getElem?_cons_zero, List.getElem?_cons_succ, List.set_cons_zero, List.set_cons_succ, List.map_cons, List.map_nil, List.length_cons, List.length_nil, List.replicate, List.append_nil, List.nil_append, List.cons_append, if_true, if_false, eqM_int, neM_int, addM_int, subM_int, modM_pos, cmpM_int, Nat.zero_add, Nat.reduceAdd, Nat.reduceSub, LIM0, LIM1, LIM2, LIM3, LIM4, LIM5, mulM_int c, hc, decide_true]
      · simp only [msSeq, OutS.thenS, msAsg, msPar, msIf, msRet, msRetN, msAug, msRaise, msNil, msExpr, msSub, Out.toS, Out.bind, mV, mC, mBin, mTest, mCons, mNil, mTup, mIfE, mNeg, mCB, mCall, mChain, mAnd, mOr, mNot, bindT, setAll, startM, OutS.end_, List.getElem?_cons_zero, List.getElem?_cons_succ, List.set_cons_zero, List.set_cons_succ, List.map_cons, List.map_nil, List.length_cons, List.length_nil, List.replicate, List.append_nil, List.nil_append, List.cons_append, if_true, if_false, eqM_int, neM_int, addM_int, subM_int, modM_pos, cmpM_int, Nat.zero_add, Nat.reduceAdd, Nat.reduceSub, LIM0, LIM1, LIM2, LIM3, LIM4, LIM5, imulM_int c2]
    · refine ⟨h, while_end ?_, by omega, h0, by omega⟩
      simp only [msSeq, OutS.thenS, msAsg, msPar, msIf, msRet, msRetN, msAug, msRaise, msNil, msExpr, msSub, Out.toS, Out.bind, mV, mC, mBin, mTest, mCons, mNil, mTup, mIfE, mNeg, mCB, mCall, mChain, mAnd, mOr, mNot, bindT, setAll, startM, OutS.end_, List.getElem?_cons_zero, List.getElem?_cons_succ, List.set_cons_zero, List.set_cons_succ, List.map_cons, List.map_nil, List.length_cons, List.length_nil, List.replicate, List.append_nil, List.nil_append, List.cons_append, if_true, if_false, eqM_int, neM_int, addM_int, subM_int, modM_pos, cmpM_int, Nat.zero_add, Nat.reduceAdd, Nat.reduceSub, LIM0, LIM1, LIM2, LIM3, LIM4, LIM5, mulM_int c, hc, decide_false]
theorem rf_loop2 (S : Store) (x : Int) : ∀ (j : Nat) (l h : Int) (z3 : Option Mx.D) (fuel : Nat), (h - l).toNat ≤ j → j < fuel → 0 ≤ l → l < h → h < 2 ^ 42 → l * l ≤ x → x < h * h →
    ∃ (r h' : Int) (z : Option Mx.D), whileN rfC2 rfB2 fuel [some (.int x), some (.int l), some (.int h), z3] S = .next [some (.int x), some (.int r), some (.int h'), z] S ∧ 0 ≤ r ∧ r * r ≤ x ∧ x < (r + 1) * (r + 1) ∧ r < 2 ^ 42 := by
  intro j
  induction j with
  | zero => intro l h z3 fuel hj hf h0 h1; omega
  | succ j ih =>
    intro l h z3 fuel hj hf h0 hlh h42 hl hh
    obtain ⟨g, rfl⟩ : ∃ g, fuel = g + 1 := ⟨fuel - 1, by omega⟩
    by_cases hc : 1 < h - l
    · have c : CMulM ((l + h) / 2) ((l + h) / 2) := cmul (k := 43) (l := 43) (by omega) (by omega) (by decide)
      by_cases hm : (l + h) / 2 * ((l + h) / 2) ≤ x
      · obtain ⟨r, h', z, e, q⟩ := ih ((l + h) / 2) h (some (.int ((l + h) / 2))) g (by omega) (by omega) (by omega) (by omega) h42 hm hh
        refine ⟨r, h', z, ?_, q⟩
        rw [← e]
        refine while_go (S1 := S) ?_ ?_
        · simp only [msSeq, OutS.thenS, msAsg, msPar, msIf, msRet, msRetN, msAug, msRaise, msNil, msExpr, msSub, Out.toS, Out.bind, mV, mC, mBin, mTest, mCons, mNil, mTup, mIfE, mNeg, mCB, mCall, mChain, mAnd, mOr, mNot, bindT, setAll, startM, OutS.end_, List.getElem?_cons_zero, List.getElem?_cons_succ, List.set_cons_zero, List.set_cons_succ, List.map_cons, List.map_nil, List.length_cons, List.length_nil, List.replicate, List.append_nil, List.nil_append, List.cons_append, if_true, if_false, eqM_int, neM_int, addM_int, subM_int, modM_pos, cmpM_int, Nat.zero_add, Nat.reduceAdd, Nat.reduceSub, LIM0, LIM1, LIM2, LIM3, LIM4, LIM5, hc, decide_true]
        · simp only [msSeq, OutS.thenS, msAsg, msPar, msIf, msRet, msRetN, msAug, msRaise, msNil, msExpr, msSub, Out.toS, Out.bind, mV, mC, mBin, mTest, mCons, mNil, mTup, mIfE, mNeg, mCB, mCall, mChain, mAnd, mOr, mNot, bindT, setAll, startM, OutS.end_, List.getElem?_cons_zero, List.getElem?_cons_succ, List.set_cons_zero, List.set_cons_succ, List.map_cons, List.map_nil, List.length_cons, List.length_nil, List.replicate, List.append_nil, List.nil_append, List.cons_append, if_true, if_false, eqM_int, neM_int, addM_int, subM_int, modM_pos, cmpM_int, Nat.zero_add, Nat.reduceAdd, Nat.reduceSub, LIM0, LIM1, LIM2, LIM3, LIM4, LIM5, divM_pos cdiv2 (show (0 : Int) < 2 by decide), mulM_int c, hm, decide_true]
      · obtain ⟨r, h', z, e, q⟩ := ih l ((l + h) / 2) (some (.int ((l + h) / 2))) g (by omega) (by omega) h0 (by omega) (by omega) hl (by omega)
        refine ⟨r, h', z, ?_, q⟩
        rw [← e]
        refine while_go (S1 := S) ?_ ?_
        · simp only [msSeq, OutS.thenS, msAsg, msPar, msIf, msRet, msRetN, msAug, msRaise, msNil, msExpr, msSub, Out.toS, Out.bind, mV, mC, mBin, mTest, mCons, mNil, mTup, mIfE, mNeg, mCB, mCall, mChain, mAnd, mOr, mNot, bindT, setAll, startM, OutS.end_, List.getElem?_cons_zero, List.getElem?_cons_succ, List.set_cons_zero, List.set_cons_succ, List.map_cons, List.map_nil, List.length_cons, List.length_nil, List.replicate, List.append_nil, List.nil_append, List.cons_append, if_true, if_false, eqM_int, neM_int, addM_int, subM_int, modM_pos, cmpM_int, Nat.zero_add, Nat.reduceAdd, Nat.reduceSub, LIM0, LIM1, LIM2, LIM3, LIM4, LIM5, hc, decide_true]
        · simp only [msSeq, OutS.thenS, msAsg, msPar, msIf, msRet, msRetN, msAug, msRaise, msNil, msExpr, msSub, Out.toS, Out.bind, mV, mC, mBin, mTest, mCons, mNil, mTup, mIfE, mNeg, mCB, mCall, mChain, mAnd, mOr, mNot, bindT, setAll, startM, OutS.end_, List.getElem?_cons_zero, List.getElem?_cons_succ, List.set_cons_zero, List.set_cons_succ, List.map_cons, List.map_nil, List.length_cons, List.length_nil, List.replicate, List.append_nil, List.nil_append, List.cons_append, if_true, if_false, eqM_int, neM_int, addM_int, subM_int, modM_pos, cmpM_int, Nat.zero_add, Nat.reduceAdd, Nat.reduceSub, LIM0, LIM1, LIM2, LIM3, LIM4, LIM5, divM_pos cdiv2 (show (0 : Int) < 2 by decide), mulM_int c, hm, decide_false]
    · have e : h = l + 1 := by omega
      subst e
      refine ⟨l, l + 1, z3, while_end ?_, h0, hl, hh, by omega⟩
      simp only [msSeq, OutS.thenS, msAsg, msPar, msIf, msRet, msRetN, msAug, msRaise, msNil, msExpr, msSub, Out.toS, Out.bind, mV, mC, mBin, mTest, mCons, mNil, mTup, mIfE, mNeg, mCB, mCall, mChain, mAnd, mOr, mNot, bindT, setAll, startM, OutS.end_, List.getElem?_cons_zero, List.getElem?_cons_succ, List.set_cons_zero, List.set_cons_succ, List.map_cons, List.map_nil, List.length_cons, List.length_nil, List.replicate, List.append_nil, List.nil_append, List.cons_append, if_true, if_false, eqM_int, neM_int, addM_int, subM_int, modM_pos, cmpM_int, Nat.zero_add, Nat.reduceAdd, Nat.reduceSub, LIM0, LIM1, LIM2, LIM3, LIM4, LIM5, hc, decide_false]
theorem root_floor_eq {x : Int} {S : Store} (h0 : 0 ≤ x) (h1 : x < 2 ^ 40) : ∃ r : Int, f_root_floor [.int x] S = .ok (.int r) S ∧ 0 ≤ r ∧ r * r ≤ x ∧ x < (r + 1) * (r + 1) ∧ r < 2 ^ 42 := by
  obtain ⟨h', e1, q1, q2, q3⟩ := rf_loop1 S x h1 (2 ^ 41) 1 (some (.int 0)) none FUEL (by decide) (by rw [FUEL_eq]; decide) (by decide) (by decide)
  obtain ⟨r, h'', z, e2, q⟩ := rf_loop2 S x (h' - 0).toNat 0 h' none FUEL (Nat.le_refl _) (by rw [FUEL_eq]; omega) (by decide) q2 q3 (by omega) q1
  refine ⟨r, ?_, q⟩
  have h : m_root_floor (startM 4 [.int x]) S = .ret (.int r) S := by
    have hlt : ¬ x < 0 := by omega
    unfold m_root_floor msWhile
    simp only [msSeq, OutS.thenS, msAsg, msPar, msIf, msRet, msRetN, msAug, msRaise, msNil, msExpr, msSub, Out.toS, Out.bind, mV, mC, mBin, mTest, mCons, mNil, mTup, mIfE, mNeg, mCB, mCall, mChain, mAnd, mOr, mNot, bindT, setAll, startM, OutS.end_, List.getElem?_cons_zero, List.getElem?_cons_succ, List.set_cons_zero, List.set_cons_succ, List.map_cons, List.map_nil, List.length_cons, List.length_nil, List.replicate, List.append_nil, List.nil_append, List.cons_append, if_true, if_false, eqM_int, neM_int, addM_int, subM_int, modM_pos, cmpM_int, Nat.zero_add, Nat.reduceAdd, Nat.reduceSub, LIM0, LIM1, LIM2, LIM3, LIM4, LIM5, hlt, decide_false]
    rw [e1]
    dsimp only
    rw [e2]
    simp only [msSeq, OutS.thenS, msAsg, msPar, msIf, msRet, msRetN, msAug, msRaise, msNil, msExpr, msSub, Out.toS, Out.bind, mV, mC, mBin, mTest, mCons, mNil, mTup, mIfE, mNeg, mCB, mCall, mChain, mAnd, mOr, mNot, bindT, setAll, startM, OutS.end_, List.getElem?_cons_zero, List.getElem?_cons_succ, List.set_cons_zero, List.set_cons_succ, List.map_cons, List.map_nil, List.length_cons, List.length_nil, List.replicate, List.append_nil, List.nil_append, List.cons_append, if_true, if_false, eqM_int, neM_int, addM_int, subM_int, modM_pos, cmpM_int, Nat.zero_add, Nat.reduceAdd, Nat.reduceSub, LIM0, LIM1, LIM2, LIM3, LIM4, LIM5]
  unfold f_root_floor fnM
  rw [h]
  exact fin_same
theorem root_floor_no {x : Int} {S : Store} (h0 : x < 0) : f_root_floor [.int x] S = .exc ⟨"BadNumber", none⟩ S := by
  have h : ∃ ρ, m_root_floor (startM 4 [.int x]) S = .exc ⟨"BadNumber", none⟩ ρ S := by
    unfold m_root_floor
    simp only [msSeq, OutS.thenS, msAsg, msPar, msIf, msRet, msRetN, msAug, msRaise, msNil, msExpr, msSub, Out.toS, Out.bind, mV, mC, mBin, mTest, mCons, mNil, mTup, mIfE, mNeg, mCB, mCall, mChain, mAnd, mOr, mNot, bindT, setAll, startM, OutS.end_, List.getElem?_cons_zero, List.getElem?_cons_succ, List.set_cons_zero, List.set_cons_succ, List.map_cons, List.map_nil, List.length_cons, List.length_nil, List.replicate, List.append_nil, List.nil_append, List.cons_append, if_true, if_false, eqM_int, neM_int, addM_int, subM_int, modM_pos, cmpM_int, Nat.zero_add, Nat.reduceAdd, Nat.reduceSub, LIM0, LIM1, LIM2, LIM3, LIM4, LIM5, h0, decide_true]
    exact ⟨_, rfl⟩
  obtain ⟨ρ, h⟩ := h
  unfold f_root_floor fnM
  rw [h]
  exact fin_exc0
end K01
set_option Elab.async false
set_option linter.all false
set_option maxRecDepth 100000
set_option maxHeartbeats 2000000
/-! k01: passes, is_prime. -/
namespace K01
open PySem Mx
/-! ### passes -/
def splitF : Nat → Int → Int → Int × Int
  | 0, m, k => (m, k)
  | f + 1, m, k => if m % 2 = 0 then splitF f (m / 2) (k + 1) else (m, k)
def sqF (n : Int) : Nat → Int → Bool
  | 0, _ => false
  | j + 1, h => if h * h % n = n - 1 then true else sqF n j (h * h % n)
def pasB (a n : Int) : Bool :=
  let q := splitF 60 (n - 1) 0
  let h := a ^ q.1.toNat % n
  if h = 1 ∨ h = n - 1 then true else sqF n (q.2 - 1).toNat h
abbrev psC : MT := mTest (mBin eqM (mBin modM (mV 2) (mC (.int 2))) (mC (.int 0)))
abbrev psB : MS := msPar [2, 3] (mCons (mBin divM (mV 2) (mC (.int 2))) (mCons (mBin addM (mV 3) (mC (.int 1))) mNil))
theorem ps_loop (S : Store) (z0 z1 z4 z5 : Option Mx.D) : ∀ (f : Nat) (m k : Int) (fuel : Nat), 0 < m → m < 2 ^ f → f ≤ 60 → f < fuel → 0 ≤ k →
    whileN psC psB fuel [z0, z1, some (.int m), some (.int k), z4, z5] S = .next [z0, z1, some (.int (splitF f m k).1), some (.int (splitF f m k).2), z4, z5] S ∧ 0 < (splitF f m k).1 ∧ (splitF f m k).1 ≤ m ∧ 0 ≤ (splitF f m k).2 ∧ (splitF f m k).2 ≤ k + f := by
  intro f
  induction f with
  | zero => intro m k fuel h0 h1; simp at h1; omega
  | succ f ih =>
    intro m k fuel h0 h1 h60 hf hk
    obtain ⟨g, rfl⟩ : ∃ g, fuel = g + 1 := ⟨fuel - 1, by omega⟩
    by_cases hm : m % 2 = 0
    · have hp : (2 : Int) ^ (f + 1) = 2 * 2 ^ f := by rw [Int.pow_succ, Int.mul_comm]
      obtain ⟨i1, i2, i3, i4, i5⟩ := ih (m / 2) (k + 1) g (by omega) (by omega) (by omega) (by omega) (by omega)
      have e : splitF (f + 1) m k = splitF f (m / 2) (k + 1) := if_pos hm
      rw [e]
      refine ⟨?_, i2, by omega, i4, by omega⟩
      rw [← i1]
      refine while_go (S1 := S) ?_ ?_
      · simp only [msSeq, OutS.thenS, msAsg, msPar, msIf, msRet, msRetN, msAug, msRaise, msNil, msExpr, msSub, Out.toS, Out.bind, mV, mC, mBin, mTest, mCons, mNil, mTup, mIfE, mNeg, mCB, mCall, mChain, mAnd, mOr, mNot, bindT, setAll, startM, OutS.end_, List.getElem?_cons_zero, List.getElem?_cons_succ, List.set_cons_zero, List.set_cons_succ, List.map_cons, List.map_nil, List.length_cons, List.length_nil, List.replicate, List.append_nil, List.nil_append, List.cons_append, if_true, if_false, eqM_int, neM_int, addM_int, subM_int, modM_pos, cmpM_int, Nat.zero_add, Nat.reduceAdd, Nat.reduceSub, LIM0, LIM1, LIM2, LIM3, LIM4, LIM5, modM_pos (show (0 : Int) < 2 by decide), hm, decide_true]
      · simp only [msSeq, OutS.thenS, msAsg, msPar, msIf, msRet, msRetN, msAug, msRaise, msNil, msExpr, msSub, Out.toS, Out.bind, mV, mC, mBin, mTest, mCons, mNil, mTup, mIfE, mNeg, mCB, mCall, mChain, mAnd, mOr, mNot, bindT, setAll, startM, OutS.end_, List.getElem?_cons_zero, List.getElem?_cons_succ, List.set_cons_zero, List.set_cons_succ, List.map_cons, List.map_nil, List.length_cons, List.length_nil, List.replicate, List.append_nil, List.nil_append, List.cons_append, if_true, if_false, eqM_int, neM_int, addM_int, subM_int, modM_pos, cmpM_int, Nat.zero_add, Nat.reduceAdd, Nat.reduceSub, LIM0, LIM1, LIM2, LIM3, LIM4, LIM5, divM_pos cdiv2 (show (0 : Int) < 2 by decide)]
    · have e : splitF (f + 1) m k = (m, k) := if_neg hm
      rw [e]
      refine ⟨while_end ?_, h0, Int.le_refl _, hk, by omega⟩
      simp only [msSeq, OutS.thenS, msAsg, msPar, msIf, msRet, msRetN, msAug, msRaise, msNil, msExpr, msSub, Out.toS, Out.bind, mV, mC, mBin, mTest, mCons, mNil, mTup, mIfE, mNeg, mCB, mCall, mChain, mAnd, mOr, mNot, bindT, setAll, startM, OutS.end_, List.getElem?_cons_zero, List.getElem?_cons_succ, List.set_cons_zero, List.set_cons_succ, List.map_cons, List.map_nil, List.length_cons, List.length_nil, List.replicate, List.append_nil, List.nil_append, List.cons_append, if_true, if_false, eqM_int, neM_int, addM_int, subM_int, modM_pos, cmpM_int, Nat.zero_add, Nat.reduceAdd, Nat.reduceSub, LIM0, LIM1, LIM2, LIM3, LIM4, LIM5, modM_pos (show (0 : Int) < 2 by decide), hm, decide_false]
theorem inM_two {x a b : Int} {S : Store} : inM false (.int x) (.tup [.int a, .int b]) S = .ok (.bl (decide (a = x) || decide (b = x))) S := by
  simp [inM, seqOf, flatD, inF, eqF]
theorem sq_loop (S : Store) (s : Src) (hs : s.1 = none) (a n m k : Int) (h0 : 1 < n) (h1 : n < 4096) : ∀ (j : Nat) (lo h : Int) (z : Option Mx.D), 0 ≤ h → h < n →
    (sqF n j h = true ∧ forL s (.one 5) (msSeq (msAsg (.one 4) (mBin modM (mBin mulM (mV 4) (mV 4)) (mV 1))) (msIf (mTest (mBin eqM (mV 4) (mBin subM (mV 1) (mC (.int 1))))) (msRet (mC (.bl true))) msNil)) (rangeD lo j) [some (.int a), some (.int n), some (.int m), some (.int k), some (.int h), z] S = .ret (.bl true) S) ∨
    (sqF n j h = false ∧ ∃ z4 z5, forL s (.one 5) (msSeq (msAsg (.one 4) (mBin modM (mBin mulM (mV 4) (mV 4)) (mV 1))) (msIf (mTest (mBin eqM (mV 4) (mBin subM (mV 1) (mC (.int 1))))) (msRet (mC (.bl true))) msNil)) (rangeD lo j) [some (.int a), some (.int n), some (.int m), some (.int k), some (.int h), z] S = .next [some (.int a), some (.int n), some (.int m), some (.int k), z4, z5] S) := by
  have ok : okSrc s S = true := by unfold okSrc; rw [hs]
  intro j
  induction j with
  | zero => intro lo h z _ _; exact .inr ⟨rfl, _, _, for_nil ok⟩
  | succ j ih =>
    intro lo h z hh1 hh2
    have c : CMulM h h := cmul (k := 12) (l := 12) (by omega) (by omega) (by decide)
    have hn : n ≠ 0 := by omega
    show (sqF n (j + 1) h = true ∧ forL s (.one 5) _ (Mx.D.int lo :: rangeD (lo + 1) j) _ S = _) ∨ (sqF n (j + 1) h = false ∧ ∃ z4 z5, forL s (.one 5) _ (Mx.D.int lo :: rangeD (lo + 1) j) _ S = _)
    by_cases hq : h * h % n = n - 1
    · refine .inl ⟨if_pos hq, for_ret (ρ1 := [some (.int a), some (.int n), some (.int m), some (.int k), some (.int h), some (.int lo)]) ok (by simp only [msSeq, OutS.thenS, msAsg, msPar, msIf, msRet, msRetN, msAug, msRaise, msNil, msExpr, msSub, Out.toS, Out.bind, mV, mC, mBin, mTest, mCons, mNil, mTup, mIfE, mNeg, mCB, mCall, mChain, mAnd, mOr, mNot, bindT, setAll, startM, OutS.end_, List.getElem?_cons_zero, List.getElem?_cons_succ, List.set_cons_zero, List.set_cons_succ, List.map_cons, List.map_nil, List.length_cons, List.length_nil, List.replicate, List.append_nil, List.nil_append, List.cons_append, if_true, if_false, eqM_int, neM_int, addM_int, subM_int, modM_pos, cmpM_int, Nat.zero_add, Nat.reduceAdd, Nat.reduceSub, LIM0, LIM1, LIM2, LIM3, LIM4, LIM5]) ?_⟩
      simp only [msSeq, OutS.thenS, msAsg, msPar, msIf, msRet, msRetN, msAug, msRaise, msNil, msExpr, msSub, Out.toS, Out.bind, mV, mC, mBin, mTest, mCons, mNil, mTup, mIfE, mNeg, mCB, mCall, mChain, mAnd, mOr, mNot, bindT, setAll, startM, OutS.end_, List.getElem?_cons_zero, List.getElem?_cons_succ, List.set_cons_zero, List.set_cons_succ, List.map_cons, List.map_nil, List.length_cons, List.length_nil, List.replicate, List.append_nil, List.nil_append, List.cons_append, if_true, if_false, eqM_int, neM_int, addM_int, subM_int, modM_pos, cmpM_int, Nat.zero_add, Nat.reduceAdd, Nat.reduceSub, LIM0, LIM1, LIM2, LIM3, LIM4, LIM5, mulM_int c, modM_pos (show 0 < n by omega), hq, decide_true]
    · have e : sqF n (j + 1) h = sqF n j (h * h % n) := if_neg hq
      have hb : ∀ z, (msSeq (msAsg (.one 4) (mBin modM (mBin mulM (mV 4) (mV 4)) (mV 1))) (msIf (mTest (mBin eqM (mV 4) (mBin subM (mV 1) (mC (.int 1))))) (msRet (mC (.bl true))) msNil)) [some (.int a), some (.int n), some (.int m), some (.int k), some (.int h), z] S = .next [some (.int a), some (.int n), some (.int m), some (.int k), some (.int (h * h % n)), z] S := fun z => by
        simp only [msSeq, OutS.thenS, msAsg, msPar, msIf, msRet, msRetN, msAug, msRaise, msNil, msExpr, msSub, Out.toS, Out.bind, mV, mC, mBin, mTest, mCons, mNil, mTup, mIfE, mNeg, mCB, mCall, mChain, mAnd, mOr, mNot, bindT, setAll, startM, OutS.end_, List.getElem?_cons_zero, List.getElem?_cons_succ, List.set_cons_zero, List.set_cons_succ, List.map_cons, List.map_nil, List.length_cons, List.length_nil, List.replicate, List.append_nil, List.nil_append, List.cons_append, if_true, if_false, eqM_int, neM_int, addM_int, subM_int, modM_pos, cmpM_int, Nat.zero_add, Nat.reduceAdd, Nat.reduceSub, LIM0, LIM1, LIM2, LIM3, LIM4, LIM5, mulM_int c, modM_pos (show 0 < n by omega), hq, decide_false]
      rw [e, for_cons (ρ1 := [some (.int a), some (.int n), some (.int m), some (.int k), some (.int h), some (.int lo)]) ok (by simp only [msSeq, OutS.thenS, msAsg, msPar, msIf, msRet, msRetN, msAug, msRaise, msNil, msExpr, msSub, Out.toS, Out.bind, mV, mC, mBin, mTest, mCons, mNil, mTup, mIfE, mNeg, mCB, mCall, mChain, mAnd, mOr, mNot, bindT, setAll, startM, OutS.end_, List.getElem?_cons_zero, List.getElem?_cons_succ, List.set_cons_zero, List.set_cons_succ, List.map_cons, List.map_nil, List.length_cons, List.length_nil, List.replicate, List.append_nil, List.nil_append, List.cons_append, if_true, if_false, eqM_int, neM_int, addM_int, subM_int, modM_pos, cmpM_int, Nat.zero_add, Nat.reduceAdd, Nat.reduceSub, LIM0, LIM1, LIM2, LIM3, LIM4, LIM5]) (hb _)]
      exact ih (lo + 1) (h * h % n) (some (.int lo)) (Int.emod_nonneg _ hn) (Int.emod_lt_of_pos _ (by omega))
theorem passes_eq {a n : Int} {S : Store} (h0 : 1 < n) (h1 : n < 4096) : f_passes [.int a, .int n] S = .ok (.bl (pasB a n)) S := by
  obtain ⟨i1, i2, i3, i4, i5⟩ := ps_loop S (some (.int a)) (some (.int n)) none none 60 (n - 1) 0 FUEL (by omega) (by omega) (by decide) (by rw [FUEL_eq]; decide) (by decide)
  have hn : n ≠ 0 := by omega
  have pw := power_eq (a := a) (m := (splitF 60 (n - 1) 0).1) (n := n) (S := S) (by omega) h1 (by omega) (by omega)
  have hr : inR ((splitF 60 (n - 1) 0).2 - 1) = true := by unfold inR; exact decide_eq_true (by omega)
  have key : m_passes (startM 6 [.int a, .int n]) S = .ret (.bl (pasB a n)) S := by
    unfold m_passes msWhile msFor miRange1
    simp only [msSeq, OutS.thenS, msAsg, msPar, msIf, msRet, msRetN, msAug, msRaise, msNil, msExpr, msSub, Out.toS, Out.bind, mV, mC, mBin, mTest, mCons, mNil, mTup, mIfE, mNeg, mCB, mCall, mChain, mAnd, mOr, mNot, bindT, setAll, startM, OutS.end_, List.getElem?_cons_zero, List.getElem?_cons_succ, List.set_cons_zero, List.set_cons_succ, List.map_cons, List.map_nil, List.length_cons, List.length_nil, List.replicate, List.append_nil, List.nil_append, List.cons_append, if_true, if_false, eqM_int, neM_int, addM_int, subM_int, modM_pos, cmpM_int, Nat.zero_add, Nat.reduceAdd, Nat.reduceSub, LIM0, LIM1, LIM2, LIM3, LIM4, LIM5]
    rw [i1]
    simp only [msSeq, OutS.thenS, msAsg, msPar, msIf, msRet, msRetN, msAug, msRaise, msNil, msExpr, msSub, Out.toS, Out.bind, mV, mC, mBin, mTest, mCons, mNil, mTup, mIfE, mNeg, mCB, mCall, mChain, mAnd, mOr, mNot, bindT, setAll, startM, OutS.end_, List.getElem?_cons_zero, List.getElem?_cons_succ, List.set_cons_zero, List.set_cons_succ, List.map_cons, List.map_nil, List.length_cons, List.length_nil, List.replicate, List.append_nil, List.nil_append, List.cons_append, if_true, if_false, eqM_int, neM_int, addM_int, subM_int, modM_pos, cmpM_int, Nat.zero_add, Nat.reduceAdd, Nat.reduceSub, LIM0, LIM1, LIM2, LIM3, LIM4, LIM5, pw, inM_two]
    unfold pasB
    dsimp only
    generalize (splitF 60 (n - 1) 0).1 = m at *
    generalize (splitF 60 (n - 1) 0).2 = k at *
    generalize hh : a ^ m.toNat % n = h at *
    have hh1 : 0 ≤ h := by rw [← hh]; exact Int.emod_nonneg _ hn
    have hh2 : h < n := by rw [← hh]; exact Int.emod_lt_of_pos _ (by omega)
    by_cases q : h = 1 ∨ h = n - 1
    · rw [if_pos q]
      have q' : (decide (1 = h) || decide (n - 1 = h)) = true := by
        rw [Bool.or_eq_true, decide_eq_true_eq, decide_eq_true_eq]
        omega
      simp only [msSeq, OutS.thenS, msAsg, msPar, msIf, msRet, msRetN, msAug, msRaise, msNil, msExpr, msSub, Out.toS, Out.bind, mV, mC, mBin, mTest, mCons, mNil, mTup, mIfE, mNeg, mCB, mCall, mChain, mAnd, mOr, mNot, bindT, setAll, startM, OutS.end_, List.getElem?_cons_zero, List.getElem?_cons_succ, List.set_cons_zero, List.set_cons_succ, List.map_cons, List.map_nil, List.length_cons, List.length_nil, List.replicate, List.append_nil, List.nil_append, List.cons_append, if_true, if_false, eqM_int, neM_int, addM_int, subM_int, modM_pos, cmpM_int, Nat.zero_add, Nat.reduceAdd, Nat.reduceSub, LIM0, LIM1, LIM2, LIM3, LIM4, LIM5, q']
    · rw [if_neg q]
      have q' : (decide (1 = h) || decide (n - 1 = h)) = false := by
        rw [Bool.or_eq_false_iff, decide_eq_false_iff_not, decide_eq_false_iff_not]
        omega
      simp only [msSeq, OutS.thenS, msAsg, msPar, msIf, msRet, msRetN, msAug, msRaise, msNil, msExpr, msSub, Out.toS, Out.bind, mV, mC, mBin, mTest, mCons, mNil, mTup, mIfE, mNeg, mCB, mCall, mChain, mAnd, mOr, mNot, bindT, setAll, startM, OutS.end_, List.getElem?_cons_zero, List.getElem?_cons_succ, List.set_cons_zero, List.set_cons_succ, List.map_cons, List.map_nil, List.length_cons, List.length_nil, List.replicate, List.append_nil, List.nil_append, List.cons_append, if_true, if_false, eqM_int, neM_int, addM_int, subM_int, modM_pos, cmpM_int, Nat.zero_add, Nat.reduceAdd, Nat.reduceSub, LIM0, LIM1, LIM2, LIM3, LIM4, LIM5, q', hr]
      rcases sq_loop S (none, rangeD 0 (k - 1).toNat) rfl a n m k h0 h1 (k - 1).toNat 0 h none hh1 hh2 with ⟨e1, e2⟩ | ⟨e1, z4, z5, e2⟩
      · rw [e1, e2]
      · rw [e1, e2]
  unfold f_passes fnM
  rw [key]
  exact fin_same
/-! ### is_prime -/
def rowN : List Int := [2, 3, 5, 7, 11, 13, 17, 19, 23, 29, 31, 37, 41]
def isPrP (n : Int) : Bool := match rowN.find? (fun p => n % p == 0) with
  | some p => decide (n = p)
  | none => rowN.all fun p => pasB p n
theorem row_loop (S : Store) (s : Src) (hs : s.1 = none) (n : Int) (R : Mx.D) : ∀ (l : List Int) (z : Option Mx.D), (∀ p ∈ l, 0 < p) → match l.find? (fun p => n % p == 0) with
    | some p => forL s (.one 2) (msIf (mTest (mBin eqM (mBin modM (mV 0) (mV 2)) (mC (.int 0)))) (msRet (mBin eqM (mV 0) (mV 2))) msNil) (l.map .int) [some (.int n), some R, z] S = .ret (.bl (decide (n = p))) S
    | none => ∃ z', forL s (.one 2) (msIf (mTest (mBin eqM (mBin modM (mV 0) (mV 2)) (mC (.int 0)))) (msRet (mBin eqM (mV 0) (mV 2))) msNil) (l.map .int) [some (.int n), some R, z] S = .next [some (.int n), some R, z'] S := by
  have ok : okSrc s S = true := by unfold okSrc; rw [hs]
  intro l
  induction l with
  | nil => intro z _; exact ⟨z, for_nil ok⟩
  | cons p l ih =>
    intro z hp
    have h0 := hp p List.mem_cons_self
    rw [List.find?_cons]
    by_cases q : n % p = 0
    · rw [show (n % p == 0) = true by simp [q]]
      refine for_ret (ρ1 := [some (.int n), some R, some (.int p)]) ok (by simp only [msSeq, OutS.thenS, msAsg, msPar, msIf, msRet, msRetN, msAug, msRaise, msNil, msExpr, msSub, Out.toS, Out.bind, mV, mC, mBin, mTest, mCons, mNil, mTup, mIfE, mNeg, mCB, mCall, mChain, mAnd, mOr, mNot, bindT, setAll, startM, OutS.end_, List.getElem?_cons_zero, List.getElem?_cons_succ, List.set_cons_zero, List.set_cons_succ, List.map_cons, List.map_nil, List.length_cons, List.length_nil, List.replicate, List.append_nil, List.nil_append, List.cons_append, if_true, if_false, eqM_int, neM_int, addM_int, subM_int, modM_pos, cmpM_int, Nat.zero_add, Nat.reduceAdd, Nat.reduceSub, LIM0, LIM1, LIM2, LIM3, LIM4, LIM5]) ?_
      simp only [msSeq, OutS.thenS, msAsg, msPar, msIf, msRet, msRetN, msAug, msRaise, msNil, msExpr, msSub, Out.toS, Out.bind, mV, mC, mBin, mTest, mCons, mNil, mTup, mIfE, mNeg, mCB, mCall, mChain, mAnd, mOr, mNot, bindT, setAll, startM, OutS.end_, List.getElem?_cons_zero, List.getElem?_cons_succ, List.set_cons_zero, List.set_cons_succ, List.map_cons, List.map_nil, List.length_cons, List.length_nil, List.replicate, List.append_nil, List.nil_append, List.cons_append, if_true, if_false, eqM_int, neM_int, addM_int, subM_int, modM_pos, cmpM_int, Nat.zero_add, Nat.reduceAdd, Nat.reduceSub, LIM0, LIM1, LIM2, LIM3, LIM4, LIM5, modM_pos h0, q, decide_true]
    · rw [show (n % p == 0) = false by simp [q]]
      have e := for_cons (s := s) (t := .one 2) (b := (msIf (mTest (mBin eqM (mBin modM (mV 0) (mV 2)) (mC (.int 0)))) (msRet (mBin eqM (mV 0) (mV 2))) msNil)) (x := .int p) (xs := l.map .int) (ρ := [some (.int n), some R, z]) (ρ1 := [some (.int n), some R, some (.int p)]) (ρ2 := [some (.int n), some R, some (.int p)]) (S := S) (S2 := S) ok (by simp only [msSeq, OutS.thenS, msAsg, msPar, msIf, msRet, msRetN, msAug, msRaise, msNil, msExpr, msSub, Out.toS, Out.bind, mV, mC, mBin, mTest, mCons, mNil, mTup, mIfE, mNeg, mCB, mCall, mChain, mAnd, mOr, mNot, bindT, setAll, startM, OutS.end_, List.getElem?_cons_zero, List.getElem?_cons_succ, List.set_cons_zero, List.set_cons_succ, List.map_cons, List.map_nil, List.length_cons, List.length_nil, List.replicate, List.append_nil, List.nil_append, List.cons_append, if_true, if_false, eqM_int, neM_int, addM_int, subM_int, modM_pos, cmpM_int, Nat.zero_add, Nat.reduceAdd, Nat.reduceSub, LIM0, LIM1, LIM2, LIM3, LIM4, LIM5]) (by simp only [msSeq, OutS.thenS, msAsg, msPar, msIf, msRet, msRetN, msAug, msRaise, msNil, msExpr, msSub, Out.toS, Out.bind, mV, mC, mBin, mTest, mCons, mNil, mTup, mIfE, mNeg, mCB, mCall, mChain, mAnd, mOr, mNot, bindT, setAll, startM, OutS.end_, List.getElem?_cons_zero, List.getElem?_cons_succ, List.set_cons_zero, List.set_cons_succ, List.map_cons, List.map_nil, List.length_cons, List.length_nil, List.replicate, List.append_nil, List.nil_append, List.cons_append, if_true, if_false, eqM_int, neM_int, addM_int, subM_int, modM_pos, cmpM_int, Nat.zero_add, Nat.reduceAdd, Nat.reduceSub, LIM0, LIM1, LIM2, LIM3, LIM4, LIM5, modM_pos h0, q, decide_false])
      have i := ih (some (.int p)) fun p' h' => hp p' (List.mem_cons_of_mem _ h')
      show match l.find? (fun p => n % p == 0) with | some p' => forL s (.one 2) _ (Mx.D.int p :: l.map .int) _ S = _ | none => ∃ z', forL s (.one 2) _ (Mx.D.int p :: l.map .int) _ S = _
      rw [e]
      exact i
theorem all_loop (S : Store) (s : Src) (hs : s.1 = none) (n : Int) (R : Mx.D) (h0 : 1 < n) (h1 : n < 4096) : ∀ l : List Int,
    genL s (.one 2) (mCall 2 f_passes (mCons (mV 2) (mCons (mV 0) mNil))) [some (.int n), some R, none] (stB false) (fun _ => .bl true) (l.map .int) () S = .ok (.bl (l.all fun p => pasB p n)) S := by
  have ok : okSrc s S = true := by unfold okSrc; rw [hs]
  intro l
  induction l with
  | nil => unfold genL; exact if_pos ok
  | cons p l ih =>
    have e : genAt s (.one 2) (mCall 2 f_passes (mCons (mV 2) (mCons (mV 0) mNil))) [some (.int n), some R, none] (.int p) S = some (.bl (pasB p n), S) := by
      unfold genAt
      rw [if_pos ok]
      simp only [msSeq, OutS.thenS, msAsg, msPar, msIf, msRet, msRetN, msAug, msRaise, msNil, msExpr, msSub, Out.toS, Out.bind, mV, mC, mBin, mTest, mCons, mNil, mTup, mIfE, mNeg, mCB, mCall, mChain, mAnd, mOr, mNot, bindT, setAll, startM, OutS.end_, List.getElem?_cons_zero, List.getElem?_cons_succ, List.set_cons_zero, List.set_cons_succ, List.map_cons, List.map_nil, List.length_cons, List.length_nil, List.replicate, List.append_nil, List.nil_append, List.cons_append, if_true, if_false, eqM_int, neM_int, addM_int, subM_int, modM_pos, cmpM_int, Nat.zero_add, Nat.reduceAdd, Nat.reduceSub, LIM0, LIM1, LIM2, LIM3, LIM4, LIM5, passes_eq h0 h1]
    rw [List.map_cons]
    unfold genL
    rw [e, List.all_cons]
    dsimp only
    cases pasB p n with
    | true => exact ih
    | false => rfl
theorem is_prime_eq {n : Int} {S : Store} (h0 : 1 < n) (h1 : n < 4096) : f_is_prime [.int n] S = .ok (.bl (isPrP n)) S := by
  have key : m_is_prime (startM 3 [.int n]) S = .ret (.bl (isPrP n)) S := by
    have c : CMulM 3 (10 ^ 24) := cmul (k := 2) (l := 90) (by decide) (by decide) (by decide)
    have pw : powM (.int 10) (.int 24) S = .ok (.int (10 ^ 24)) S := by
      unfold powM
      exact if_pos ⟨by decide, by decide, by decide⟩
    have hlt : ¬ n < 2 := by omega
    have hgt : ¬ 3 * 10 ^ 24 < n := by omega
    unfold m_is_prime msFor miSeq mAnyG isPrP
    simp only [msSeq, OutS.thenS, msAsg, msPar, msIf, msRet, msRetN, msAug, msRaise, msNil, msExpr, msSub, Out.toS, Out.bind, mV, mC, mBin, mTest, mCons, mNil, mTup, mIfE, mNeg, mCB, mCall, mChain, mAnd, mOr, mNot, bindT, setAll, startM, OutS.end_, List.getElem?_cons_zero, List.getElem?_cons_succ, List.set_cons_zero, List.set_cons_succ, List.map_cons, List.map_nil, List.length_cons, List.length_nil, List.replicate, List.append_nil, List.nil_append, List.cons_append, if_true, if_false, eqM_int, neM_int, addM_int, subM_int, modM_pos, cmpM_int, Nat.zero_add, Nat.reduceAdd, Nat.reduceSub, LIM0, LIM1, LIM2, LIM3, LIM4, LIM5, LIM13, hlt, decide_false]
    have rl := row_loop S (none, rowN.map .int) rfl n (.tup (rowN.map .int)) rowN none (by decide)
    cases q : rowN.find? (fun p => n % p == 0) with
    | some p =>
      rw [q] at rl
      dsimp only at rl
      rw [show [Mx.D.int 2, .int 3, .int 5, .int 7, .int 11, .int 13, .int 17, .int 19, .int 23, .int 29, .int 31, .int 37, .int 41] = rowN.map .int from rfl, rl]
    | none =>
      rw [q] at rl
      obtain ⟨z', rl⟩ := rl
      rw [show [Mx.D.int 2, .int 3, .int 5, .int 7, .int 11, .int 13, .int 17, .int 19, .int 23, .int 29, .int 31, .int 37, .int 41] = rowN.map .int from rfl, rl]
      dsimp only
      simp only [msSeq, OutS.thenS, msAsg, msPar, msIf, msRet, msRetN, msAug, msRaise, msNil, msExpr, msSub, Out.toS, Out.bind, mV, mC, mBin, mTest, mCons, mNil, mTup, mIfE, mNeg, mCB, mCall, mChain, mAnd, mOr, mNot, bindT, setAll, startM, OutS.end_, List.getElem?_cons_zero, List.getElem?_cons_succ, List.set_cons_zero, List.set_cons_succ, List.map_cons, List.map_nil, List.length_cons, List.length_nil, List.replicate, List.append_nil, List.nil_append, List.cons_append, if_true, if_false, eqM_int, neM_int, addM_int, subM_int, modM_pos, cmpM_int, Nat.zero_add, Nat.reduceAdd, Nat.reduceSub, LIM0, LIM1, LIM2, LIM3, LIM4, LIM5, pw, mulM_int c, hgt, decide_false]
      have w : wipeM [some (Mx.D.int n), some (.tup (rowN.map .int)), z'] [2] = [some (.int n), some (.tup (rowN.map .int)), none] := rfl
      rw [w, show (!false) = true from rfl, all_loop S (none, rowN.map .int) rfl n _ h0 h1 rowN]
  unfold f_is_prime fnM
  rw [key]
  exact fin_same
end K01
set_option Elab.async false
set_option linter.all false
set_option maxRecDepth 100000
set_option maxHeartbeats 2000000
/-! k01: parts. -/
namespace K01
open PySem Mx
abbrev kvN (p : Int × Int) : L2.Key × Mx.D := (.inl p.1, .int p.2)
def vI : List (Int × Int) → Int → Int
  | [], _ => 0
  | p :: r, k => if p.1 = k then p.2 else vI r k
def hasI : List (Int × Int) → Int → Bool
  | [], _ => false
  | p :: r, k => decide (p.1 = k) || hasI r k
def replI : List (Int × Int) → Int → Int → List (Int × Int)
  | [], _, _ => []
  | p :: r, k, v => (if p.1 = k then (p.1, v) else p) :: replI r k v
def putI (ps : List (Int × Int)) (k v : Int) : List (Int × Int) := if hasI ps k then replI ps k v else ps ++ [(k, v)]
theorem valD_kv (k : Int) : ∀ ps : List (Int × Int), (valD (ps.map kvN) (.inl k)).getD (.int 0) = .int (vI ps k)
  | [] => rfl
  | p :: r => by
    show (if (Sum.inl p.1 : L2.Key) = .inl k then some (Mx.D.int p.2) else valD (r.map kvN) (.inl k)).getD (.int 0) = .int (if p.1 = k then p.2 else vI r k)
    by_cases h : p.1 = k
    · rw [if_pos h, if_pos (by rw [h])]; rfl
    · rw [if_neg h, if_neg (fun z => h (Sum.inl.inj z))]; exact valD_kv k r
theorem hasK_kv (k : Int) : ∀ ps : List (Int × Int), hasK (ps.map kvN) (.inl k) = hasI ps k
  | [] => rfl
  | p :: r => by
    show (decide ((Sum.inl p.1 : L2.Key) = .inl k) || hasK (r.map kvN) (.inl k)) = (decide (p.1 = k) || hasI r k)
    rw [hasK_kv k r]
    congr 1
    by_cases h : p.1 = k
    · rw [decide_eq_true h, decide_eq_true (by rw [h])]
    · rw [decide_eq_false h, decide_eq_false (fun z => h (Sum.inl.inj z))]
theorem replD_kv (k v : Int) : ∀ ps : List (Int × Int), replD (ps.map kvN) (.inl k) (.int v) = (replI ps k v).map kvN
  | [] => rfl
  | p :: r => by
    show (if (Sum.inl p.1 : L2.Key) = .inl k then ((Sum.inl p.1 : L2.Key), Mx.D.int v) else kvN p) :: replD (r.map kvN) (.inl k) (.int v) = kvN (if p.1 = k then (p.1, v) else p) :: (replI r k v).map kvN
    rw [replD_kv k v r]
    congr 1
    by_cases h : p.1 = k
    · rw [if_pos h, if_pos (by rw [h])]
    · rw [if_neg h, if_neg (fun z => h (Sum.inl.inj z))]
theorem putD_kv (k v : Int) (ps : List (Int × Int)) : putD (ps.map kvN) (.inl k) (.int v) = (putI ps k v).map kvN := by
  unfold putD putI
  rw [hasK_kv]
  split
  · exact replD_kv k v ps
  · simp
theorem asPairs_kv : ∀ ps : List (Int × Int), asPairs (ps.map kvN) = some ps
  | [] => rfl
  | p :: r => by
    show (match asPairs (r.map kvN) with | some ps => some ((p.1, p.2) :: ps) | none => none) = _
    rw [asPairs_kv r]
theorem replI_len (k v : Int) : ∀ ps : List (Int × Int), (replI ps k v).length = ps.length
  | [] => rfl
  | p :: r => by simp [replI, replI_len k v r]
theorem putI_len (ps : List (Int × Int)) (k v : Int) : (putI ps k v).length ≤ ps.length + 1 := by
  unfold putI
  split
  · rw [replI_len]; omega
  · simp
/-! ### the store -/
theorem at_end {S T : Store} {o : SO} : (S ++ o :: T)[S.length]? = some o := by simp
theorem set_end {S T : Store} {o o' : SO} : (S ++ o :: T).set S.length o' = S ++ o' :: T := by
  simp [List.set_append]
theorem at_end1 {S T : Store} {o o1 : SO} : (S ++ o :: o1 :: T)[S.length + 1]? = some o1 := by
  rw [List.getElem?_append_right (by omega), show S.length + 1 - S.length = 1 by omega]
  rfl
theorem set_end1 {S T : Store} {o o1 o' : SO} : (S ++ o :: o1 :: T).set (S.length + 1) o' = S ++ o :: o' :: T := by
  simp [List.set_append]
/-! ### the inner loop -/
def inrP : Nat → Int → Int → List (Int × Int) → Int × List (Int × Int)
  | 0, n, _, ps => (n, ps)
  | f + 1, n, p, ps => if n % p = 0 then inrP f (n / p) p (putI ps p (vI ps p + 1)) else (n, ps)
def outP : Nat → Int → Int → List (Int × Int) → Int × List (Int × Int)
  | 0, n, _, ps => (n, ps)
  | f + 1, n, p, ps => if p * p ≤ n ∧ p < 2000 then outP f (inrP 20 n p ps).1 (p + 1) (inrP 20 n p ps).2 else (n, ps)
def parL (n : Int) : List (Int × Int) :=
  let q := outP 2000 n 2 []
  sortP (if 1 < q.1 then putI q.2 q.1 (vI q.2 q.1 + 1) else q.2)
abbrev inC : MT := mTest (mBin eqM (mBin modM (mV 0) (mV 2)) (mC (.int 0)))
abbrev inB : MS := msSeq (msSub dputM (mV 1) (mV 2) (mBin addM (mDGet2 (mV 1) (mV 2) (mC (.int 0))) (mC (.int 1)))) (msAug 0 idivM (mV 2))
theorem dput_at {S T : Store} {ps : List (Int × Int)} {k v : Int} (h : ps.length ≤ LIM) : dputM (.loc S.length) (.int k) (.int v) (S ++ SO.dK (ps.map kvN) :: T) = .ok () (S ++ SO.dK ((putI ps k v).map kvN) :: T) := by
  unfold dputM
  show (match (S ++ SO.dK (ps.map kvN) :: T)[S.length]? with | some (.dK kvs) => if kvs.length ≤ LIM then Out.ok () ((S ++ SO.dK (ps.map kvN) :: T).set S.length (SO.dK (putD kvs (.inl k) (.int v)))) else .bad | _ => .bad) = _
  rw [at_end]
  dsimp only
  rw [if_pos (by rw [List.length_map]; exact h), putD_kv, set_end]
theorem dget_at {S T : Store} {ps : List (Int × Int)} {k : Int} {ρ : Env'} {mo mk : ME} (h1 : mo ρ (S ++ SO.dK (ps.map kvN) :: T) = .ok (.loc S.length) (S ++ SO.dK (ps.map kvN) :: T)) (h2 : mk ρ (S ++ SO.dK (ps.map kvN) :: T) = .ok (.int k) (S ++ SO.dK (ps.map kvN) :: T)) :
    mDGet2 mo mk (mC (.int 0)) ρ (S ++ SO.dK (ps.map kvN) :: T) = .ok (.int (vI ps k)) (S ++ SO.dK (ps.map kvN) :: T) := by
  unfold mDGet2
  rw [h1]
  simp only [Out.bind, at_end, h2, mC, keyD]
  rw [valD_kv]
theorem in_step {S T : Store} {ps : List (Int × Int)} {n p : Int} {z3 z4 z5 : Option Mx.D} (h : ps.length ≤ LIM) (hp : 1 < p) (hp2 : p < 2 ^ 20) :
    inB [some (.int n), some (.loc S.length), some (.int p), z3, z4, z5] (S ++ SO.dK (ps.map kvN) :: T) = .next [some (.int (n / p)), some (.loc S.length), some (.int p), z3, z4, z5] (S ++ SO.dK ((putI ps p (vI ps p + 1)).map kvN) :: T) := by
  have c : CDivM p := cdiv (k := 20) (by omega) (by omega)
  have g := dget_at (S := S) (T := T) (ps := ps) (k := p) (ρ := [some (.int n), some (.loc S.length), some (.int p), z3, z4, z5]) (mo := mV 1) (mk := mV 2) rfl rfl
  simp only [msSeq, OutS.thenS, msAsg, msPar, msIf, msRet, msRetN, msAug, msRaise, msNil, msExpr, msSub, Out.toS, Out.bind, mV, mC, mBin, mTest, mCons, mNil, mTup, mIfE, mNeg, mCB, mCall, mChain, mAnd, mOr, mNot, bindT, setAll, startM, OutS.end_, List.getElem?_cons_zero, List.getElem?_cons_succ, List.set_cons_zero, List.set_cons_succ, List.map_cons, List.map_nil, List.length_cons, List.length_nil, List.replicate, List.append_nil, List.nil_append, List.cons_append, if_true, if_false, eqM_int, neM_int, addM_int, subM_int, modM_pos, cmpM_int, Nat.zero_add, Nat.reduceAdd, Nat.reduceSub, LIM0, LIM1, LIM2, LIM3, LIM4, LIM5, g, dput_at h, idivM_pos c (show 0 < p by omega)]
theorem in_loop (S T : Store) (p : Int) (hp : 1 < p) (hp2 : p < 2 ^ 20) (z3 z4 z5 : Option Mx.D) : ∀ (f : Nat) (n : Int) (ps : List (Int × Int)) (fuel : Nat), 0 < n → n < 2 ^ f → f < fuel → ps.length + f ≤ LIM →
    whileN inC inB fuel [some (.int n), some (.loc S.length), some (.int p), z3, z4, z5] (S ++ SO.dK (ps.map kvN) :: T) = .next [some (.int (inrP f n p ps).1), some (.loc S.length), some (.int p), z3, z4, z5] (S ++ SO.dK ((inrP f n p ps).2.map kvN) :: T) ∧
      0 < (inrP f n p ps).1 ∧ (inrP f n p ps).1 ≤ n ∧ (inrP f n p ps).2.length ≤ ps.length + f := by
  intro f
  induction f with
  | zero => intro n ps fuel h0 h1; simp at h1; omega
  | succ f ih =>
    intro n ps fuel h0 h1 hf hl
    obtain ⟨g, rfl⟩ : ∃ g, fuel = g + 1 := ⟨fuel - 1, by omega⟩
    by_cases hm : n % p = 0
    · have hpw : (2 : Int) ^ (f + 1) = 2 * 2 ^ f := by rw [Int.pow_succ, Int.mul_comm]
      have hd : n / p * p = n := Int.ediv_mul_cancel (Int.dvd_of_emod_eq_zero hm)
      have hd0 : 0 < n / p := by
        rcases Int.lt_or_le 0 (n / p) with q | q
        · exact q
        · have := Int.mul_le_mul_of_nonneg_right q (show 0 ≤ p by omega)
          omega
      have hd1 : n / p * 2 ≤ n := by
        have := Int.mul_le_mul_of_nonneg_left (show 2 ≤ p by omega) (show 0 ≤ n / p by omega)
        omega
      have pl := putI_len ps p (vI ps p + 1)
      obtain ⟨i1, i2, i3, i4⟩ := ih (n / p) (putI ps p (vI ps p + 1)) g hd0 (by omega) (by omega) (by omega)
      have e : inrP (f + 1) n p ps = inrP f (n / p) p (putI ps p (vI ps p + 1)) := if_pos hm
      rw [e]
      refine ⟨?_, i2, by omega, by omega⟩
      rw [← i1]
      refine while_go (S1 := S ++ SO.dK (ps.map kvN) :: T) ?_ (in_step (by omega) hp hp2)
      simp only [msSeq, OutS.thenS, msAsg, msPar, msIf, msRet, msRetN, msAug, msRaise, msNil, msExpr, msSub, Out.toS, Out.bind, mV, mC, mBin, mTest, mCons, mNil, mTup, mIfE, mNeg, mCB, mCall, mChain, mAnd, mOr, mNot, bindT, setAll, startM, OutS.end_, List.getElem?_cons_zero, List.getElem?_cons_succ, List.set_cons_zero, List.set_cons_succ, List.map_cons, List.map_nil, List.length_cons, List.length_nil, List.replicate, List.append_nil, List.nil_append, List.cons_append, if_true, if_false, eqM_int, neM_int, addM_int, subM_int, modM_pos, cmpM_int, Nat.zero_add, Nat.reduceAdd, Nat.reduceSub, LIM0, LIM1, LIM2, LIM3, LIM4, LIM5, modM_pos (show 0 < p by omega), hm, decide_true]
    · have e : inrP (f + 1) n p ps = (n, ps) := if_neg hm
      rw [e]
      refine ⟨while_end ?_, h0, Int.le_refl _, by dsimp only; omega⟩
      simp only [msSeq, OutS.thenS, msAsg, msPar, msIf, msRet, msRetN, msAug, msRaise, msNil, msExpr, msSub, Out.toS, Out.bind, mV, mC, mBin, mTest, mCons, mNil, mTup, mIfE, mNeg, mCB, mCall, mChain, mAnd, mOr, mNot, bindT, setAll, startM, OutS.end_, List.getElem?_cons_zero, List.getElem?_cons_succ, List.set_cons_zero, List.set_cons_succ, List.map_cons, List.map_nil, List.length_cons, List.length_nil, List.replicate, List.append_nil, List.nil_append, List.cons_append, if_true, if_false, eqM_int, neM_int, addM_int, subM_int, modM_pos, cmpM_int, Nat.zero_add, Nat.reduceAdd, Nat.reduceSub, LIM0, LIM1, LIM2, LIM3, LIM4, LIM5, modM_pos (show 0 < p by omega), hm, decide_false]
abbrev ouC : MT := mAnd (mTest (mBin leM (mBin mulM (mV 2) (mV 2)) (mV 0))) (mTest (mBin ltM (mV 2) (mC (.int 2000))))
abbrev ouB : MS := msSeq (msWhile inC inB) (msAug 2 iaddM (mC (.int 1)))
theorem ou_loop (S T : Store) (z3 z4 z5 : Option Mx.D) : ∀ (f : Nat) (n p : Int) (ps : List (Int × Int)) (fuel : Nat), 0 < n → n < 2 ^ 20 → 1 < p → p ≤ 2001 → 2000 ≤ p + f → f < fuel → ps.length + 20 * f ≤ LIM →
    ∃ p' : Int, whileN ouC ouB fuel [some (.int n), some (.loc S.length), some (.int p), z3, z4, z5] (S ++ SO.dK (ps.map kvN) :: T) = .next [some (.int (outP f n p ps).1), some (.loc S.length), some (.int p'), z3, z4, z5] (S ++ SO.dK ((outP f n p ps).2.map kvN) :: T) ∧
      0 < (outP f n p ps).1 ∧ (outP f n p ps).1 ≤ n ∧ (outP f n p ps).2.length ≤ ps.length + 20 * f := by
  have stop : ∀ (n p : Int) (ps : List (Int × Int)) (g : Nat), 1 < p → p ≤ 2001 → ¬ (p * p ≤ n ∧ p < 2000) → whileN ouC ouB (g + 1) [some (.int n), some (.loc S.length), some (.int p), z3, z4, z5] (S ++ SO.dK (ps.map kvN) :: T) = .next [some (.int n), some (.loc S.length), some (.int p), z3, z4, z5] (S ++ SO.dK (ps.map kvN) :: T) := by
    intro n p ps g h1 h2 h3
    have c : CMulM p p := cmul (k := 11) (l := 11) (by omega) (by omega) (by decide)
    refine while_end ?_
    by_cases q : p * p ≤ n
    · have q2 : ¬ p < 2000 := fun z => h3 ⟨q, z⟩
      simp only [msSeq, OutS.thenS, msAsg, msPar, msIf, msRet, msRetN, msAug, msRaise, msNil, msExpr, msSub, Out.toS, Out.bind, mV, mC, mBin, mTest, mCons, mNil, mTup, mIfE, mNeg, mCB, mCall, mChain, mAnd, mOr, mNot, bindT, setAll, startM, OutS.end_, List.getElem?_cons_zero, List.getElem?_cons_succ, List.set_cons_zero, List.set_cons_succ, List.map_cons, List.map_nil, List.length_cons, List.length_nil, List.replicate, List.append_nil, List.nil_append, List.cons_append, if_true, if_false, eqM_int, neM_int, addM_int, subM_int, modM_pos, cmpM_int, Nat.zero_add, Nat.reduceAdd, Nat.reduceSub, LIM0, LIM1, LIM2, LIM3, LIM4, LIM5, mulM_int c, q, q2, decide_true, decide_false]
    · simp only [msSeq, OutS.thenS, msAsg, msPar, msIf, msRet, msRetN, msAug, msRaise, msNil, msExpr, msSub, Out.toS, Out.bind, mV, mC, mBin, mTest, mCons, mNil, mTup, mIfE, mNeg, mCB, mCall, mChain, mAnd, mOr, mNot, bindT, setAll, startM, OutS.end_, List.getElem?_cons_zero, List.getElem?_cons_succ, List.set_cons_zero, List.set_cons_succ, List.map_cons, List.map_nil, List.length_cons, List.length_nil, List.replicate, List.append_nil, List.nil_append, List.cons_append, if_true, if_false, eqM_int, neM_int, addM_int, subM_int, modM_pos, cmpM_int, Nat.zero_add, Nat.reduceAdd, Nat.reduceSub, LIM0, LIM1, LIM2, LIM3, LIM4, LIM5, mulM_int c, q, decide_false]
  intro f
  induction f with
  | zero =>
    intro n p ps fuel h0 h1 hp hp1 hp2 hf hl
    obtain ⟨g, rfl⟩ : ∃ g, fuel = g + 1 := ⟨fuel - 1, by omega⟩
    exact ⟨p, stop n p ps g hp hp1 (by omega), h0, Int.le_refl _, by show ps.length ≤ _; omega⟩
  | succ f ih =>
    intro n p ps fuel h0 h1 hp hp1 hp2 hf hl
    obtain ⟨g, rfl⟩ : ∃ g, fuel = g + 1 := ⟨fuel - 1, by omega⟩
    by_cases hc : p * p ≤ n ∧ p < 2000
    · have e : outP (f + 1) n p ps = outP f (inrP 20 n p ps).1 (p + 1) (inrP 20 n p ps).2 := if_pos hc
      rw [e]
      obtain ⟨i1, i2, i3, i4⟩ := in_loop S T p hp (by omega) z3 z4 z5 20 n ps FUEL h0 h1 (by rw [FUEL_eq]; decide) (by omega)
      obtain ⟨p', j1, j2, j3, j4⟩ := ih (inrP 20 n p ps).1 (p + 1) (inrP 20 n p ps).2 g i2 (by omega) (by omega) (by omega) (by omega) (by omega) (by omega)
      refine ⟨p', ?_, j2, by omega, by omega⟩
      rw [← j1]
      have c : CMulM p p := cmul (k := 11) (l := 11) (by omega) (by omega) (by decide)
      refine while_go (S1 := S ++ SO.dK (ps.map kvN) :: T) ?_ ?_
      · simp only [msSeq, OutS.thenS, msAsg, msPar, msIf, msRet, msRetN, msAug, msRaise, msNil, msExpr, msSub, Out.toS, Out.bind, mV, mC, mBin, mTest, mCons, mNil, mTup, mIfE, mNeg, mCB, mCall, mChain, mAnd, mOr, mNot, bindT, setAll, startM, OutS.end_, List.getElem?_cons_zero, List.getElem?_cons_succ, List.set_cons_zero, List.set_cons_succ, List.map_cons, List.map_nil, List.length_cons, List.length_nil, List.replicate, List.append_nil, List.nil_append, List.cons_append, if_true, if_false, eqM_int, neM_int, addM_int, subM_int, modM_pos, cmpM_int, Nat.zero_add, Nat.reduceAdd, Nat.reduceSub, LIM0, LIM1, LIM2, LIM3, LIM4, LIM5, mulM_int c, hc.1, hc.2, decide_true]
      · show (msSeq (whileN inC inB FUEL) (msAug 2 iaddM (mC (.int 1)))) _ _ = _
        unfold msSeq
        rw [i1]
        simp only [msSeq, OutS.thenS, msAsg, msPar, msIf, msRet, msRetN, msAug, msRaise, msNil, msExpr, msSub, Out.toS, Out.bind, mV, mC, mBin, mTest, mCons, mNil, mTup, mIfE, mNeg, mCB, mCall, mChain, mAnd, mOr, mNot, bindT, setAll, startM, OutS.end_, List.getElem?_cons_zero, List.getElem?_cons_succ, List.set_cons_zero, List.set_cons_succ, List.map_cons, List.map_nil, List.length_cons, List.length_nil, List.replicate, List.append_nil, List.nil_append, List.cons_append, if_true, if_false, eqM_int, neM_int, addM_int, subM_int, modM_pos, cmpM_int, Nat.zero_add, Nat.reduceAdd, Nat.reduceSub, LIM0, LIM1, LIM2, LIM3, LIM4, LIM5, iaddM]
    · have e : outP (f + 1) n p ps = (n, ps) := if_neg hc
      rw [e]
      exact ⟨p, stop n p ps g hp hp1 hc, h0, Int.le_refl _, by show ps.length ≤ _; omega⟩
end K01
set_option Elab.async false
set_option linter.all false
set_option maxRecDepth 100000
set_option maxHeartbeats 2000000
/-! k01: parts. -/
namespace K01
open PySem Mx
abbrev lfC : MT := mTest (mBin neM (mV 3) (mLst mNil))
abbrev lfB : MS := msSeq (msAsg (.one 4) (mBM popM (mV 3) mNil))
  (msIf (mTest (mCall 1 f_is_prime (mCons (mV 4) mNil))) (msSub dputM (mV 1) (mV 4) (mBin addM (mDGet2 (mV 1) (mV 4) (mC (.int 0))) (mC (.int 1)))) (msSeq (msAsg (.one 5) (mCall 1 f_some_part (mCons (mV 4) mNil)))
  (msExpr (mBM extendM (mV 3) (mCons (mLst (mCons (mV 5) (mCons (mBin divM (mV 4) (mV 5)) mNil))) mNil)))))
theorem popM_one {S : Store} {i : Nat} {d : Mx.D} (h : S[i]? = some (.lst [d])) : popM (.loc i) [] S = .ok d (S.set i (.lst [])) := by
  unfold popM
  dsimp only
  rw [h]
  rfl
theorem mBM_popM {S : Store} {i : Nat} {d : Mx.D} {ρ : Env'} {m : ME} (hm : m ρ S = .ok (.loc i) S) (h : S[i]? = some (.lst [d])) : mBM popM m mNil ρ S = .ok d (S.set i (.lst [])) := by
  unfold mBM
  rw [hm]
  have hp := popM_one h
  simp only [Out.bind, mNil, h]
  exact hp
theorem lf_end {S T : Store} {o : SO} {z0 z2 z4 z5 : Option Mx.D} {g : Nat} : ∃ T', whileN lfC lfB (g + 1) [z0, some (.loc S.length), z2, some (.loc (S.length + 1)), z4, z5] (S ++ o :: .lst [] :: T) = .next [z0, some (.loc S.length), z2, some (.loc (S.length + 1)), z4, z5] (S ++ o :: .lst [] :: T') := by
  have hl : (S ++ o :: SO.lst [] :: T).length = S.length + 2 + T.length := by simp; omega
  have h2 : (S ++ o :: SO.lst [] :: T ++ [SO.lst []])[S.length + 2 + T.length]? = some (.lst []) := by
    rw [← hl]
    simp
  have h1 : (S ++ o :: SO.lst [] :: T ++ [SO.lst []])[S.length + 1]? = some (.lst []) := by
    rw [List.append_assoc]
    exact at_end1
  refine ⟨T ++ [.lst []], ?_⟩
  rw [show S ++ o :: SO.lst [] :: (T ++ [SO.lst []]) = S ++ o :: SO.lst [] :: T ++ [SO.lst []] by simp]
  refine while_end ?_
  have hne := neM_lsts (xs := []) (ys := []) h1 h2
  simp only [msSeq, OutS.thenS, msAsg, msPar, msIf, msRet, msRetN, msAug, msRaise, msNil, msExpr, msSub, Out.toS, Out.bind, mV, mC, mBin, mTest, mCons, mNil, mTup, mIfE, mNeg, mCB, mCall, mChain, mAnd, mOr, mNot, bindT, setAll, startM, OutS.end_, List.getElem?_cons_zero, List.getElem?_cons_succ, List.set_cons_zero, List.set_cons_succ, List.map_cons, List.map_nil, List.length_cons, List.length_nil, List.replicate, List.append_nil, List.nil_append, List.cons_append, if_true, if_false, eqM_int, neM_int, addM_int, subM_int, modM_pos, cmpM_int, Nat.zero_add, Nat.reduceAdd, Nat.reduceSub, LIM0, LIM1, LIM2, LIM3, LIM4, LIM5, mLst, hl, hne, decide_true, Bool.not_true]
theorem lf_loop {S : Store} {ps : List (Int × Int)} {m : Int} {z0 z2 : Option Mx.D} (hl : ps.length ≤ LIM) (h1 : 1 < m) (h2 : m < 4096) (hp : isPrP m = true) :
    ∃ T' z4, whileN lfC lfB FUEL [z0, some (.loc S.length), z2, some (.loc (S.length + 1)), none, none] (S ++ SO.dK (ps.map kvN) :: [.lst [.int m]]) = .next [z0, some (.loc S.length), z2, some (.loc (S.length + 1)), z4, none] (S ++ SO.dK ((putI ps m (vI ps m + 1)).map kvN) :: .lst [] :: T') := by
  obtain ⟨f, hf⟩ : ∃ f, FUEL = f + 1 + 1 := ⟨FUEL - 2, by rw [FUEL_eq]⟩
  rw [hf]
  have e2 : (S ++ SO.dK (ps.map kvN) :: [SO.lst [.int m]]).length = S.length + 2 := by simp
  have g1 : (S ++ SO.dK (ps.map kvN) :: [SO.lst [.int m]] ++ [SO.lst []])[S.length + 1]? = some (.lst [.int m]) := by
    rw [List.append_assoc]
    exact at_end1
  have g2 : (S ++ SO.dK (ps.map kvN) :: [SO.lst [.int m]] ++ [SO.lst []])[S.length + 2]? = some (.lst []) := by
    rw [← e2]
    simp
  have hne := neM_lsts (xs := [m]) (ys := []) g1 g2
  have n1 : S ++ SO.dK (ps.map kvN) :: [SO.lst [.int m]] ++ [SO.lst []] = S ++ SO.dK (ps.map kvN) :: .lst [.int m] :: [.lst []] := by simp
  have pop : mBM popM (mV 3) mNil [z0, some (.loc S.length), z2, some (.loc (S.length + 1)), none, none] (S ++ SO.dK (ps.map kvN) :: [.lst [.int m]] ++ [SO.lst []]) = .ok (.int m) (S ++ SO.dK (ps.map kvN) :: .lst [] :: [.lst []]) := by
    rw [mBM_popM (by simp only [msSeq, OutS.thenS, msAsg, msPar, msIf, msRet, msRetN, msAug, msRaise, msNil, msExpr, msSub, Out.toS, Out.bind, mV, mC, mBin, mTest, mCons, mNil, mTup, mIfE, mNeg, mCB, mCall, mChain, mAnd, mOr, mNot, bindT, setAll, startM, OutS.end_, List.getElem?_cons_zero, List.getElem?_cons_succ, List.set_cons_zero, List.set_cons_succ, List.map_cons, List.map_nil, List.length_cons, List.length_nil, List.replicate, List.append_nil, List.nil_append, List.cons_append, if_true, if_false, eqM_int, neM_int, addM_int, subM_int, modM_pos, cmpM_int, Nat.zero_add, Nat.reduceAdd, Nat.reduceSub, LIM0, LIM1, LIM2, LIM3, LIM4, LIM5]) g1, n1, set_end1]
  have ip := is_prime_eq (n := m) (S := S ++ SO.dK (ps.map kvN) :: .lst [] :: [.lst []]) h1 h2
  rw [hp] at ip
  have g := dget_at (S := S) (T := .lst [] :: [.lst []]) (ps := ps) (k := m) (ρ := [z0, some (.loc S.length), z2, some (.loc (S.length + 1)), some (.int m), none]) (mo := mV 1) (mk := mV 4) rfl rfl
  obtain ⟨T', e⟩ := lf_end (S := S) (T := [.lst []]) (o := SO.dK ((putI ps m (vI ps m + 1)).map kvN)) (z0 := z0) (z2 := z2) (z4 := some (.int m)) (z5 := none) (g := f)
  refine ⟨T', some (.int m), ?_⟩
  rw [← e]
  refine while_go (S1 := S ++ SO.dK (ps.map kvN) :: [.lst [.int m]] ++ [SO.lst []]) ?_ ?_
  · simp only [msSeq, OutS.thenS, msAsg, msPar, msIf, msRet, msRetN, msAug, msRaise, msNil, msExpr, msSub, Out.toS, Out.bind, mV, mC, mBin, mTest, mCons, mNil, mTup, mIfE, mNeg, mCB, mCall, mChain, mAnd, mOr, mNot, bindT, setAll, startM, OutS.end_, List.getElem?_cons_zero, List.getElem?_cons_succ, List.set_cons_zero, List.set_cons_succ, List.map_cons, List.map_nil, List.length_cons, List.length_nil, List.replicate, List.append_nil, List.nil_append, List.cons_append, if_true, if_false, eqM_int, neM_int, addM_int, subM_int, modM_pos, cmpM_int, Nat.zero_add, Nat.reduceAdd, Nat.reduceSub, LIM0, LIM1, LIM2, LIM3, LIM4, LIM5, mLst, e2]
    rw [hne]
    simp
  · simp only [msSeq, OutS.thenS, msAsg, msPar, msIf, msRet, msRetN, msAug, msRaise, msNil, msExpr, msSub, Out.toS, Out.bind, mV, mC, mBin, mTest, mCons, mNil, mTup, mIfE, mNeg, mCB, mCall, mChain, mAnd, mOr, mNot, bindT, setAll, startM, OutS.end_, List.getElem?_cons_zero, List.getElem?_cons_succ, List.set_cons_zero, List.set_cons_succ, List.map_cons, List.map_nil, List.length_cons, List.length_nil, List.replicate, List.append_nil, List.nil_append, List.cons_append, if_true, if_false, eqM_int, neM_int, addM_int, subM_int, modM_pos, cmpM_int, Nat.zero_add, Nat.reduceAdd, Nat.reduceSub, LIM0, LIM1, LIM2, LIM3, LIM4, LIM5, pop, ip, g, dput_at hl]
theorem tuple_last {X : Store} {xs : List Mx.D} : tupleM [.loc X.length] (X ++ [.lst xs]) = .ok (.tup xs) (X ++ [.lst xs]) := by
  unfold tupleM
  have h : (X ++ [SO.lst xs])[X.length]? = some (.lst xs) := by simp
  first
    | (simp only [seqOf, h])
    | (dsimp only; rw [h])
theorem pairs_blw {m : Nat} : ∀ ps : List (Int × Int), D.blws m (ps.map pairD) = true
  | [] => rfl
  | p :: ps => by
    show (D.blw m (pairD p) && D.blws m (ps.map pairD)) = true
    rw [pairs_blw ps]
    rfl
theorem parts_eq {n : Int} {S : Store} (h0 : 0 < n) (h1 : n < 4096) (hp : ∀ m, m = (outP 2000 n 2 []).1 → 1 < m → isPrP m = true) : f_parts [.int n] S = .ok (.tup ((parL n).map pairD)) S := by
  obtain ⟨p', e1, q1, q2, q3⟩ := ou_loop S [] none none none 2000 n 2 [] FUEL h0 (by omega) (by decide) (by decide) (by decide) (by rw [FUEL_eq]; decide) (by simp [LIM])
  have pw : ∀ S, powM (.int 10) (.int 16) S = .ok (.int (10 ^ 16)) S := fun S => by
    unfold powM
    exact if_pos ⟨by decide, by decide, by decide⟩
  have hlt : ¬ n < 1 := by omega
  have hgt : ¬ 10 ^ 16 < n := by omega
  have key : ∃ T, m_parts (startM 6 [.int n]) S = .ret (.tup ((parL n).map pairD)) (S ++ T) := by
    unfold m_parts msWhile
    simp only [msSeq, OutS.thenS, msAsg, msPar, msIf, msRet, msRetN, msAug, msRaise, msNil, msExpr, msSub, Out.toS, Out.bind, mV, mC, mBin, mTest, mCons, mNil, mTup, mIfE, mNeg, mCB, mCall, mChain, mAnd, mOr, mNot, bindT, setAll, startM, OutS.end_, List.getElem?_cons_zero, List.getElem?_cons_succ, List.set_cons_zero, List.set_cons_succ, List.map_cons, List.map_nil, List.length_cons, List.length_nil, List.replicate, List.append_nil, List.nil_append, List.cons_append, if_true, if_false, eqM_int, neM_int, addM_int, subM_int, modM_pos, cmpM_int, Nat.zero_add, Nat.reduceAdd, Nat.reduceSub, LIM0, LIM1, LIM2, LIM3, LIM4, LIM5, hlt, hgt, decide_false, pw, mDNew]
    have e1' : whileN ouC ouB FUEL [some (.int n), some (.loc S.length), some (.int 2), none, none, none] (S ++ [SO.dK []]) = _ := e1
    simp only [ouC, ouB, msWhile, inC, inB] at e1'
    rw [e1']
    unfold parL
    dsimp only
    have hb : (outP 2000 n 2 []).1 < 4096 := by omega
    have hp' := hp _ rfl
    generalize (outP 2000 n 2 []).1 = m at *
    generalize (outP 2000 n 2 []).2 = ps at *
    have hps : ps.length ≤ 40000 := by simpa using q3
    have hl : ps.length ≤ LIM := by unfold LIM; omega
    have e2 : (S ++ [SO.dK (ps.map kvN)]).length = S.length + 1 := by simp
    have fin2 : ∀ (T : Store) (ps : List (Int × Int)) (z0 z2 z3 z4 z5 : Option Mx.D), ps.length ≤ LIM → ∃ T', (msRet (mCB tupleM (mCons (mSortItems (mV 1)) mNil))) [z0, some (.loc S.length), z2, z3, z4, z5] (S ++ SO.dK (ps.map kvN) :: T) = .ret (.tup ((sortP ps).map pairD)) (S ++ T') := by
      intro T ps z0 z2 z3 z4 z5 hl
      refine ⟨SO.dK (ps.map kvN) :: T ++ [.lst ((sortP ps).map pairD)], ?_⟩
      have hs : mSortItems (mV 1) [z0, some (.loc S.length), z2, z3, z4, z5] (S ++ SO.dK (ps.map kvN) :: T) = .ok (.loc (S ++ SO.dK (ps.map kvN) :: T).length) (S ++ SO.dK (ps.map kvN) :: T ++ [.lst ((sortP ps).map pairD)]) := by
        unfold mSortItems
        simp only [mV, Out.bind, List.getElem?_cons_zero, List.getElem?_cons_succ, at_end, asPairs_kv]
        rw [if_pos hl]
      simp only [msRet, mCB, mCons, mNil, Out.toS, Out.bind, hs, tuple_last]
      rw [List.append_assoc]
    by_cases hm : 1 < m
    · obtain ⟨T', z4, e3⟩ := lf_loop (S := S) (ps := ps) (m := m) (z0 := some (.int m)) (z2 := some (.int p')) hl hm hb (hp' hm)
      rw [if_pos hm]
      have hput := putI_len ps m (vI ps m + 1)
      obtain ⟨T2, e4⟩ := fin2 (.lst [] :: T') (putI ps m (vI ps m + 1)) (some (.int m)) (some (.int p')) (some (.loc (S.length + 1))) z4 none (by unfold LIM at *; omega)
      simp only [msSeq, OutS.thenS, msAsg, msPar, msIf, msRet, msRetN, msAug, msRaise, msNil, msExpr, msSub, Out.toS, Out.bind, mV, mC, mBin, mTest, mCons, mNil, mTup, mIfE, mNeg, mCB, mCall, mChain, mAnd, mOr, mNot, bindT, setAll, startM, OutS.end_, List.getElem?_cons_zero, List.getElem?_cons_succ, List.set_cons_zero, List.set_cons_succ, List.map_cons, List.map_nil, List.length_cons, List.length_nil, List.replicate, List.append_nil, List.nil_append, List.cons_append, if_true, if_false, eqM_int, neM_int, addM_int, subM_int, modM_pos, cmpM_int, Nat.zero_add, Nat.reduceAdd, Nat.reduceSub, LIM0, LIM1, LIM2, LIM3, LIM4, LIM5, hm, decide_true, mLst, e2]
      rw [show S ++ [SO.dK (ps.map kvN)] ++ [SO.lst [Mx.D.int m]] = S ++ SO.dK (ps.map kvN) :: [.lst [.int m]] by simp]
      simp only [lfC, lfB] at e3
      have e3' := e3
      rw [e3']
      dsimp only
      exact ⟨T2, e4⟩
    · obtain ⟨T', e3⟩ := lf_end (S := S) (T := []) (o := SO.dK (ps.map kvN)) (z0 := some (.int m)) (z2 := some (.int p')) (z4 := none) (z5 := none) (g := FUEL - 1)
      rw [if_neg hm]
      obtain ⟨T2, e4⟩ := fin2 (.lst [] :: T') ps (some (.int m)) (some (.int p')) (some (.loc (S.length + 1))) none none hl
      simp only [msSeq, OutS.thenS, msAsg, msPar, msIf, msRet, msRetN, msAug, msRaise, msNil, msExpr, msSub, Out.toS, Out.bind, mV, mC, mBin, mTest, mCons, mNil, mTup, mIfE, mNeg, mCB, mCall, mChain, mAnd, mOr, mNot, bindT, setAll, startM, OutS.end_, List.getElem?_cons_zero, List.getElem?_cons_succ, List.set_cons_zero, List.set_cons_succ, List.map_cons, List.map_nil, List.length_cons, List.length_nil, List.replicate, List.append_nil, List.nil_append, List.cons_append, if_true, if_false, eqM_int, neM_int, addM_int, subM_int, modM_pos, cmpM_int, Nat.zero_add, Nat.reduceAdd, Nat.reduceSub, LIM0, LIM1, LIM2, LIM3, LIM4, LIM5, hm, decide_false, mLst, e2]
      rw [show S ++ [SO.dK (ps.map kvN)] ++ [SO.lst []] = S ++ SO.dK (ps.map kvN) :: .lst [] :: [] by simp]
      rw [show FUEL - 1 + 1 = FUEL by rw [FUEL_eq]] at e3
      simp only [lfC, lfB] at e3
      rw [e3]
      dsimp only
      exact ⟨T2, e4⟩
  obtain ⟨T, key⟩ := key
  unfold f_parts fnM
  rw [key]
  exact fin_app (pairs_blw _)
end K01
set_option Elab.async false
set_option linter.all false
set_option maxRecDepth 100000
set_option maxHeartbeats 2000000
/-! k01: count_apart, weight, turns. -/
namespace K01
open PySem Mx
def chkP (k : Nat) : Bool := k == 0 || (let m := (outP 2000 (Int.ofNat k) 2 []).1; decide (m ≤ 1) || isPrP m) && ((parL (Int.ofNat k)).all fun q => decide (1 < q.1) && decide (q.1 ≤ 300) && decide (0 < q.2) && decide (q.2 ≤ 8)) && decide ((parL (Int.ofNat k)).length ≤ 10)
theorem chkP_all : (List.range 301).all chkP = true := by decide +kernel
theorem chkP_at {n : Int} (h0 : 0 < n) (h1 : n ≤ 300) : (∀ m, m = (outP 2000 n 2 []).1 → 1 < m → isPrP m = true) ∧ (∀ q ∈ parL n, 1 < q.1 ∧ q.1 ≤ 300 ∧ 0 < q.2 ∧ q.2 ≤ 8) ∧ (parL n).length ≤ 10 := by
  obtain ⟨k, rfl⟩ := Int.eq_ofNat_of_zero_le (show 0 ≤ n by omega)
  have h := List.all_eq_true.mp chkP_all k (List.mem_range.mpr (by omega))
  unfold chkP at h
  rw [show (k == 0) = false by simp; omega, Bool.false_or, Bool.and_eq_true, Bool.and_eq_true] at h
  refine ⟨fun m hm h1 => ?_, fun q hq => ?_, of_decide_eq_true h.2⟩
  · have h2 := h.1.1
    rw [Bool.or_eq_true] at h2
    rcases h2 with z | z
    · have := of_decide_eq_true z
      rw [hm] at h1
      exact absurd h1 (by show ¬ (1 < (outP 2000 (Int.ofNat k) 2 []).1); omega)
    · rw [hm]; exact z
  · have h2 := List.all_eq_true.mp h.1.2 q hq
    simp only [Bool.and_eq_true, decide_eq_true_eq] at h2
    exact ⟨h2.1.1.1, h2.1.1.2, h2.1.2, h2.2⟩
theorem parts_at {n : Int} {S : Store} (h0 : 0 < n) (h1 : n ≤ 300) : f_parts [.int n] S = .ok (.tup ((parL n).map pairD)) S := parts_eq h0 (by omega) (chkP_at h0 h1).1
theorem parts_no {n : Int} {S : Store} (h0 : n < 1) : f_parts [.int n] S = .exc ⟨"BadNumber", none⟩ S := by
  have h : ∃ ρ, m_parts (startM 6 [.int n]) S = .exc ⟨"BadNumber", none⟩ ρ S := by
    unfold m_parts
    simp only [msSeq, OutS.thenS, msAsg, msPar, msIf, msRet, msRetN, msAug, msRaise, msNil, msExpr, msSub, Out.toS, Out.bind, mV, mC, mBin, mTest, mCons, mNil, mTup, mIfE, mNeg, mCB, mCall, mChain, mAnd, mOr, mNot, bindT, setAll, startM, OutS.end_, List.getElem?_cons_zero, List.getElem?_cons_succ, List.set_cons_zero, List.set_cons_succ, List.map_cons, List.map_nil, List.length_cons, List.length_nil, List.replicate, List.append_nil, List.nil_append, List.cons_append, if_true, if_false, eqM_int, neM_int, addM_int, subM_int, modM_pos, cmpM_int, Nat.zero_add, Nat.reduceAdd, Nat.reduceSub, LIM0, LIM1, LIM2, LIM3, LIM4, LIM5, h0, decide_true]
    exact ⟨_, rfl⟩
  obtain ⟨ρ, h⟩ := h
  unfold f_parts fnM
  rw [h]
  exact fin_exc0
/-! ### count_apart -/
def cntF (f : Int) (q : Int × Int) : Int := f / q.1 * (q.1 - 1)
def cntL (n : Int) : Int := (parL n).foldl cntF n
theorem cntF_le {f : Int} {q : Int × Int} (hf : 0 ≤ f) (hq : 1 < q.1) : 0 ≤ cntF f q ∧ cntF f q ≤ f := by
  unfold cntF
  have h1 : 0 ≤ f / q.1 := Int.ediv_nonneg hf (by omega)
  have h2 : f / q.1 * q.1 ≤ f := Int.ediv_mul_le f (by omega)
  have h3 := Int.mul_nonneg h1 (show 0 ≤ q.1 - 1 by omega)
  have h4 : f / q.1 * (q.1 - 1) = f / q.1 * q.1 - f / q.1 := by rw [Int.mul_sub, Int.mul_one]
  omega
theorem ct_loop (S : Store) (s : Src) (hs : s.1 = none) (n : Int) : ∀ (l : List (Int × Int)) (f : Int) (z2 z3 : Option Mx.D), (∀ q ∈ l, 1 < q.1 ∧ q.1 ≤ 300) → 0 ≤ f → f < 4096 →
    ∃ w2 w3, forL s (.many [2, 3]) (msAsg (.one 1) (mBin mulM (mBin divM (mV 1) (mV 2)) (mBin subM (mV 2) (mC (.int 1))))) (l.map pairD) [some (.int n), some (.int f), z2, z3] S = .next [some (.int n), some (.int (l.foldl cntF f)), w2, w3] S ∧ 0 ≤ l.foldl cntF f ∧ l.foldl cntF f ≤ f := by
  have ok : okSrc s S = true := by unfold okSrc; rw [hs]
  intro l
  induction l with
  | nil => intro f z2 z3 _ h0 h1; exact ⟨z2, z3, for_nil ok, h0, Int.le_refl _⟩
  | cons q l ih =>
    intro f z2 z3 hq h0 h1
    have hq0 := hq q List.mem_cons_self
    have b := cntF_le h0 hq0.1
    obtain ⟨y2, y3, e, e1, e2⟩ := ih (cntF f q) (some (.int q.1)) (some (.int q.2)) (fun q' h' => hq q' (List.mem_cons_of_mem _ h')) b.1 (by omega)
    refine ⟨y2, y3, ?_, e1, by show l.foldl cntF (cntF f q) ≤ f; omega⟩
    rw [List.foldl_cons, ← e]
    have c1 : CDivM q.1 := cdiv (k := 20) (by omega) (by omega)
    have d0 : 0 ≤ f / q.1 := Int.ediv_nonneg h0 (by omega)
    have d1 : f / q.1 ≤ f := Int.ediv_le_self _ h0
    have c2 : CMulM (f / q.1) (q.1 - 1) := cmul (k := 12) (l := 12) (by omega) (by omega) (by decide)
    refine for_cons (ρ1 := [some (.int n), some (.int f), some (.int q.1), some (.int q.2)]) ok (by simp only [msSeq, OutS.thenS, msAsg, msPar, msIf, msRet, msRetN, msAug, msRaise, msNil, msExpr, msSub, Out.toS, Out.bind, mV, mC, mBin, mTest, mCons, mNil, mTup, mIfE, mNeg, mCB, mCall, mChain, mAnd, mOr, mNot, bindT, setAll, startM, OutS.end_, List.getElem?_cons_zero, List.getElem?_cons_succ, List.set_cons_zero, List.set_cons_succ, List.map_cons, List.map_nil, List.length_cons, List.length_nil, List.replicate, List.append_nil, List.nil_append, List.cons_append, if_true, if_false, eqM_int, neM_int, addM_int, subM_int, modM_pos, cmpM_int, Nat.zero_add, Nat.reduceAdd, Nat.reduceSub, LIM0, LIM1, LIM2, LIM3, LIM4, LIM5, pairD]) ?_
    simp only [msSeq, OutS.thenS, msAsg, msPar, msIf, msRet, msRetN, msAug, msRaise, msNil, msExpr, msSub, Out.toS, Out.bind, mV, mC, mBin, mTest, mCons, mNil, mTup, mIfE, mNeg, mCB, mCall, mChain, mAnd, mOr, mNot, bindT, setAll, startM, OutS.end_, List.getElem?_cons_zero, List.getElem?_cons_succ, List.set_cons_zero, List.set_cons_succ, List.map_cons, List.map_nil, List.length_cons, List.length_nil, List.replicate, List.append_nil, List.nil_append, List.cons_append, if_true, if_false, eqM_int, neM_int, addM_int, subM_int, modM_pos, cmpM_int, Nat.zero_add, Nat.reduceAdd, Nat.reduceSub, LIM0, LIM1, LIM2, LIM3, LIM4, LIM5, divM_pos c1 (show 0 < q.1 by omega), mulM_int c2]
    rfl
theorem count_eq {n : Int} {S : Store} (h0 : 0 < n) (h1 : n ≤ 300) : f_count_apart [.int n] S = .ok (.int (cntL n)) S ∧ 0 ≤ cntL n ∧ cntL n ≤ n := by
  obtain ⟨z2, z3, e, e1, e2⟩ := ct_loop S (none, (parL n).map pairD) rfl n (parL n) n none none (fun q hq => let h := (chkP_at h0 h1).2.1 q hq; ⟨h.1, h.2.1⟩) (by omega) (by omega)
  refine ⟨?_, e1, e2⟩
  have h : m_count_apart (startM 4 [.int n]) S = .ret (.int (cntL n)) S := by
    unfold m_count_apart msFor miSeq
    simp only [msSeq, OutS.thenS, msAsg, msPar, msIf, msRet, msRetN, msAug, msRaise, msNil, msExpr, msSub, Out.toS, Out.bind, mV, mC, mBin, mTest, mCons, mNil, mTup, mIfE, mNeg, mCB, mCall, mChain, mAnd, mOr, mNot, bindT, setAll, startM, OutS.end_, List.getElem?_cons_zero, List.getElem?_cons_succ, List.set_cons_zero, List.set_cons_succ, List.map_cons, List.map_nil, List.length_cons, List.length_nil, List.replicate, List.append_nil, List.nil_append, List.cons_append, if_true, if_false, eqM_int, neM_int, addM_int, subM_int, modM_pos, cmpM_int, Nat.zero_add, Nat.reduceAdd, Nat.reduceSub, LIM0, LIM1, LIM2, LIM3, LIM4, LIM5, parts_at h0 h1]
    rw [e]
    rfl
  unfold f_count_apart fnM
  rw [h]
  exact fin_same
/-! ### weight -/
def wtL (n : Int) : Int := if (parL n).any (fun q => decide (1 < q.2)) then 0 else 1 - 2 * (((parL n).length : Int) % 2)
theorem any_loop2 (S : Store) (s : Src) (hs : s.1 = none) (n : Int) (R : Mx.D) : ∀ l : List (Int × Int),
    genL s (.many [2, 3]) (mBin gtM (mV 3) (mC (.int 1))) [some (.int n), some R, none, none] (stB true) (fun _ => .bl false) (l.map pairD) () S = .ok (.bl (l.any fun q => decide (1 < q.2))) S := by
  have ok : okSrc s S = true := by unfold okSrc; rw [hs]
  intro l
  induction l with
  | nil => unfold genL; exact if_pos ok
  | cons q l ih =>
    have e : genAt s (.many [2, 3]) (mBin gtM (mV 3) (mC (.int 1))) [some (.int n), some R, none, none] (pairD q) S = some (.bl (decide (1 < q.2)), S) := by
      unfold genAt
      rw [if_pos ok]
      simp only [msSeq, OutS.thenS, msAsg, msPar, msIf, msRet, msRetN, msAug, msRaise, msNil, msExpr, msSub, Out.toS, Out.bind, mV, mC, mBin, mTest, mCons, mNil, mTup, mIfE, mNeg, mCB, mCall, mChain, mAnd, mOr, mNot, bindT, setAll, startM, OutS.end_, List.getElem?_cons_zero, List.getElem?_cons_succ, List.set_cons_zero, List.set_cons_succ, List.map_cons, List.map_nil, List.length_cons, List.length_nil, List.replicate, List.append_nil, List.nil_append, List.cons_append, if_true, if_false, eqM_int, neM_int, addM_int, subM_int, modM_pos, cmpM_int, Nat.zero_add, Nat.reduceAdd, Nat.reduceSub, LIM0, LIM1, LIM2, LIM3, LIM4, LIM5, pairD]
    rw [List.map_cons]
    unfold genL
    rw [e, List.any_cons]
    dsimp only
    cases decide (1 < q.2) with
    | true => rfl
    | false => exact ih
theorem weight_eq {n : Int} {S : Store} (h0 : 0 < n) (h1 : n ≤ 300) : f_weight [.int n] S = .ok (.int (wtL n)) S := by
  have h : m_weight (startM 4 [.int n]) S = .ret (.int (wtL n)) S := by
    have c : CMulM 2 (((parL n).length : Int) % 2) := cmul (k := 2) (l := 2) (by decide) (by omega) (by decide)
    have al := any_loop2 S (none, (parL n).map pairD) rfl n (.tup ((parL n).map pairD)) (parL n)
    have w : wipeM [some (Mx.D.int n), some (.tup ((parL n).map pairD)), none, none] [2, 3] = [some (.int n), some (.tup ((parL n).map pairD)), none, none] := rfl
    unfold m_weight mAnyG miSeq wtL
    simp only [msSeq, OutS.thenS, msAsg, msPar, msIf, msRet, msRetN, msAug, msRaise, msNil, msExpr, msSub, Out.toS, Out.bind, mV, mC, mBin, mTest, mCons, mNil, mTup, mIfE, mNeg, mCB, mCall, mChain, mAnd, mOr, mNot, bindT, setAll, startM, OutS.end_, List.getElem?_cons_zero, List.getElem?_cons_succ, List.set_cons_zero, List.set_cons_succ, List.map_cons, List.map_nil, List.length_cons, List.length_nil, List.replicate, List.append_nil, List.nil_append, List.cons_append, if_true, if_false, eqM_int, neM_int, addM_int, subM_int, modM_pos, cmpM_int, Nat.zero_add, Nat.reduceAdd, Nat.reduceSub, LIM0, LIM1, LIM2, LIM3, LIM4, LIM5, parts_at h0 h1]
    rw [w, show (!true) = false from rfl, al]
    simp only [msSeq, OutS.thenS, msAsg, msPar, msIf, msRet, msRetN, msAug, msRaise, msNil, msExpr, msSub, Out.toS, Out.bind, mV, mC, mBin, mTest, mCons, mNil, mTup, mIfE, mNeg, mCB, mCall, mChain, mAnd, mOr, mNot, bindT, setAll, startM, OutS.end_, List.getElem?_cons_zero, List.getElem?_cons_succ, List.set_cons_zero, List.set_cons_succ, List.map_cons, List.map_nil, List.length_cons, List.length_nil, List.replicate, List.append_nil, List.nil_append, List.cons_append, if_true, if_false, eqM_int, neM_int, addM_int, subM_int, modM_pos, cmpM_int, Nat.zero_add, Nat.reduceAdd, Nat.reduceSub, LIM0, LIM1, LIM2, LIM3, LIM4, LIM5]
    cases (parL n).any (fun q => decide (1 < q.2)) with
    | true => rfl
    | false => simp only [msSeq, OutS.thenS, msAsg, msPar, msIf, msRet, msRetN, msAug, msRaise, msNil, msExpr, msSub, Out.toS, Out.bind, mV, mC, mBin, mTest, mCons, mNil, mTup, mIfE, mNeg, mCB, mCall, mChain, mAnd, mOr, mNot, bindT, setAll, startM, OutS.end_, List.getElem?_cons_zero, List.getElem?_cons_succ, List.set_cons_zero, List.set_cons_succ, List.map_cons, List.map_nil, List.length_cons, List.length_nil, List.replicate, List.append_nil, List.nil_append, List.cons_append, if_true, if_false, eqM_int, neM_int, addM_int, subM_int, modM_pos, cmpM_int, Nat.zero_add, Nat.reduceAdd, Nat.reduceSub, LIM0, LIM1, LIM2, LIM3, LIM4, LIM5, lenM, seqOf, List.length_map, modM_pos (show (0 : Int) < 2 by decide), mulM_int c, Bool.false_eq_true, if_false]
  unfold f_weight fnM
  rw [h]
  exact fin_same
/-! ### turns -/
def trIn (a n p : Int) : Nat → Int → Int
  | 0, f => f
  | k + 1, f => trIn a n p k (if a ^ (f / p).toNat % n = 1 % n then f / p else f)
def trF (a n : Int) (f : Int) (q : Int × Int) : Int := trIn a n q.1 q.2.toNat f
def trL (a n : Int) : Int := (if 1 < cntL n then parL (cntL n) else []).foldl (trF a n) (cntL n)
abbrev tiB : MS := msIf (mTest (mBin eqM (mCall 3 f_power (mCons (mV 0) (mCons (mBin divM (mV 2) (mV 3)) (mCons (mV 1) mNil)))) (mBin modM (mC (.int 1)) (mV 1)))) (msAug 2 idivM (mV 3)) msNil
theorem ti_loop (S : Store) (s : Src) (hs : s.1 = none) (a n p m : Int) (hn : 0 < n) (hn2 : n < 4096) (hp : 1 < p) (hp2 : p ≤ 300) : ∀ (k : Nat) (lo f : Int) (z5 : Option Mx.D), 0 ≤ f → f < 4096 →
    ∃ w5, forL s (.one 5) tiB (rangeD lo k) [some (.int a), some (.int n), some (.int f), some (.int p), some (.int m), z5] S = .next [some (.int a), some (.int n), some (.int (trIn a n p k f)), some (.int p), some (.int m), w5] S ∧ 0 ≤ trIn a n p k f ∧ trIn a n p k f ≤ f := by
  have ok : okSrc s S = true := by unfold okSrc; rw [hs]
  intro k
  induction k with
  | zero => intro lo f z5 h0 h1; exact ⟨z5, for_nil ok, h0, Int.le_refl _⟩
  | succ k ih =>
    intro lo f z5 h0 h1
    have c1 : CDivM p := cdiv (k := 20) (by omega) (by omega)
    have d0 : 0 ≤ f / p := Int.ediv_nonneg h0 (by omega)
    have d1 : f / p ≤ f := Int.ediv_le_self _ h0
    have pw := power_eq (a := a) (m := f / p) (n := n) (S := S) hn hn2 d0 (by omega)
    show ∃ w5, forL s (.one 5) tiB (Mx.D.int lo :: rangeD (lo + 1) k) _ S = _ ∧ _
    by_cases hq : a ^ (f / p).toNat % n = 1 % n
    · have e0 : trIn a n p (k + 1) f = trIn a n p k (f / p) := by show trIn a n p k (if _ then _ else _) = _; rw [if_pos hq]
      obtain ⟨y, e, e1, e2⟩ := ih (lo + 1) (f / p) (some (.int lo)) d0 (by omega)
      refine ⟨y, ?_, by rw [e0]; exact e1, by rw [e0]; omega⟩
      rw [e0, ← e]
      refine for_cons (ρ1 := [some (.int a), some (.int n), some (.int f), some (.int p), some (.int m), some (.int lo)]) ok (by simp only [msSeq, OutS.thenS, msAsg, msPar, msIf, msRet, msRetN, msAug, msRaise, msNil, msExpr, msSub, Out.toS, Out.bind, mV, mC, mBin, mTest, mCons, mNil, mTup, mIfE, mNeg, mCB, mCall, mChain, mAnd, mOr, mNot, bindT, setAll, startM, OutS.end_, List.getElem?_cons_zero, List.getElem?_cons_succ, List.set_cons_zero, List.set_cons_succ, List.map_cons, List.map_nil, List.length_cons, List.length_nil, List.replicate, List.append_nil, List.nil_append, List.cons_append, if_true, if_false, eqM_int, neM_int, addM_int, subM_int, modM_pos, cmpM_int, Nat.zero_add, Nat.reduceAdd, Nat.reduceSub, LIM0, LIM1, LIM2, LIM3, LIM4, LIM5]) ?_
      simp only [msSeq, OutS.thenS, msAsg, msPar, msIf, msRet, msRetN, msAug, msRaise, msNil, msExpr, msSub, Out.toS, Out.bind, mV, mC, mBin, mTest, mCons, mNil, mTup, mIfE, mNeg, mCB, mCall, mChain, mAnd, mOr, mNot, bindT, setAll, startM, OutS.end_, List.getElem?_cons_zero, List.getElem?_cons_succ, List.set_cons_zero, List.set_cons_succ, List.map_cons, List.map_nil, List.length_cons, List.length_nil, List.replicate, List.append_nil, List.nil_append, List.cons_append, if_true, if_false, eqM_int, neM_int, addM_int, subM_int, modM_pos, cmpM_int, Nat.zero_add, Nat.reduceAdd, Nat.reduceSub, LIM0, LIM1, LIM2, LIM3, LIM4, LIM5, divM_pos c1 (show 0 < p by omega), idivM_pos c1 (show 0 < p by omega), pw, modM_pos hn, hq, decide_true]
    · have e0 : trIn a n p (k + 1) f = trIn a n p k f := by show trIn a n p k (if _ then _ else _) = _; rw [if_neg hq]
      obtain ⟨y, e, e1, e2⟩ := ih (lo + 1) f (some (.int lo)) h0 h1
      refine ⟨y, ?_, by rw [e0]; exact e1, by rw [e0]; omega⟩
      rw [e0, ← e]
      refine for_cons (ρ1 := [some (.int a), some (.int n), some (.int f), some (.int p), some (.int m), some (.int lo)]) ok (by simp only [msSeq, OutS.thenS, msAsg, msPar, msIf, msRet, msRetN, msAug, msRaise, msNil, msExpr, msSub, Out.toS, Out.bind, mV, mC, mBin, mTest, mCons, mNil, mTup, mIfE, mNeg, mCB, mCall, mChain, mAnd, mOr, mNot, bindT, setAll, startM, OutS.end_, List.getElem?_cons_zero, List.getElem?_cons_succ, List.set_cons_zero, List.set_cons_succ, List.map_cons, List.map_nil, List.length_cons, List.length_nil, List.replicate, List.append_nil, List.nil_append, List.cons_append, if_true, if_false, eqM_int, neM_int, addM_int, subM_int, modM_pos, cmpM_int, Nat.zero_add, Nat.reduceAdd, Nat.reduceSub, LIM0, LIM1, LIM2, LIM3, LIM4, LIM5]) ?_
      simp only [msSeq, OutS.thenS, msAsg, msPar, msIf, msRet, msRetN, msAug, msRaise, msNil, msExpr, msSub, Out.toS, Out.bind, mV, mC, mBin, mTest, mCons, mNil, mTup, mIfE, mNeg, mCB, mCall, mChain, mAnd, mOr, mNot, bindT, setAll, startM, OutS.end_, List.getElem?_cons_zero, List.getElem?_cons_succ, List.set_cons_zero, List.set_cons_succ, List.map_cons, List.map_nil, List.length_cons, List.length_nil, List.replicate, List.append_nil, List.nil_append, List.cons_append, if_true, if_false, eqM_int, neM_int, addM_int, subM_int, modM_pos, cmpM_int, Nat.zero_add, Nat.reduceAdd, Nat.reduceSub, LIM0, LIM1, LIM2, LIM3, LIM4, LIM5, divM_pos c1 (show 0 < p by omega), pw, modM_pos hn, hq, decide_false]
theorem to_loop (S : Store) (s : Src) (hs : s.1 = none) (a n : Int) (hn : 0 < n) (hn2 : n < 4096) : ∀ (l : List (Int × Int)) (f : Int) (z3 z4 z5 : Option Mx.D), (∀ q ∈ l, 1 < q.1 ∧ q.1 ≤ 300 ∧ 0 < q.2 ∧ q.2 ≤ 8) → 0 ≤ f → f < 4096 →
    ∃ w3 w4 w5, forL s (.many [3, 4]) (msFor (miRange1 (mCons (mV 4) mNil)) (.one 5) tiB) (l.map pairD) [some (.int a), some (.int n), some (.int f), z3, z4, z5] S = .next [some (.int a), some (.int n), some (.int (l.foldl (trF a n) f)), w3, w4, w5] S := by
  have ok : okSrc s S = true := by unfold okSrc; rw [hs]
  intro l
  induction l with
  | nil => intro f z3 z4 z5 _ h0 h1; exact ⟨z3, z4, z5, for_nil ok⟩
  | cons q l ih =>
    intro f z3 z4 z5 hq h0 h1
    have hq0 := hq q List.mem_cons_self
    have hr : inR q.2 = true := by unfold inR; exact decide_eq_true (by omega)
    obtain ⟨y5, e, e1, e2⟩ := ti_loop S (none, rangeD 0 q.2.toNat) rfl a n q.1 q.2 hn hn2 hq0.1 hq0.2.1 q.2.toNat 0 f z5 h0 h1
    obtain ⟨x3, x4, x5, i⟩ := ih (trF a n f q) (some (.int q.1)) (some (.int q.2)) y5 (fun q' h' => hq q' (List.mem_cons_of_mem _ h')) e1 (by show trIn a n q.1 q.2.toNat f < 4096; omega)
    refine ⟨x3, x4, x5, ?_⟩
    rw [List.foldl_cons, ← i]
    refine for_cons (ρ1 := [some (.int a), some (.int n), some (.int f), some (.int q.1), some (.int q.2), z5]) ok (by simp only [msSeq, OutS.thenS, msAsg, msPar, msIf, msRet, msRetN, msAug, msRaise, msNil, msExpr, msSub, Out.toS, Out.bind, mV, mC, mBin, mTest, mCons, mNil, mTup, mIfE, mNeg, mCB, mCall, mChain, mAnd, mOr, mNot, bindT, setAll, startM, OutS.end_, List.getElem?_cons_zero, List.getElem?_cons_succ, List.set_cons_zero, List.set_cons_succ, List.map_cons, List.map_nil, List.length_cons, List.length_nil, List.replicate, List.append_nil, List.nil_append, List.cons_append, if_true, if_false, eqM_int, neM_int, addM_int, subM_int, modM_pos, cmpM_int, Nat.zero_add, Nat.reduceAdd, Nat.reduceSub, LIM0, LIM1, LIM2, LIM3, LIM4, LIM5, pairD]) ?_
    unfold msFor miRange1
    simp only [msSeq, OutS.thenS, msAsg, msPar, msIf, msRet, msRetN, msAug, msRaise, msNil, msExpr, msSub, Out.toS, Out.bind, mV, mC, mBin, mTest, mCons, mNil, mTup, mIfE, mNeg, mCB, mCall, mChain, mAnd, mOr, mNot, bindT, setAll, startM, OutS.end_, List.getElem?_cons_zero, List.getElem?_cons_succ, List.set_cons_zero, List.set_cons_succ, List.map_cons, List.map_nil, List.length_cons, List.length_nil, List.replicate, List.append_nil, List.nil_append, List.cons_append, if_true, if_false, eqM_int, neM_int, addM_int, subM_int, modM_pos, cmpM_int, Nat.zero_add, Nat.reduceAdd, Nat.reduceSub, LIM0, LIM1, LIM2, LIM3, LIM4, LIM5, hr]
    simp only [tiB] at e
    rw [e]
    rfl
theorem turns_eq {a n : Int} {S : Store} (h0 : 0 < n) (h1 : n ≤ 300) (hg : Int.gcd a n = 1) : f_turns [.int a, .int n] S = .ok (.int (trL a n)) S := by
  obtain ⟨hc, hc0, hc1⟩ := count_eq (n := n) (S := S) h0 h1
  have hg' : (Int.gcd a n : Int) = 1 := by omega
  have sh := shared_eq (a := a) (b := n) (S := S) (by omega)
  rw [hg'] at sh
  have h : m_turns (startM 6 [.int a, .int n]) S = .ret (.int (trL a n)) S := by
    unfold m_turns miSeq trL
    by_cases hk : 1 < cntL n
    · obtain ⟨z3, z4, z5, e⟩ := to_loop S (none, (parL (cntL n)).map pairD) rfl a n h0 (by omega) (parL (cntL n)) (cntL n) none none none (chkP_at (show 0 < cntL n by omega) (by omega)).2.1 hc0 (by omega)
      simp only [msSeq, OutS.thenS, msAsg, msPar, msIf, msRet, msRetN, msAug, msRaise, msNil, msExpr, msSub, Out.toS, Out.bind, mV, mC, mBin, mTest, mCons, mNil, mTup, mIfE, mNeg, mCB, mCall, mChain, mAnd, mOr, mNot, bindT, setAll, startM, OutS.end_, List.getElem?_cons_zero, List.getElem?_cons_succ, List.set_cons_zero, List.set_cons_succ, List.map_cons, List.map_nil, List.length_cons, List.length_nil, List.replicate, List.append_nil, List.nil_append, List.cons_append, if_true, if_false, eqM_int, neM_int, addM_int, subM_int, modM_pos, cmpM_int, Nat.zero_add, Nat.reduceAdd, Nat.reduceSub, LIM0, LIM1, LIM2, LIM3, LIM4, LIM5, msFor_ap, sh, decide_true, Bool.not_true, hc, hk, parts_at (show 0 < cntL n by omega) (show cntL n ≤ 300 by omega)]
      simp only [tiB] at e
      rw [e]
      rfl
    · simp only [msSeq, OutS.thenS, msAsg, msPar, msIf, msRet, msRetN, msAug, msRaise, msNil, msExpr, msSub, Out.toS, Out.bind, mV, mC, mBin, mTest, mCons, mNil, mTup, mIfE, mNeg, mCB, mCall, mChain, mAnd, mOr, mNot, bindT, setAll, startM, OutS.end_, List.getElem?_cons_zero, List.getElem?_cons_succ, List.set_cons_zero, List.set_cons_succ, List.map_cons, List.map_nil, List.length_cons, List.length_nil, List.replicate, List.append_nil, List.nil_append, List.cons_append, if_true, if_false, eqM_int, neM_int, addM_int, subM_int, modM_pos, cmpM_int, Nat.zero_add, Nat.reduceAdd, Nat.reduceSub, LIM0, LIM1, LIM2, LIM3, LIM4, LIM5, msFor_ap, sh, decide_true, Bool.not_true, hc, hk, decide_false]
      rfl
  unfold f_turns fnM
  rw [h]
  exact fin_same
theorem turns_no {a n : Int} {S : Store} (h0 : 0 < n) (h1 : n ≤ 300) (hg : Int.gcd a n ≠ 1) : f_turns [.int a, .int n] S = .exc ⟨"NoWay", none⟩ S := by
  have sh := shared_eq (a := a) (b := n) (S := S) (by omega)
  have hne : ¬ ((Int.gcd a n : Int) = 1) := by omega
  have h : ∃ ρ, m_turns (startM 6 [.int a, .int n]) S = .exc ⟨"NoWay", none⟩ ρ S := by
    unfold m_turns
    simp only [msSeq, OutS.thenS, msAsg, msPar, msIf, msRet, msRetN, msAug, msRaise, msNil, msExpr, msSub, Out.toS, Out.bind, mV, mC, mBin, mTest, mCons, mNil, mTup, mIfE, mNeg, mCB, mCall, mChain, mAnd, mOr, mNot, bindT, setAll, startM, OutS.end_, List.getElem?_cons_zero, List.getElem?_cons_succ, List.set_cons_zero, List.set_cons_succ, List.map_cons, List.map_nil, List.length_cons, List.length_nil, List.replicate, List.append_nil, List.nil_append, List.cons_append, if_true, if_false, eqM_int, neM_int, addM_int, subM_int, modM_pos, cmpM_int, Nat.zero_add, Nat.reduceAdd, Nat.reduceSub, LIM0, LIM1, LIM2, LIM3, LIM4, LIM5, sh, hne, decide_false, Bool.not_false]
    exact ⟨_, rfl⟩
  obtain ⟨ρ, h⟩ := h
  unfold f_turns fnM
  rw [h]
  exact fin_exc0
end K01
set_option Elab.async false
set_option linter.all false
set_option maxRecDepth 100000
set_option maxHeartbeats 2000000
/-! k01: square_sign. -/
namespace K01
open PySem Mx
def flipB (n : Int) : Bool := decide (3 = n % 8) || decide (5 = n % 8)
def sgIn (n : Int) : Nat → Int → Int → Int × Int
  | 0, a, f => (a, f)
  | k + 1, a, f => if a % 2 = 0 then sgIn n k (a / 2) (if flipB n = true then -f else f) else (a, f)
def sgO : Nat → Int → Int → Int → Int × Int
  | 0, _, n, f => (n, f)
  | k + 1, a, n, f => if a = 0 then (n, f) else
    sgO k (n % (sgIn n 20 a f).1) (sgIn n 20 a f).1 (if n % 4 = 3 ∧ (sgIn n 20 a f).1 % 4 = 3 then -(sgIn n 20 a f).2 else (sgIn n 20 a f).2)
def sgL (a n : Int) : Int := if (sgO 100 (a % n) n 1).1 = 1 then (sgO 100 (a % n) n 1).2 else 0
abbrev siC : MT := mTest (mBin eqM (mBin modM (mV 0) (mC (.int 2))) (mC (.int 0)))
abbrev siB : MS := msSeq (msAug 0 idivM (mC (.int 2)))
  (msIf (mTest (mBin (inM false) (mBin modM (mV 1) (mC (.int 8))) (mTup (mCons (mC (.int 3)) (mCons (mC (.int 5)) mNil))))) (msAsg (.one 2) (mNeg (mV 2))) msNil)
theorem si_loop (S : Store) (n : Int) : ∀ (k : Nat) (a f : Int) (fuel : Nat), 0 < a → a < 2 ^ k → k < fuel →
    whileN siC siB fuel [some (.int a), some (.int n), some (.int f)] S = .next [some (.int (sgIn n k a f).1), some (.int n), some (.int (sgIn n k a f).2)] S ∧ 0 < (sgIn n k a f).1 ∧ (sgIn n k a f).1 ≤ a := by
  intro k
  induction k with
  | zero => intro a f fuel h0 h1; simp at h1; omega
  | succ k ih =>
    intro a f fuel h0 h1 hf
    obtain ⟨g, rfl⟩ : ∃ g, fuel = g + 1 := ⟨fuel - 1, by omega⟩
    by_cases hm : a % 2 = 0
    · have hpw : (2 : Int) ^ (k + 1) = 2 * 2 ^ k := by rw [Int.pow_succ, Int.mul_comm]
      obtain ⟨i1, i2, i3⟩ := ih (a / 2) (if flipB n = true then -f else f) g (by omega) (by omega) (by omega)
      have e : sgIn n (k + 1) a f = sgIn n k (a / 2) (if flipB n = true then -f else f) := if_pos hm
      rw [e]
      refine ⟨?_, i2, by omega⟩
      rw [← i1]
      refine while_go (S1 := S) ?_ ?_
      · simp only [msSeq, OutS.thenS, msAsg, msPar, msIf, msRet, msRetN, msAug, msRaise, msNil, msExpr, msSub, Out.toS, Out.bind, mV, mC, mBin, mTest, mCons, mNil, mTup, mIfE, mNeg, mCB, mCall, mChain, mAnd, mOr, mNot, bindT, setAll, startM, OutS.end_, List.getElem?_cons_zero, List.getElem?_cons_succ, List.set_cons_zero, List.set_cons_succ, List.map_cons, List.map_nil, List.length_cons, List.length_nil, List.replicate, List.append_nil, List.nil_append, List.cons_append, if_true, if_false, eqM_int, neM_int, addM_int, subM_int, modM_pos, cmpM_int, Nat.zero_add, Nat.reduceAdd, Nat.reduceSub, LIM0, LIM1, LIM2, LIM3, LIM4, LIM5, modM_pos (show (0 : Int) < 2 by decide), hm, decide_true]
      · simp only [msSeq, OutS.thenS, msAsg, msPar, msIf, msRet, msRetN, msAug, msRaise, msNil, msExpr, msSub, Out.toS, Out.bind, mV, mC, mBin, mTest, mCons, mNil, mTup, mIfE, mNeg, mCB, mCall, mChain, mAnd, mOr, mNot, bindT, setAll, startM, OutS.end_, List.getElem?_cons_zero, List.getElem?_cons_succ, List.set_cons_zero, List.set_cons_succ, List.map_cons, List.map_nil, List.length_cons, List.length_nil, List.replicate, List.append_nil, List.nil_append, List.cons_append, if_true, if_false, eqM_int, neM_int, addM_int, subM_int, modM_pos, cmpM_int, Nat.zero_add, Nat.reduceAdd, Nat.reduceSub, LIM0, LIM1, LIM2, LIM3, LIM4, LIM5, modM_pos (show (0 : Int) < 8 by decide), idivM_pos cdiv2 (show (0 : Int) < 2 by decide), inM_two]
        show (match (decide (3 = n % 8) || decide (5 = n % 8)) with | true => _ | false => _) = _
        by_cases hb : flipB n = true
        · rw [show (decide (3 = n % 8) || decide (5 = n % 8)) = true from hb, if_pos hb]
        · rw [show (decide (3 = n % 8) || decide (5 = n % 8)) = false by unfold flipB at hb; simpa using hb, if_neg hb]
    · have e : sgIn n (k + 1) a f = (a, f) := if_neg hm
      rw [e]
      refine ⟨while_end ?_, h0, Int.le_refl _⟩
      simp only [msSeq, OutS.thenS, msAsg, msPar, msIf, msRet, msRetN, msAug, msRaise, msNil, msExpr, msSub, Out.toS, Out.bind, mV, mC, mBin, mTest, mCons, mNil, mTup, mIfE, mNeg, mCB, mCall, mChain, mAnd, mOr, mNot, bindT, setAll, startM, OutS.end_, List.getElem?_cons_zero, List.getElem?_cons_succ, List.set_cons_zero, List.set_cons_succ, List.map_cons, List.map_nil, List.length_cons, List.length_nil, List.replicate, List.append_nil, List.nil_append, List.cons_append, if_true, if_false, eqM_int, neM_int, addM_int, subM_int, modM_pos, cmpM_int, Nat.zero_add, Nat.reduceAdd, Nat.reduceSub, LIM0, LIM1, LIM2, LIM3, LIM4, LIM5, modM_pos (show (0 : Int) < 2 by decide), hm, decide_false]
abbrev soC : MT := mTest (mBin neM (mV 0) (mC (.int 0)))
abbrev soB : MS := msSeq (msWhile siC siB)
  (msSeq (msPar [0, 1] (mCons (mV 1) (mCons (mV 0) mNil)))
  (msSeq (msIf (mAnd (mTest (mBin eqM (mBin modM (mV 0) (mC (.int 4))) (mC (.int 3)))) (mTest (mBin eqM (mBin modM (mV 1) (mC (.int 4))) (mC (.int 3))))) (msAsg (.one 2) (mNeg (mV 2))) msNil)
  (msAug 0 imodM (mV 1))))
theorem so_loop (S : Store) : ∀ (k : Nat) (a n f : Int) (fuel : Nat), 0 ≤ a → a < n → n < 4096 → n ≤ k → k < fuel →
    whileN soC soB fuel [some (.int a), some (.int n), some (.int f)] S = .next [some (.int 0), some (.int (sgO k a n f).1), some (.int (sgO k a n f).2)] S := by
  intro k
  induction k with
  | zero => intro a n f fuel h0 h1 h2 h3; omega
  | succ k ih =>
    intro a n f fuel h0 h1 h2 h3 hf
    obtain ⟨g, rfl⟩ : ∃ g, fuel = g + 1 := ⟨fuel - 1, by omega⟩
    by_cases ha : a = 0
    · subst ha
      have e : sgO (k + 1) 0 n f = (n, f) := if_pos rfl
      rw [e]
      exact while_end (by simp only [msSeq, OutS.thenS, msAsg, msPar, msIf, msRet, msRetN, msAug, msRaise, msNil, msExpr, msSub, Out.toS, Out.bind, mV, mC, mBin, mTest, mCons, mNil, mTup, mIfE, mNeg, mCB, mCall, mChain, mAnd, mOr, mNot, bindT, setAll, startM, OutS.end_, List.getElem?_cons_zero, List.getElem?_cons_succ, List.set_cons_zero, List.set_cons_succ, List.map_cons, List.map_nil, List.length_cons, List.length_nil, List.replicate, List.append_nil, List.nil_append, List.cons_append, if_true, if_false, eqM_int, neM_int, addM_int, subM_int, modM_pos, cmpM_int, Nat.zero_add, Nat.reduceAdd, Nat.reduceSub, LIM0, LIM1, LIM2, LIM3, LIM4, LIM5]; rfl)
    · obtain ⟨i1, i2, i3⟩ := si_loop S n 20 a f FUEL (by omega) (by omega) (by rw [FUEL_eq]; decide)
      have e : sgO (k + 1) a n f = sgO k (n % (sgIn n 20 a f).1) (sgIn n 20 a f).1 (if n % 4 = 3 ∧ (sgIn n 20 a f).1 % 4 = 3 then -(sgIn n 20 a f).2 else (sgIn n 20 a f).2) := if_neg ha
      rw [e]
      generalize (sgIn n 20 a f).1 = a' at *
      generalize (sgIn n 20 a f).2 = f' at *
      rw [← ih (n % a') a' _ g (Int.emod_nonneg _ (by omega)) (Int.emod_lt_of_pos _ i2) (by omega) (by omega) (by omega)]
      refine while_go (S1 := S) ?_ ?_
      · simp only [msSeq, OutS.thenS, msAsg, msPar, msIf, msRet, msRetN, msAug, msRaise, msNil, msExpr, msSub, Out.toS, Out.bind, mV, mC, mBin, mTest, mCons, mNil, mTup, mIfE, mNeg, mCB, mCall, mChain, mAnd, mOr, mNot, bindT, setAll, startM, OutS.end_, List.getElem?_cons_zero, List.getElem?_cons_succ, List.set_cons_zero, List.set_cons_succ, List.map_cons, List.map_nil, List.length_cons, List.length_nil, List.replicate, List.append_nil, List.nil_append, List.cons_append, if_true, if_false, eqM_int, neM_int, addM_int, subM_int, modM_pos, cmpM_int, Nat.zero_add, Nat.reduceAdd, Nat.reduceSub, LIM0, LIM1, LIM2, LIM3, LIM4, LIM5, ha, decide_false, Bool.not_false]
      · simp only [msSeq, OutS.thenS, msAsg, msPar, msIf, msRet, msRetN, msAug, msRaise, msNil, msExpr, msSub, Out.toS, Out.bind, mV, mC, mBin, mTest, mCons, mNil, mTup, mIfE, mNeg, mCB, mCall, mChain, mAnd, mOr, mNot, bindT, setAll, startM, OutS.end_, List.getElem?_cons_zero, List.getElem?_cons_succ, List.set_cons_zero, List.set_cons_succ, List.map_cons, List.map_nil, List.length_cons, List.length_nil, List.replicate, List.append_nil, List.nil_append, List.cons_append, if_true, if_false, eqM_int, neM_int, addM_int, subM_int, modM_pos, cmpM_int, Nat.zero_add, Nat.reduceAdd, Nat.reduceSub, LIM0, LIM1, LIM2, LIM3, LIM4, LIM5, msWhile_ap]
        rw [i1]
        simp only [msSeq, OutS.thenS, msAsg, msPar, msIf, msRet, msRetN, msAug, msRaise, msNil, msExpr, msSub, Out.toS, Out.bind, mV, mC, mBin, mTest, mCons, mNil, mTup, mIfE, mNeg, mCB, mCall, mChain, mAnd, mOr, mNot, bindT, setAll, startM, OutS.end_, List.getElem?_cons_zero, List.getElem?_cons_succ, List.set_cons_zero, List.set_cons_succ, List.map_cons, List.map_nil, List.length_cons, List.length_nil, List.replicate, List.append_nil, List.nil_append, List.cons_append, if_true, if_false, eqM_int, neM_int, addM_int, subM_int, modM_pos, cmpM_int, Nat.zero_add, Nat.reduceAdd, Nat.reduceSub, LIM0, LIM1, LIM2, LIM3, LIM4, LIM5, modM_pos (show (0 : Int) < 4 by decide), imodM_pos i2]
        by_cases q1 : n % 4 = 3
        · by_cases q2 : a' % 4 = 3
          · simp only [msSeq, OutS.thenS, msAsg, msPar, msIf, msRet, msRetN, msAug, msRaise, msNil, msExpr, msSub, Out.toS, Out.bind, mV, mC, mBin, mTest, mCons, mNil, mTup, mIfE, mNeg, mCB, mCall, mChain, mAnd, mOr, mNot, bindT, setAll, startM, OutS.end_, List.getElem?_cons_zero, List.getElem?_cons_succ, List.set_cons_zero, List.set_cons_succ, List.map_cons, List.map_nil, List.length_cons, List.length_nil, List.replicate, List.append_nil, List.nil_append, List.cons_append, if_true, if_false, eqM_int, neM_int, addM_int, subM_int, modM_pos, cmpM_int, Nat.zero_add, Nat.reduceAdd, Nat.reduceSub, LIM0, LIM1, LIM2, LIM3, LIM4, LIM5, q1, q2, decide_true, and_self, imodM_pos i2]
          · simp only [msSeq, OutS.thenS, msAsg, msPar, msIf, msRet, msRetN, msAug, msRaise, msNil, msExpr, msSub, Out.toS, Out.bind, mV, mC, mBin, mTest, mCons, mNil, mTup, mIfE, mNeg, mCB, mCall, mChain, mAnd, mOr, mNot, bindT, setAll, startM, OutS.end_, List.getElem?_cons_zero, List.getElem?_cons_succ, List.set_cons_zero, List.set_cons_succ, List.map_cons, List.map_nil, List.length_cons, List.length_nil, List.replicate, List.append_nil, List.nil_append, List.cons_append, if_true, if_false, eqM_int, neM_int, addM_int, subM_int, modM_pos, cmpM_int, Nat.zero_add, Nat.reduceAdd, Nat.reduceSub, LIM0, LIM1, LIM2, LIM3, LIM4, LIM5, q1, q2, decide_true, decide_false, and_false, imodM_pos i2]
        · simp only [msSeq, OutS.thenS, msAsg, msPar, msIf, msRet, msRetN, msAug, msRaise, msNil, msExpr, msSub, Out.toS, Out.bind, mV, mC, mBin, mTest, mCons, mNil, mTup, mIfE, mNeg, mCB, mCall, mChain, mAnd, mOr, mNot, bindT, setAll, startM, OutS.end_, List.getElem?_cons_zero, List.getElem?_cons_succ, List.set_cons_zero, List.set_cons_succ, List.map_cons, List.map_nil, List.length_cons, List.length_nil, List.replicate, List.append_nil, List.nil_append, List.cons_append, if_true, if_false, eqM_int, neM_int, addM_int, subM_int, modM_pos, cmpM_int, Nat.zero_add, Nat.reduceAdd, Nat.reduceSub, LIM0, LIM1, LIM2, LIM3, LIM4, LIM5, q1, decide_false, false_and, imodM_pos i2]
theorem sign_eq {a n : Int} {S : Store} (h0 : 0 < n) (h1 : n ≤ 100) (hodd : n % 2 = 1) : f_square_sign [.int a, .int n] S = .ok (.int (sgL a n)) S := by
  have e := so_loop S 100 (a % n) n 1 FUEL (Int.emod_nonneg _ (by omega)) (Int.emod_lt_of_pos _ h0) (by omega) (by omega) (by rw [FUEL_eq]; decide)
  have h : m_square_sign (startM 3 [.int a, .int n]) S = .ret (.int (sgL a n)) S := by
    have q1 : ¬ n < 1 := by omega
    have q2 : ¬ n % 2 = 0 := by omega
    unfold m_square_sign sgL
    simp only [msSeq, OutS.thenS, msAsg, msPar, msIf, msRet, msRetN, msAug, msRaise, msNil, msExpr, msSub, Out.toS, Out.bind, mV, mC, mBin, mTest, mCons, mNil, mTup, mIfE, mNeg, mCB, mCall, mChain, mAnd, mOr, mNot, bindT, setAll, startM, OutS.end_, List.getElem?_cons_zero, List.getElem?_cons_succ, List.set_cons_zero, List.set_cons_succ, List.map_cons, List.map_nil, List.length_cons, List.length_nil, List.replicate, List.append_nil, List.nil_append, List.cons_append, if_true, if_false, eqM_int, neM_int, addM_int, subM_int, modM_pos, cmpM_int, Nat.zero_add, Nat.reduceAdd, Nat.reduceSub, LIM0, LIM1, LIM2, LIM3, LIM4, LIM5, msWhile_ap, q1, q2, decide_false, modM_pos (show (0 : Int) < 2 by decide), modM_pos h0]
    have e' := e
    simp only [soC, soB, siC, siB] at e'
    rw [e']
    by_cases hq : (sgO 100 (a % n) n 1).1 = 1
    · simp only [msSeq, OutS.thenS, msAsg, msPar, msIf, msRet, msRetN, msAug, msRaise, msNil, msExpr, msSub, Out.toS, Out.bind, mV, mC, mBin, mTest, mCons, mNil, mTup, mIfE, mNeg, mCB, mCall, mChain, mAnd, mOr, mNot, bindT, setAll, startM, OutS.end_, List.getElem?_cons_zero, List.getElem?_cons_succ, List.set_cons_zero, List.set_cons_succ, List.map_cons, List.map_nil, List.length_cons, List.length_nil, List.replicate, List.append_nil, List.nil_append, List.cons_append, if_true, if_false, eqM_int, neM_int, addM_int, subM_int, modM_pos, cmpM_int, Nat.zero_add, Nat.reduceAdd, Nat.reduceSub, LIM0, LIM1, LIM2, LIM3, LIM4, LIM5, hq, decide_true]
    · simp only [msSeq, OutS.thenS, msAsg, msPar, msIf, msRet, msRetN, msAug, msRaise, msNil, msExpr, msSub, Out.toS, Out.bind, mV, mC, mBin, mTest, mCons, mNil, mTup, mIfE, mNeg, mCB, mCall, mChain, mAnd, mOr, mNot, bindT, setAll, startM, OutS.end_, List.getElem?_cons_zero, List.getElem?_cons_succ, List.set_cons_zero, List.set_cons_succ, List.map_cons, List.map_nil, List.length_cons, List.length_nil, List.replicate, List.append_nil, List.nil_append, List.cons_append, if_true, if_false, eqM_int, neM_int, addM_int, subM_int, modM_pos, cmpM_int, Nat.zero_add, Nat.reduceAdd, Nat.reduceSub, LIM0, LIM1, LIM2, LIM3, LIM4, LIM5, hq, decide_false]
  unfold f_square_sign fnM
  rw [h]
  exact fin_same
theorem sign_no {a n : Int} {S : Store} (h : n < 1 ∨ n % 2 = 0) : f_square_sign [.int a, .int n] S = .exc ⟨"BadNumber", none⟩ S := by
  have h : ∃ ρ, m_square_sign (startM 3 [.int a, .int n]) S = .exc ⟨"BadNumber", none⟩ ρ S := by
    unfold m_square_sign
    by_cases q1 : n < 1
    · simp only [msSeq, OutS.thenS, msAsg, msPar, msIf, msRet, msRetN, msAug, msRaise, msNil, msExpr, msSub, Out.toS, Out.bind, mV, mC, mBin, mTest, mCons, mNil, mTup, mIfE, mNeg, mCB, mCall, mChain, mAnd, mOr, mNot, bindT, setAll, startM, OutS.end_, List.getElem?_cons_zero, List.getElem?_cons_succ, List.set_cons_zero, List.set_cons_succ, List.map_cons, List.map_nil, List.length_cons, List.length_nil, List.replicate, List.append_nil, List.nil_append, List.cons_append, if_true, if_false, eqM_int, neM_int, addM_int, subM_int, modM_pos, cmpM_int, Nat.zero_add, Nat.reduceAdd, Nat.reduceSub, LIM0, LIM1, LIM2, LIM3, LIM4, LIM5, q1, decide_true]
      exact ⟨_, rfl⟩
    · have q2 : n % 2 = 0 := by omega
      simp only [msSeq, OutS.thenS, msAsg, msPar, msIf, msRet, msRetN, msAug, msRaise, msNil, msExpr, msSub, Out.toS, Out.bind, mV, mC, mBin, mTest, mCons, mNil, mTup, mIfE, mNeg, mCB, mCall, mChain, mAnd, mOr, mNot, bindT, setAll, startM, OutS.end_, List.getElem?_cons_zero, List.getElem?_cons_succ, List.set_cons_zero, List.set_cons_succ, List.map_cons, List.map_nil, List.length_cons, List.length_nil, List.replicate, List.append_nil, List.nil_append, List.cons_append, if_true, if_false, eqM_int, neM_int, addM_int, subM_int, modM_pos, cmpM_int, Nat.zero_add, Nat.reduceAdd, Nat.reduceSub, LIM0, LIM1, LIM2, LIM3, LIM4, LIM5, q1, q2, decide_false, decide_true, modM_pos (show (0 : Int) < 2 by decide)]
      exact ⟨_, rfl⟩
  obtain ⟨ρ, h⟩ := h
  unfold f_square_sign fnM
  rw [h]
  exact fin_exc0
end K01
set_option Elab.async false
set_option linter.all false
set_option maxRecDepth 100000
set_option maxHeartbeats 2000000
/-! k01: divisors. -/
namespace K01
open PySem Mx
def rowD (p one : Int) : Nat → Nat → List Int
  | _, 0 => []
  | lo, j + 1 => one * p ^ lo :: rowD p one (lo + 1) j
def stepD (q : Int × Int) (xs : List Int) : List Int := xs.flatMap fun one => rowD q.1 one 0 (q.2 + 1).toNat
def divL (n : Int) : List Int := sortI ((parL n).foldl (fun xs q => stepD q xs) [1])
def okD : List (Int × Int) → List Int → Bool
  | [], _ => true
  | q :: l, xs => decide ((stepD q xs).length ≤ 1000) && ((stepD q xs).all (fun x => decide (x.natAbs ≤ 300)) && okD l (stepD q xs))
theorem okD_all : (List.range 301).all (fun k => k == 0 || okD (parL (Int.ofNat k)) [1]) = true := by decide +kernel
theorem okD_at {n : Int} (h0 : 0 < n) (h1 : n ≤ 300) : okD (parL n) [1] = true := by
  obtain ⟨k, rfl⟩ := Int.eq_ofNat_of_zero_le (show 0 ≤ n by omega)
  have h := List.all_eq_true.mp okD_all k (List.mem_range.mpr (by omega))
  rw [Bool.or_eq_true] at h
  rcases h with z | z
  · have : k = 0 := by simpa using z
    omega
  · exact z
theorem ok_bind {α β : Type} {a : α} {S : Store} {f : α → Store → Out β} : (Out.ok a S).bind f = f a S := rfl
theorem ok_noX {α : Type} {a : α} {S : Store} : (Out.ok a S).noX = .ok a S := rfl
theorem compA1_step {s : Src} {t : Tg} {c : MT} {e : ME} {ρ0 ρ1 : Env'} {x y : Mx.D} {xs acc : List Mx.D} {S : Store} (ok : okSrc s S = true) (hb : bindT t x ρ0 = some ρ1) (hc : c ρ1 S = .ok true S) (he : e ρ1 S = .ok y S) (hl : acc.length ≤ LIM) :
    compA1 s t c e ρ0 (x :: xs) acc S = compA1 s t c e ρ0 xs (acc ++ [y]) S := by
  rw [compA1, if_pos ok, hb]
  dsimp only
  rw [hc, ok_noX, ok_bind]
  dsimp only
  rw [he, ok_noX, ok_bind, if_pos hl]
theorem mCall_ok {n : Nat} {F : DF} {r : MA} {ρ : Env'} {S S1 : Store} {ds : List Mx.D} (h : r ρ S = .ok ds S1) (hl : ds.length = n) : mCall n F r ρ S = F ds S1 := by
  unfold mCall
  rw [h, ok_bind, if_pos hl]
theorem mBin_ok {f : Op2} {a b : ME} {ρ : Env'} {S : Store} {x y : Mx.D} (ha : a ρ S = .ok x S) (hb : b ρ S = .ok y S) : mBin f a b ρ S = f x y S := by
  unfold mBin
  rw [ha, ok_bind, hb, ok_bind]
abbrev dvE : ME := mBin mulM (mV 4) (mCall 2 f_raised (mCons (mV 2) (mCons (mV 5) mNil)))
theorem pow_abs {p : Int} {k : Nat} (hp : p.natAbs ≤ 512) : (p ^ k).natAbs < 2 ^ (9 * k + 1) := by
  rw [Int.natAbs_pow]
  have h1 : p.natAbs ^ k ≤ 512 ^ k := Nat.pow_le_pow_left hp k
  have h2 : (512 : Nat) ^ k = 2 ^ (9 * k) := by rw [Nat.pow_mul]
  have h3 : 0 < 2 ^ (9 * k) := Nat.two_pow_pos _
  have h4 : (2 : Nat) ^ (9 * k + 1) = 2 ^ (9 * k) * 2 := Nat.pow_succ ..
  omega
theorem dv_in (S : Store) (s : Src) (hs : s.1 = none) (n p m one : Int) (F : Mx.D) (hp : p.natAbs ≤ 300) (ho : one.natAbs ≤ 300) : ∀ (j lo : Nat) (acc : List Int), lo + j ≤ 1000 → acc.length + j ≤ LIM →
    compA1 s (.one 5) mYes dvE [some (.int n), some F, some (.int p), some (.int m), some (.int one), none] (rangeD (lo : Int) j) (acc.map .int) S = .ok ((acc ++ rowD p one lo j).map .int) S := by
  have ok : okSrc s S = true := by unfold okSrc; rw [hs]
  intro j
  induction j with
  | zero => intro lo acc _ _; unfold rangeD compA1 rowD; rw [if_pos ok, List.append_nil]
  | succ j ih =>
    intro lo acc h1 h2
    have c : CMulM one (p ^ lo) := cmul (k := 10) (l := 9 * lo + 1) (by omega) (pow_abs (by omega)) (by omega) (by decide) (by omega)
    have r := raised_eq (a := p) (m := (lo : Int)) (S := S) (by omega) (by omega) (by omega)
    have i := ih (lo + 1) (acc ++ [one * p ^ lo]) (by omega) (by simp; omega)
    show compA1 s (.one 5) mYes dvE _ (Mx.D.int lo :: rangeD ((lo : Int) + 1) j) (acc.map .int) S = _
    have he : dvE [some (.int n), some F, some (.int p), some (.int m), some (.int one), some (.int (lo : Int))] S = .ok (.int (one * p ^ lo)) S := by
      rw [Int.toNat_natCast] at r
      have hr : mCall 2 f_raised (mCons (mV 2) (mCons (mV 5) mNil)) [some (.int n), some F, some (.int p), some (.int m), some (.int one), some (.int (lo : Int))] S = .ok (.int (p ^ lo)) S := (mCall_ok (ds := [.int p, .int (lo : Int)]) (S1 := S) rfl rfl).trans r
      exact (mBin_ok (x := .int one) (y := .int (p ^ lo)) rfl hr).trans (mulM_int c)
    rw [compA1_step (ρ1 := [some (.int n), some F, some (.int p), some (.int m), some (.int one), some (.int (lo : Int))]) ok rfl rfl he (by rw [List.length_map]; omega)]
    rw [show (acc.map Mx.D.int ++ [Mx.D.int (one * p ^ lo)]) = (acc ++ [one * p ^ lo]).map .int by simp]
    rw [show ((lo : Int) + 1) = ((lo + 1 : Nat) : Int) by omega, i]
    simp [rowD]
theorem rowD_len (p one : Int) : ∀ (j lo : Nat), (rowD p one lo j).length = j
  | 0, _ => rfl
  | j + 1, lo => by simp [rowD, rowD_len p one j (lo + 1)]
theorem dv_out (S : Store) (s : Src) (ok : okSrc s S = true) (n p m : Int) (F : Mx.D) (hp : p.natAbs ≤ 300) (hm : 0 < m) (hm2 : m ≤ 8) : ∀ (xs : List Int) (acc : List Int), (∀ x ∈ xs, x.natAbs ≤ 300) → (acc ++ stepD (p, m) xs).length ≤ LIM →
    compA2 [5] s (.one 4) mYes (miRange1 (mCons (mBin addM (mV 3) (mC (.int 1))) mNil)) (.one 5) mYes dvE [some (.int n), some F, some (.int p), some (.int m), none, none] (xs.map .int) (acc.map .int) S = .ok ((acc ++ stepD (p, m) xs).map .int) S := by
  intro xs
  induction xs with
  | nil => intro acc _ _; unfold compA2; simp only [List.map_nil]; rw [if_pos ok]; simp [stepD]
  | cons x xs ih =>
    intro acc hx hl
    have e : stepD (p, m) (x :: xs) = rowD p x 0 (m + 1).toNat ++ stepD (p, m) xs := by simp [stepD]
    rw [e, ← List.append_assoc] at hl
    have hr : inR (m + 1) = true := by unfold inR; exact decide_eq_true (by omega)
    have h1 := dv_in S (none, rangeD 0 (m + 1).toNat) rfl n p m x F hp (hx x List.mem_cons_self) (m + 1).toNat 0 acc (by omega) (by
      rw [List.length_append, List.length_append, rowD_len] at hl
      omega)
    have w : wipeM [some (Mx.D.int n), some F, some (.int p), some (.int m), some (.int x), none] [5] = [some (.int n), some F, some (.int p), some (.int m), some (.int x), none] := rfl
    rw [List.map_cons]
    unfold compA2
    rw [if_pos ok]
    simp only [msSeq, OutS.thenS, msAsg, msPar, msIf, msRet, msRetN, msAug, msRaise, msNil, msExpr, msSub, Out.toS, Out.bind, mV, mC, mBin, mTest, mCons, mNil, mTup, mIfE, mNeg, mCB, mCall, mChain, mAnd, mOr, mNot, bindT, setAll, startM, OutS.end_, List.getElem?_cons_zero, List.getElem?_cons_succ, List.set_cons_zero, List.set_cons_succ, List.map_cons, List.map_nil, List.length_cons, List.length_nil, List.replicate, List.append_nil, List.nil_append, List.cons_append, if_true, if_false, eqM_int, neM_int, addM_int, subM_int, modM_pos, cmpM_int, Nat.zero_add, Nat.reduceAdd, Nat.reduceSub, LIM0, LIM1, LIM2, LIM3, LIM4, LIM5, mYes, Out.noX, miRange1, hr, w]
    have h1' : compA1 (none, rangeD 0 (m + 1).toNat) (.one 5) mYes dvE [some (.int n), some F, some (.int p), some (.int m), some (.int x), none] (rangeD 0 (m + 1).toNat) (acc.map .int) S = _ := h1
    simp only [dvE, mYes] at h1'
    first
      | rw [h1']
      | erw [h1']
    have i := ih (acc ++ rowD p x 0 (m + 1).toNat) (fun y hy => hx y (List.mem_cons_of_mem _ hy)) hl
    simp only [dvE, mYes] at i
    dsimp only
    first
      | rw [i]
      | erw [i]
    rw [e, List.append_assoc]
theorem dv_loop (S : Store) (s : Src) (hs : s.1 = none) (n : Int) : ∀ (l : List (Int × Int)) (xs : List Int) (T : Store) (i : Nat) (z2 z3 : Option Mx.D), (∀ q ∈ l, 1 < q.1 ∧ q.1 ≤ 300 ∧ 0 < q.2 ∧ q.2 ≤ 8) → okD l xs = true → (∀ x ∈ xs, x.natAbs ≤ 300) → (S ++ T)[i]? = some (.lst (xs.map .int)) →
    ∃ T' i' w2 w3, forL s (.many [2, 3]) (msAsg (.one 1) (mLc2 [4, 5] [5] (miSeq (mV 1)) (.one 4) mYes (miRange1 (mCons (mBin addM (mV 3) (mC (.int 1))) mNil)) (.one 5) mYes dvE)) (l.map pairD) [some (.int n), some (.loc i), z2, z3, none, none] (S ++ T) = .next [some (.int n), some (.loc i'), w2, w3, none, none] (S ++ T') ∧
      (S ++ T')[i']? = some (.lst ((l.foldl (fun xs q => stepD q xs) xs).map .int)) := by
  have ok : ∀ X, okSrc s X = true := fun X => by unfold okSrc; rw [hs]
  intro l
  induction l with
  | nil => intro xs T i z2 z3 _ _ _ hi; exact ⟨T, i, z2, z3, for_nil (ok _), hi⟩
  | cons q l ih =>
    intro xs T i z2 z3 hq hok hx hi
    obtain ⟨q1, q2⟩ := q
    have hq0 := hq _ List.mem_cons_self
    unfold okD at hok
    simp only [Bool.and_eq_true, decide_eq_true_eq, List.all_eq_true] at hok
    obtain ⟨o1, o2, o3⟩ := hok
    have h1 := dv_out (S ++ T) (some i, xs.map .int) (by unfold okSrc; exact decide_eq_true hi) n q1 q2 (.loc i) (by have := hq0.1; have := hq0.2.1; dsimp only at *; omega) hq0.2.2.1 hq0.2.2.2 xs [] hx (by simp only [List.nil_append]; unfold LIM; omega)
    obtain ⟨T', i', w2, w3, e, hi'⟩ := ih (stepD (q1, q2) xs) (T ++ [.lst ((stepD (q1, q2) xs).map .int)]) (S ++ T).length (some (.int q1)) (some (.int q2)) (fun q' h' => hq q' (List.mem_cons_of_mem _ h')) o3 o2 (by rw [← List.append_assoc]; simp)
    refine ⟨T', i', w2, w3, ?_, hi'⟩
    rw [← e]
    refine for_cons (ρ1 := [some (.int n), some (.loc i), some (.int q1), some (.int q2), none, none]) (ok _) (by simp only [msSeq, OutS.thenS, msAsg, msPar, msIf, msRet, msRetN, msAug, msRaise, msNil, msExpr, msSub, Out.toS, Out.bind, mV, mC, mBin, mTest, mCons, mNil, mTup, mIfE, mNeg, mCB, mCall, mChain, mAnd, mOr, mNot, bindT, setAll, startM, OutS.end_, List.getElem?_cons_zero, List.getElem?_cons_succ, List.set_cons_zero, List.set_cons_succ, List.map_cons, List.map_nil, List.length_cons, List.length_nil, List.replicate, List.append_nil, List.nil_append, List.cons_append, if_true, if_false, eqM_int, neM_int, addM_int, subM_int, modM_pos, cmpM_int, Nat.zero_add, Nat.reduceAdd, Nat.reduceSub, LIM0, LIM1, LIM2, LIM3, LIM4, LIM5, pairD]) ?_
    have w : wipeM [some (Mx.D.int n), some (.loc i), some (.int q1), some (.int q2), none, none] [4, 5] = [some (.int n), some (.loc i), some (.int q1), some (.int q2), none, none] := rfl
    have ms : miSeq (mV 1) [some (.int n), some (.loc i), some (.int q1), some (.int q2), none, none] (S ++ T) = .ok (some i, xs.map .int) (S ++ T) := by
      unfold miSeq
      simp only [msSeq, OutS.thenS, msAsg, msPar, msIf, msRet, msRetN, msAug, msRaise, msNil, msExpr, msSub, Out.toS, Out.bind, mV, mC, mBin, mTest, mCons, mNil, mTup, mIfE, mNeg, mCB, mCall, mChain, mAnd, mOr, mNot, bindT, setAll, startM, OutS.end_, List.getElem?_cons_zero, List.getElem?_cons_succ, List.set_cons_zero, List.set_cons_succ, List.map_cons, List.map_nil, List.length_cons, List.length_nil, List.replicate, List.append_nil, List.nil_append, List.cons_append, if_true, if_false, eqM_int, neM_int, addM_int, subM_int, modM_pos, cmpM_int, Nat.zero_add, Nat.reduceAdd, Nat.reduceSub, LIM0, LIM1, LIM2, LIM3, LIM4, LIM5, hi]
    have lc : mLc2 [4, 5] [5] (miSeq (mV 1)) (.one 4) mYes (miRange1 (mCons (mBin addM (mV 3) (mC (.int 1))) mNil)) (.one 5) mYes dvE [some (.int n), some (.loc i), some (.int q1), some (.int q2), none, none] (S ++ T) = .ok (.loc (S ++ T).length) (S ++ (T ++ [.lst ((stepD (q1, q2) xs).map .int)])) := by
      unfold mLc2
      rw [ms]
      show ((compA2 [5] (some i, xs.map .int) (.one 4) mYes _ (.one 5) mYes dvE (wipeM _ [4, 5]) (xs.map .int) ([].map .int) (S ++ T)).bind fun ys S2 => Out.ok (Mx.D.loc S2.length) (S2 ++ [.lst ys])) = _
      rw [w, h1]
      simp [Out.bind]
    unfold msAsg
    rw [lc]
    simp only [msSeq, OutS.thenS, msAsg, msPar, msIf, msRet, msRetN, msAug, msRaise, msNil, msExpr, msSub, Out.toS, Out.bind, mV, mC, mBin, mTest, mCons, mNil, mTup, mIfE, mNeg, mCB, mCall, mChain, mAnd, mOr, mNot, bindT, setAll, startM, OutS.end_, List.getElem?_cons_zero, List.getElem?_cons_succ, List.set_cons_zero, List.set_cons_succ, List.map_cons, List.map_nil, List.length_cons, List.length_nil, List.replicate, List.append_nil, List.nil_append, List.cons_append, if_true, if_false, eqM_int, neM_int, addM_int, subM_int, modM_pos, cmpM_int, Nat.zero_add, Nat.reduceAdd, Nat.reduceSub, LIM0, LIM1, LIM2, LIM3, LIM4, LIM5]
theorem divisors_eq {n : Int} {S : Store} (h0 : 0 < n) (h1 : n ≤ 300) : f_divisors [.int n] S = .ok (.tup ((divL n).map .int)) S := by
  obtain ⟨T', i', w2, w3, e, hi⟩ := dv_loop S (none, (parL n).map pairD) rfl n (parL n) [1] [.lst [.int 1]] S.length none none (chkP_at h0 h1).2.1 (okD_at h0 h1) (by simp) (by simp)
  have h : ∃ T, m_divisors (startM 6 [.int n]) S = .ret (.tup ((divL n).map .int)) (S ++ T) := by
    have ps : f_parts [.int n] (S ++ [.lst [.int 1]]) = .ok (.tup ((parL n).map pairD)) (S ++ [.lst [.int 1]]) := parts_at h0 h1
    unfold m_divisors
    simp only [msSeq, OutS.thenS, msAsg, msPar, msIf, msRet, msRetN, msAug, msRaise, msNil, msExpr, msSub, Out.toS, Out.bind, mV, mC, mBin, mTest, mCons, mNil, mTup, mIfE, mNeg, mCB, mCall, mChain, mAnd, mOr, mNot, bindT, setAll, startM, OutS.end_, List.getElem?_cons_zero, List.getElem?_cons_succ, List.set_cons_zero, List.set_cons_succ, List.map_cons, List.map_nil, List.length_cons, List.length_nil, List.replicate, List.append_nil, List.nil_append, List.cons_append, if_true, if_false, eqM_int, neM_int, addM_int, subM_int, modM_pos, cmpM_int, Nat.zero_add, Nat.reduceAdd, Nat.reduceSub, LIM0, LIM1, LIM2, LIM3, LIM4, LIM5, mLst, msFor_ap]
    have ms : ∀ ρ, ρ[0]? = some (some (Mx.D.int n)) → miSeq (mCall 1 f_parts (mCons (mV 0) mNil)) ρ (S ++ [.lst [.int 1]]) = .ok (none, (parL n).map pairD) (S ++ [.lst [.int 1]]) := fun ρ hρ => by
      unfold miSeq
      simp only [msSeq, OutS.thenS, msAsg, msPar, msIf, msRet, msRetN, msAug, msRaise, msNil, msExpr, msSub, Out.toS, Out.bind, mV, mC, mBin, mTest, mCons, mNil, mTup, mIfE, mNeg, mCB, mCall, mChain, mAnd, mOr, mNot, bindT, setAll, startM, OutS.end_, List.getElem?_cons_zero, List.getElem?_cons_succ, List.set_cons_zero, List.set_cons_succ, List.map_cons, List.map_nil, List.length_cons, List.length_nil, List.replicate, List.append_nil, List.nil_append, List.cons_append, if_true, if_false, eqM_int, neM_int, addM_int, subM_int, modM_pos, cmpM_int, Nat.zero_add, Nat.reduceAdd, Nat.reduceSub, LIM0, LIM1, LIM2, LIM3, LIM4, LIM5, hρ, ps]
    rw [ms _ rfl]
    dsimp only
    have e' := e
    first
      | rw [e']
      | erw [e']
    dsimp only
    have li : lstInts (S ++ T') (.loc i') = some ((parL n).foldl (fun xs q => stepD q xs) [1]) := by
      unfold lstInts
      dsimp only
      rw [hi]
      exact asInts_map _
    have so : sortedIM [.loc i'] (S ++ T') = .ok (.loc (S ++ T').length) (S ++ T' ++ [.lst ((divL n).map .int)]) := by
      unfold sortedIM
      dsimp only
      rw [li]
      rfl
    refine ⟨T' ++ [.lst ((divL n).map .int)], ?_⟩
    simp only [msSeq, OutS.thenS, msAsg, msPar, msIf, msRet, msRetN, msAug, msRaise, msNil, msExpr, msSub, Out.toS, Out.bind, mV, mC, mBin, mTest, mCons, mNil, mTup, mIfE, mNeg, mCB, mCall, mChain, mAnd, mOr, mNot, bindT, setAll, startM, OutS.end_, List.getElem?_cons_zero, List.getElem?_cons_succ, List.set_cons_zero, List.set_cons_succ, List.map_cons, List.map_nil, List.length_cons, List.length_nil, List.replicate, List.append_nil, List.nil_append, List.cons_append, if_true, if_false, eqM_int, neM_int, addM_int, subM_int, modM_pos, cmpM_int, Nat.zero_add, Nat.reduceAdd, Nat.reduceSub, LIM0, LIM1, LIM2, LIM3, LIM4, LIM5, so, tuple_last]
    rw [List.append_assoc]
  obtain ⟨T, h⟩ := h
  unfold f_divisors fnM
  rw [h]
  exact fin_app (blws_ints _)
end K01
set_option Elab.async false
set_option linter.all false
set_option maxRecDepth 100000
set_option maxHeartbeats 2000000
/-! k01: together. -/
namespace K01
open PySem Mx
theorem both_dvd {n m d x y n0 z : Int} (hd : 0 < d) (hn : n = d * n0) (e : n * x + m * y = d) (h1 : n ∣ z) (h2 : m ∣ z) : n0 * m ∣ z := by
  obtain ⟨v, hv⟩ := h1
  obtain ⟨w, hw⟩ := h2
  refine ⟨w * x + v * y, ?_⟩
  have h : d * z = d * (n0 * m * (w * x + v * y)) := by
    have h3 : d * z = z * (n * x) + z * (m * y) := by rw [← e]; grind
    have h4 : z * (n * x) = d * (n0 * m * (w * x)) := by rw [hw, hn]; grind
    have h5 : z * (m * y) = d * (n0 * m * (v * y)) := by rw [hv, hn]; grind
    rw [h3, h4, h5]; grind
  exact Int.eq_of_mul_eq_mul_left (by omega) h
theorem crt {n m d x y s r n0 m0 c : Int} (hn0 : 0 < n) (hm0 : 0 < m) (hd : 0 < d) (hn : n = d * n0) (hm : m = d * m0) (hc : s - r = d * c) (e : n * x + m * y = d) (k : Int) :
    (n ∣ k - r ∧ m ∣ k - s) ↔ n0 * m ∣ k - (r + n * (c * x % m0)) % (n0 * m) := by
  have ht : c * x % m0 = c * x - m0 * (c * x / m0) := Int.emod_def ..
  have hr1 : r + n * (c * x % m0) = s - m * (c * y + n0 * (c * x / m0)) := by
    rw [ht]
    have h1 : n * (c * x) = c * d - c * (m * y) := by
      have : c * (n * x) = c * (d - m * y) := by rw [← e]; grind
      grind
    have h2 : n * (m0 * (c * x / m0)) = m * (n0 * (c * x / m0)) := by rw [hn, hm]; grind
    grind
  have hmod : (r + n * (c * x % m0)) % (n0 * m) = (r + n * (c * x % m0)) - n0 * m * ((r + n * (c * x % m0)) / (n0 * m)) := Int.emod_def ..
  have hnm : n0 * m = n * m0 := by rw [hn, hm]; grind
  generalize (r + n * (c * x % m0)) / (n0 * m) = q at hmod
  generalize hR : (r + n * (c * x % m0)) % (n0 * m) = R at *
  have d1 : n ∣ R - r := ⟨c * x % m0 - m0 * q, by rw [hmod, hnm]; grind⟩
  have d2 : m ∣ R - s := ⟨-(c * y + n0 * (c * x / m0)) - n0 * q, by rw [hmod, hr1]; grind⟩
  constructor
  · rintro ⟨h1, h2⟩
    refine both_dvd hd hn e ?_ ?_
    · have := Int.dvd_sub h1 d1
      rwa [show k - r - (R - r) = k - R by omega] at this
    · have := Int.dvd_sub h2 d2
      rwa [show k - s - (R - s) = k - R by omega] at this
  · intro h
    have h1 : n ∣ k - R := Int.dvd_trans ⟨m0, hnm⟩ h
    have h2 : m ∣ k - R := Int.dvd_trans ⟨n0, by grind⟩ h
    constructor
    · have := Int.dvd_add h1 d1
      rwa [show k - R + (R - r) = k - r by omega] at this
    · have := Int.dvd_add h2 d2
      rwa [show k - R + (R - s) = k - s by omega] at this
abbrev tgB : MS := msSeq (msAsg (.many [5, 6, 7]) (mCall 2 f_shared_ways (mCons (mV 2) (mCons (mV 4) mNil))))
  (msSeq (msIf (mTest (mBin neM (mBin modM (mBin subM (mV 3) (mV 1)) (mV 5)) (mC (.int 0)))) (msRaise "NoWay") msNil)
  (msSeq (msAsg (.one 1) (mBin addM (mV 1) (mBin mulM (mV 2) (mBin modM (mBin mulM (mBin divM (mBin subM (mV 3) (mV 1)) (mV 5)) (mV 6)) (mBin divM (mV 4) (mV 5))))))
  (msSeq (msAsg (.one 2) (mBin mulM (mBin divM (mV 2) (mV 5)) (mV 4)))
  (msAug 1 imodM (mV 2)))))
theorem tg_step {S : Store} {r n s m : Int} {R : Mx.D} {z5 z6 z7 : Option Mx.D} (hr0 : 0 ≤ r) (hr1 : r < n) (hn : n ∣ 2520) (hs0 : 0 ≤ s) (hs1 : s ≤ 100) (hm0 : 0 < m) (hm1 : m ≤ 9) (hm : m ∣ 2520) :
    (∃ r' n' w5 w6 w7, tgB [some R, some (.int r), some (.int n), some (.int s), some (.int m), z5, z6, z7] S = .next [some R, some (.int r'), some (.int n'), some (.int s), some (.int m), w5, w6, w7] S ∧ 0 ≤ r' ∧ r' < n' ∧ n' ∣ 2520 ∧ ∀ k, (n ∣ k - r ∧ m ∣ k - s) ↔ n' ∣ k - r') ∨
    (∃ ρ, tgB [some R, some (.int r), some (.int n), some (.int s), some (.int m), z5, z6, z7] S = .exc ⟨"NoWay", none⟩ ρ S ∧ ∀ k, ¬ (n ∣ k - r ∧ m ∣ k - s)) := by
  have hn0 : 0 < n := by omega
  have hn1 : n ≤ 2520 := Int.le_of_dvd (by decide) hn
  obtain ⟨x, y, e, hxy, hx, hy⟩ := shared_ways_eq (a := n) (b := m) (S := S) (by omega) (by omega)
  have hdn : (Int.gcd n m : Int) ∣ n := Int.gcd_dvd_left ..
  have hdm : (Int.gcd n m : Int) ∣ m := Int.gcd_dvd_right ..
  have hd0 : 0 < (Int.gcd n m : Int) := by
    have : 0 < Int.gcd n m := Int.gcd_pos_of_ne_zero_left _ (by omega)
    omega
  generalize (Int.gcd n m : Int) = d at *
  have hd9 : d ≤ 9 := by have := Int.le_of_dvd hm0 hdm; omega
  have dne : d ≠ 0 := by omega
  have cd : CDivM d := cdiv (k := 4) dne (by omega)
  by_cases hq : (s - r) % d = 0
  · left
    obtain ⟨n0, hn'⟩ := hdn
    obtain ⟨m0, hm'⟩ := hdm
    obtain ⟨c, hc⟩ := Int.dvd_of_emod_eq_zero hq
    have e1 : n / d = n0 := by rw [hn']; exact Int.mul_ediv_cancel_left _ dne
    have e2 : m / d = m0 := by rw [hm']; exact Int.mul_ediv_cancel_left _ dne
    have e3 : (s - r) / d = c := by rw [hc]; exact Int.mul_ediv_cancel_left _ dne
    have m0p : 0 < m0 := by
      rcases Int.lt_or_le 0 m0 with q | q
      · exact q
      · have := Int.mul_le_mul_of_nonneg_left q (show 0 ≤ d by omega)
        omega
    have n0p : 0 < n0 := by
      rcases Int.lt_or_le 0 n0 with q | q
      · exact q
      · have := Int.mul_le_mul_of_nonneg_left q (show 0 ≤ d by omega)
        omega
    have m0le : m0 ≤ 9 := by have := Int.ediv_le_self (a := m) d (by omega); omega
    have n0le : n0 ≤ 2520 := by have := Int.ediv_le_self (a := n) d (by omega); omega
    have cabs : c.natAbs ≤ 3000 := by
      have := Int.natAbs_ediv_le_natAbs (s - r) d
      rw [e3] at this
      omega
    have nm : 0 < n0 * m := Int.mul_pos n0p hm0
    have t0 := Int.emod_nonneg (c * x) (show m0 ≠ 0 by omega)
    have t1 := Int.emod_lt_of_pos (c * x) m0p
    have c1 : CMulM c x := cmul (k := 12) (l := 60000) (by omega) hx (by decide)
    have c2 : CMulM n (c * x % m0) := cmul (k := 12) (l := 4) (by omega) (by omega) (by decide)
    have c3 : CMulM n0 m := cmul (k := 12) (l := 4) (by omega) (by omega) (by decide)
    refine ⟨(r + n * (c * x % m0)) % (n0 * m), n0 * m, some (.int d), some (.int x), some (.int y), ?_, Int.emod_nonneg _ (by omega), Int.emod_lt_of_pos _ nm, both_dvd hd0 hn' hxy hn hm, fun k => crt hn0 hm0 hd0 hn' hm' hc hxy k⟩
    simp only [msSeq, OutS.thenS, msAsg, msPar, msIf, msRet, msRetN, msAug, msRaise, msNil, msExpr, msSub, Out.toS, Out.bind, mV, mC, mBin, mTest, mCons, mNil, mTup, mIfE, mNeg, mCB, mCall, mChain, mAnd, mOr, mNot, bindT, setAll, startM, OutS.end_, List.getElem?_cons_zero, List.getElem?_cons_succ, List.set_cons_zero, List.set_cons_succ, List.map_cons, List.map_nil, List.length_cons, List.length_nil, List.replicate, List.append_nil, List.nil_append, List.cons_append, if_true, if_false, eqM_int, neM_int, addM_int, subM_int, modM_pos, cmpM_int, Nat.zero_add, Nat.reduceAdd, Nat.reduceSub, LIM0, LIM1, LIM2, LIM3, LIM4, LIM5, e, modM_pos hd0, hq, decide_true, Bool.not_true, divM_pos cd hd0, e1, e2, e3, mulM_int c1, modM_pos m0p, mulM_int c2, mulM_int c3, imodM_pos nm]
  · right
    have h : ∃ ρ, tgB [some R, some (.int r), some (.int n), some (.int s), some (.int m), z5, z6, z7] S = .exc ⟨"NoWay", none⟩ ρ S := by
      simp only [msSeq, OutS.thenS, msAsg, msPar, msIf, msRet, msRetN, msAug, msRaise, msNil, msExpr, msSub, Out.toS, Out.bind, mV, mC, mBin, mTest, mCons, mNil, mTup, mIfE, mNeg, mCB, mCall, mChain, mAnd, mOr, mNot, bindT, setAll, startM, OutS.end_, List.getElem?_cons_zero, List.getElem?_cons_succ, List.set_cons_zero, List.set_cons_succ, List.map_cons, List.map_nil, List.length_cons, List.length_nil, List.replicate, List.append_nil, List.nil_append, List.cons_append, if_true, if_false, eqM_int, neM_int, addM_int, subM_int, modM_pos, cmpM_int, Nat.zero_add, Nat.reduceAdd, Nat.reduceSub, LIM0, LIM1, LIM2, LIM3, LIM4, LIM5, e, modM_pos hd0, hq, decide_false, Bool.not_false]
      exact ⟨_, rfl⟩
    obtain ⟨ρ, h⟩ := h
    refine ⟨ρ, h, fun k hk => hq ?_⟩
    have h1 := Int.dvd_trans hdn hk.1
    have h2 := Int.dvd_trans hdm hk.2
    have h3 := Int.dvd_sub h1 h2
    rw [show k - r - (k - s) = s - r by omega] at h3
    exact Int.emod_eq_zero_of_dvd h3
def rowOk (q : Int × Int) : Prop := 0 ≤ q.1 ∧ q.1 ≤ 100 ∧ 0 < q.2 ∧ q.2 ≤ 9 ∧ q.2 ∣ 2520
theorem tg_loop (S : Store) (s : Src) (ok : okSrc s S = true) (R : Mx.D) : ∀ (l : List (Int × Int)) (r n : Int) (Fit : Int → Prop) (z3 z4 z5 z6 z7 : Option Mx.D), (∀ q ∈ l, rowOk q) → 0 ≤ r → r < n → n ∣ 2520 → (∀ k, Fit k ↔ n ∣ k - r) →
    (∃ r' n' w3 w4 w5 w6 w7, forL s (.many [3, 4]) tgB (l.map pairD) [some R, some (.int r), some (.int n), z3, z4, z5, z6, z7] S = .next [some R, some (.int r'), some (.int n'), w3, w4, w5, w6, w7] S ∧ 0 ≤ r' ∧ r' < n' ∧ n' ∣ 2520 ∧ ∀ k, (Fit k ∧ ∀ q ∈ l, q.2 ∣ k - q.1) ↔ n' ∣ k - r') ∨
    (∃ ρ, forL s (.many [3, 4]) tgB (l.map pairD) [some R, some (.int r), some (.int n), z3, z4, z5, z6, z7] S = .exc ⟨"NoWay", none⟩ ρ S ∧ ∀ k, ¬ (Fit k ∧ ∀ q ∈ l, q.2 ∣ k - q.1)) := by
  intro l
  induction l with
  | nil =>
    intro r n Fit z3 z4 z5 z6 z7 _ h0 h1 h2 hf
    exact .inl ⟨r, n, z3, z4, z5, z6, z7, for_nil ok, h0, h1, h2, fun k => ⟨fun h => (hf k).mp h.1, fun h => ⟨(hf k).mpr h, fun q hq => by cases hq⟩⟩⟩
  | cons q l ih =>
    intro r n Fit z3 z4 z5 z6 z7 hq h0 h1 h2 hf
    obtain ⟨a1, a2, a3, a4, a5⟩ := hq q List.mem_cons_self
    have hb : bindT (.many [3, 4]) (pairD q) [some R, some (.int r), some (.int n), z3, z4, z5, z6, z7] = some [some R, some (.int r), some (.int n), some (.int q.1), some (.int q.2), z5, z6, z7] := by simp only [msSeq, OutS.thenS, msAsg, msPar, msIf, msRet, msRetN, msAug, msRaise, msNil, msExpr, msSub, Out.toS, Out.bind, mV, mC, mBin, mTest, mCons, mNil, mTup, mIfE, mNeg, mCB, mCall, mChain, mAnd, mOr, mNot, bindT, setAll, startM, OutS.end_, List.getElem?_cons_zero, List.getElem?_cons_succ, List.set_cons_zero, List.set_cons_succ, List.map_cons, List.map_nil, List.length_cons, List.length_nil, List.replicate, List.append_nil, List.nil_append, List.cons_append, if_true, if_false, eqM_int, neM_int, addM_int, subM_int, modM_pos, cmpM_int, Nat.zero_add, Nat.reduceAdd, Nat.reduceSub, LIM0, LIM1, LIM2, LIM3, LIM4, LIM5, pairD]
    rw [List.map_cons]
    rcases tg_step (S := S) (R := R) (z5 := z5) (z6 := z6) (z7 := z7) h0 h1 h2 a1 a2 a3 a4 a5 with ⟨r', n', w5, w6, w7, e, b0, b1, b2, b3⟩ | ⟨ρ, e, b⟩
    · rw [for_cons ok hb e]
      have hf' : ∀ k, (Fit k ∧ q.2 ∣ k - q.1) ↔ n' ∣ k - r' := fun k => by rw [hf k]; exact b3 k
      rcases ih r' n' (fun k => Fit k ∧ q.2 ∣ k - q.1) (some (.int q.1)) (some (.int q.2)) w5 w6 w7 (fun q' h' => hq q' (List.mem_cons_of_mem _ h')) b0 b1 b2 hf' with ⟨r2, n2, v3, v4, v5, v6, v7, e2, c0, c1, c2, c3⟩ | ⟨ρ, e2, c⟩
      · refine .inl ⟨r2, n2, v3, v4, v5, v6, v7, e2, c0, c1, c2, fun k => ?_⟩
        rw [← c3 k]
        constructor
        · rintro ⟨f1, f2⟩
          exact ⟨⟨f1, f2 q List.mem_cons_self⟩, fun q' h' => f2 q' (List.mem_cons_of_mem _ h')⟩
        · rintro ⟨⟨f1, f2⟩, f3⟩
          refine ⟨f1, fun q' h' => ?_⟩
          rcases List.mem_cons.mp h' with z | z
          · rw [z]; exact f2
          · exact f3 q' z
      · refine .inr ⟨ρ, e2, fun k hk => c k ⟨⟨hk.1, hk.2 q List.mem_cons_self⟩, fun q' h' => hk.2 q' (List.mem_cons_of_mem _ h')⟩⟩
    · exact .inr ⟨ρ, for_exc ok hb e, fun k hk => b k ⟨(hf k).mp hk.1, hk.2 q List.mem_cons_self⟩⟩
theorem together_eq {l : List (Int × Int)} {S : Store} {i : Nat} (hi : S[i]? = some (.lst (l.map pairD))) (hl : ∀ q ∈ l, rowOk q) :
    (∃ r n : Int, f_together [.loc i] S = .ok (.tup [.int r, .int n]) S ∧ 0 ≤ r ∧ r < n ∧ n ∣ 2520 ∧ ∀ k : Int, (∀ q ∈ l, q.2 ∣ k - q.1) ↔ n ∣ k - r) ∨ (f_together [.loc i] S = .exc ⟨"NoWay", none⟩ S ∧ ∀ k : Int, ¬ ∀ q ∈ l, q.2 ∣ k - q.1) := by
  have ok : okSrc (some i, l.map pairD) S = true := by unfold okSrc; exact decide_eq_true hi
  have ms : miSeq (mV 0) [some (.loc i), some (.int 0), some (.int 1), none, none, none, none, none] S = .ok (some i, l.map pairD) S := by
    unfold miSeq
    simp only [msSeq, OutS.thenS, msAsg, msPar, msIf, msRet, msRetN, msAug, msRaise, msNil, msExpr, msSub, Out.toS, Out.bind, mV, mC, mBin, mTest, mCons, mNil, mTup, mIfE, mNeg, mCB, mCall, mChain, mAnd, mOr, mNot, bindT, setAll, startM, OutS.end_, List.getElem?_cons_zero, List.getElem?_cons_succ, List.set_cons_zero, List.set_cons_succ, List.map_cons, List.map_nil, List.length_cons, List.length_nil, List.replicate, List.append_nil, List.nil_append, List.cons_append, if_true, if_false, eqM_int, neM_int, addM_int, subM_int, modM_pos, cmpM_int, Nat.zero_add, Nat.reduceAdd, Nat.reduceSub, LIM0, LIM1, LIM2, LIM3, LIM4, LIM5, hi]
  rcases tg_loop S (some i, l.map pairD) ok (.loc i) l 0 1 (fun _ => True) none none none none none hl (by decide) (by decide) (Int.one_dvd _) (fun k => ⟨fun _ => Int.one_dvd _, fun _ => trivial⟩) with ⟨r, n, w3, w4, w5, w6, w7, e, b0, b1, b2, b3⟩ | ⟨ρ, e, b⟩
  · refine .inl ⟨r, n, ?_, b0, b1, b2, fun k => by rw [← b3 k]; simp⟩
    have h : m_together (startM 8 [.loc i]) S = .ret (.tup [.int r, .int n]) S := by
      unfold m_together
      simp only [msSeq, OutS.thenS, msAsg, msPar, msIf, msRet, msRetN, msAug, msRaise, msNil, msExpr, msSub, Out.toS, Out.bind, mV, mC, mBin, mTest, mCons, mNil, mTup, mIfE, mNeg, mCB, mCall, mChain, mAnd, mOr, mNot, bindT, setAll, startM, OutS.end_, List.getElem?_cons_zero, List.getElem?_cons_succ, List.set_cons_zero, List.set_cons_succ, List.map_cons, List.map_nil, List.length_cons, List.length_nil, List.replicate, List.append_nil, List.nil_append, List.cons_append, if_true, if_false, eqM_int, neM_int, addM_int, subM_int, modM_pos, cmpM_int, Nat.zero_add, Nat.reduceAdd, Nat.reduceSub, LIM0, LIM1, LIM2, LIM3, LIM4, LIM5, msFor_ap]
      rw [ms]
      dsimp only
      have e' := e
      first
        | rw [e']
        | erw [e']
      simp only [msSeq, OutS.thenS, msAsg, msPar, msIf, msRet, msRetN, msAug, msRaise, msNil, msExpr, msSub, Out.toS, Out.bind, mV, mC, mBin, mTest, mCons, mNil, mTup, mIfE, mNeg, mCB, mCall, mChain, mAnd, mOr, mNot, bindT, setAll, startM, OutS.end_, List.getElem?_cons_zero, List.getElem?_cons_succ, List.set_cons_zero, List.set_cons_succ, List.map_cons, List.map_nil, List.length_cons, List.length_nil, List.replicate, List.append_nil, List.nil_append, List.cons_append, if_true, if_false, eqM_int, neM_int, addM_int, subM_int, modM_pos, cmpM_int, Nat.zero_add, Nat.reduceAdd, Nat.reduceSub, LIM0, LIM1, LIM2, LIM3, LIM4, LIM5]
    unfold f_together fnM
    rw [h]
    exact fin_same
  · refine .inr ⟨?_, fun k hk => b k ⟨trivial, hk⟩⟩
    have h : m_together (startM 8 [.loc i]) S = .exc ⟨"NoWay", none⟩ ρ S := by
      unfold m_together
      simp only [msSeq, OutS.thenS, msAsg, msPar, msIf, msRet, msRetN, msAug, msRaise, msNil, msExpr, msSub, Out.toS, Out.bind, mV, mC, mBin, mTest, mCons, mNil, mTup, mIfE, mNeg, mCB, mCall, mChain, mAnd, mOr, mNot, bindT, setAll, startM, OutS.end_, List.getElem?_cons_zero, List.getElem?_cons_succ, List.set_cons_zero, List.set_cons_succ, List.map_cons, List.map_nil, List.length_cons, List.length_nil, List.replicate, List.append_nil, List.nil_append, List.cons_append, if_true, if_false, eqM_int, neM_int, addM_int, subM_int, modM_pos, cmpM_int, Nat.zero_add, Nat.reduceAdd, Nat.reduceSub, LIM0, LIM1, LIM2, LIM3, LIM4, LIM5, msFor_ap]
      rw [ms]
      dsimp only
      have e' := e
      first
        | rw [e']
        | erw [e']
    unfold f_together fnM
    rw [h]
    exact fin_exc0
end K01
set_option Elab.async false
set_option linter.all false
set_option maxRecDepth 100000
set_option maxHeartbeats 2000000
/-! k01: the dice. -/
namespace K01
open PySem Mx
theorem ix0 {S : Store} {L : Nat} {a b c : Mx.D} (h : S[L]? = some (.lst [a, b, c])) : ixM (.loc L) (.int 0) S = .ok a S := by
  unfold ixM
  dsimp only
  rw [h]
  rfl
theorem ix1 {S : Store} {L : Nat} {a b c : Mx.D} (h : S[L]? = some (.lst [a, b, c])) : ixM (.loc L) (.int 1) S = .ok b S := by
  unfold ixM
  dsimp only
  rw [h]
  rfl
theorem ix2 {S : Store} {L : Nat} {a b c : Mx.D} (h : S[L]? = some (.lst [a, b, c])) : ixM (.loc L) (.int 2) S = .ok c S := by
  unfold ixM
  dsimp only
  rw [h]
  rfl
theorem st0 {S : Store} {L : Nat} {a b c d : Mx.D} (h : S[L]? = some (.lst [a, b, c])) : setLM (.loc L) (.int 0) d S = .ok () (S.set L (.lst [d, b, c])) := by
  unfold setLM
  dsimp only
  rw [h]
  rfl
theorem st1 {S : Store} {L : Nat} {a b c d : Mx.D} (h : S[L]? = some (.lst [a, b, c])) : setLM (.loc L) (.int 1) d S = .ok () (S.set L (.lst [a, d, c])) := by
  unfold setLM
  dsimp only
  rw [h]
  rfl
theorem st2 {S : Store} {L : Nat} {a b c d : Mx.D} (h : S[L]? = some (.lst [a, b, c])) : setLM (.loc L) (.int 2) d S = .ok () (S.set L (.lst [a, b, d])) := by
  unfold setLM
  dsimp only
  rw [h]
  rfl
theorem fin_set {S : Store} {L : Nat} {o : SO} {d : Mx.D} : fin S (.ok d (S.set L o)) = .ok d (S.set L o) := by
  unfold fin
  dsimp only
  split
  · rw [List.take_of_length_le (by simp)]
  · rfl
theorem fin_new {S T : Store} : fin S (.ok (.loc S.length) (S ++ T)) = .ok (.loc S.length) (S ++ T) := by
  unfold fin
  dsimp only
  have h : D.blw S.length (.loc S.length) = false := decide_eq_false (Nat.lt_irrefl _)
  rw [h]
  rfl
structure DOk (B : Nat) (x0 x1 x2 : Int) : Prop where
  a : x0.natAbs < 2 ^ 1100000
  b : 0 ≤ x1
  c : x1.toNat ≤ B
  d : x2 = 0 ∨ x2 = 1 ∨ x2 = 2
theorem roll_eq {S : Store} {L B : Nat} {x0 x1 x2 many : Int} (h : S[L]? = some (.lst [.int x0, .int x1, .int x2])) (D : DOk B x0 x1 x2) (hB : B < 1000000) (h0 : 0 < many) (h1 : many < 4096) :
    ∃ v y0 y1 y2 : Int, f__law_roll [.loc L, .int many] S = .ok (.int v) (S.set L (.lst [.int y0, .int y1, .int y2])) ∧ 0 ≤ v ∧ v < many ∧ DOk (B + 1) y0 y1 y2 := by
  obtain ⟨da, db, dc, dd⟩ := D
  have hL : L < S.length := (List.getElem?_eq_some_iff.mp h).1
  have hne : many ≠ 0 := by omega
  have cd : CDivM many := cdiv (k := 12) hne (by omega)
  have g : ∀ o : SO, (S.set L o)[L]? = some o := fun o => List.getElem?_set_self hL
  have ss : ∀ o o' : SO, (S.set L o).set L o' = S.set L o' := fun o o' => List.set_set ..
  by_cases hq : x2 = 2 ∨ (x2 = 1 ∧ 0 < x0)
  · refine ⟨x0 % many, x0 / many, x1, x2, ?_, Int.emod_nonneg _ hne, Int.emod_lt_of_pos _ h0, ?_, db, by omega, dd⟩
    · have e : m__law_roll (startM 3 [.loc L, .int many]) S = .ret (.int (x0 % many)) (S.set L (.lst [.int (x0 / many), .int x1, .int x2])) := by
        unfold m__law_roll
        rcases hq with q | ⟨q, q2⟩
        · subst q
          simp only [msSeq, OutS.thenS, msAsg, msPar, msIf, msRet, msRetN, msAug, msRaise, msNil, msExpr, msSub, Out.toS, Out.bind, mV, mC, mBin, mTest, mCons, mNil, mTup, mIfE, mNeg, mCB, mCall, mChain, mAnd, mOr, mNot, bindT, setAll, startM, OutS.end_, List.getElem?_cons_zero, List.getElem?_cons_succ, List.set_cons_zero, List.set_cons_succ, List.map_cons, List.map_nil, List.length_cons, List.length_nil, List.replicate, List.append_nil, List.nil_append, List.cons_append, if_true, if_false, eqM_int, neM_int, addM_int, subM_int, modM_pos, cmpM_int, Nat.zero_add, Nat.reduceAdd, Nat.reduceSub, LIM0, LIM1, LIM2, LIM3, LIM4, LIM5, ix2 h, ix0 h, int1M, decide_true, modM_pos h0, divM_pos cd h0, st0 h]
        · subst q
          simp only [msSeq, OutS.thenS, msAsg, msPar, msIf, msRet, msRetN, msAug, msRaise, msNil, msExpr, msSub, Out.toS, Out.bind, mV, mC, mBin, mTest, mCons, mNil, mTup, mIfE, mNeg, mCB, mCall, mChain, mAnd, mOr, mNot, bindT, setAll, startM, OutS.end_, List.getElem?_cons_zero, List.getElem?_cons_succ, List.set_cons_zero, List.set_cons_succ, List.map_cons, List.map_nil, List.length_cons, List.length_nil, List.replicate, List.append_nil, List.nil_append, List.cons_append, if_true, if_false, eqM_int, neM_int, addM_int, subM_int, modM_pos, cmpM_int, Nat.zero_add, Nat.reduceAdd, Nat.reduceSub, LIM0, LIM1, LIM2, LIM3, LIM4, LIM5, ix2 h, ix0 h, int1M, q2, decide_true, show decide ((1 : Int) = 2) = false from rfl, modM_pos h0, divM_pos cd h0, st0 h]
      unfold f__law_roll fnM
      rw [e]
      exact fin_set
    · exact Nat.lt_of_le_of_lt (Int.natAbs_ediv_le_natAbs _ _) da
  · have hx1 : x1.natAbs < 2 ^ 40 := by omega
    have c1 : CMulM x0 48271 := cmul (k := 1100000) (l := 16) da (by decide) (by decide)
    have c2 : CMulM x1 69621 := cmul (k := 40) (l := 17) hx1 (by decide) (by decide)
    have p31 : (0 : Int) < 2147483647 := by decide
    have c7 : CDivM 7 := cdiv (k := 3) (by decide) (by decide)
    have e0 := Int.emod_nonneg (x0 * 48271 + x1 * 69621 + 11) (show (2147483647 : Int) ≠ 0 by decide)
    have e1 := Int.emod_lt_of_pos (x0 * 48271 + x1 * 69621 + 11) p31
    generalize hy : (x0 * 48271 + x1 * 69621 + 11) % 2147483647 = y at *
    refine ⟨(y / 7 + y) % many, y, x1 + 1, 0, ?_, Int.emod_nonneg _ hne, Int.emod_lt_of_pos _ h0, ?_, by omega, by omega, .inl rfl⟩
    · have e : m__law_roll (startM 3 [.loc L, .int many]) S = .ret (.int ((y / 7 + y) % many)) (S.set L (.lst [.int y, .int (x1 + 1), .int 0])) := by
        unfold m__law_roll
        have q1 : ¬ x2 = 2 := fun z => hq (.inl z)
        by_cases q2 : x2 = 1
        · have q3 : ¬ 0 < x0 := fun z => hq (.inr ⟨q2, z⟩)
          subst q2
          simp only [msSeq, OutS.thenS, msAsg, msPar, msIf, msRet, msRetN, msAug, msRaise, msNil, msExpr, msSub, Out.toS, Out.bind, mV, mC, mBin, mTest, mCons, mNil, mTup, mIfE, mNeg, mCB, mCall, mChain, mAnd, mOr, mNot, bindT, setAll, startM, OutS.end_, List.getElem?_cons_zero, List.getElem?_cons_succ, List.set_cons_zero, List.set_cons_succ, List.map_cons, List.map_nil, List.length_cons, List.length_nil, List.replicate, List.append_nil, List.nil_append, List.cons_append, if_true, if_false, eqM_int, neM_int, addM_int, subM_int, modM_pos, cmpM_int, Nat.zero_add, Nat.reduceAdd, Nat.reduceSub, LIM0, LIM1, LIM2, LIM3, LIM4, LIM5, ix2 h, ix0 h, int1M, q3, decide_true, decide_false, show decide ((1 : Int) = 2) = false from rfl, st2 h, ix0 (g _), ix1 (g _), st0 (g _), st1 (g _), ss, mulM_int c1, mulM_int c2, modM_pos p31, hy, divM_pos c7 (show (0 : Int) < 7 by decide), modM_pos h0]
        · simp only [msSeq, OutS.thenS, msAsg, msPar, msIf, msRet, msRetN, msAug, msRaise, msNil, msExpr, msSub, Out.toS, Out.bind, mV, mC, mBin, mTest, mCons, mNil, mTup, mIfE, mNeg, mCB, mCall, mChain, mAnd, mOr, mNot, bindT, setAll, startM, OutS.end_, List.getElem?_cons_zero, List.getElem?_cons_succ, List.set_cons_zero, List.set_cons_succ, List.map_cons, List.map_nil, List.length_cons, List.length_nil, List.replicate, List.append_nil, List.nil_append, List.cons_append, if_true, if_false, eqM_int, neM_int, addM_int, subM_int, modM_pos, cmpM_int, Nat.zero_add, Nat.reduceAdd, Nat.reduceSub, LIM0, LIM1, LIM2, LIM3, LIM4, LIM5, ix2 h, ix0 h, int1M, q1, q2, decide_true, decide_false, st2 h, ix0 (g _), ix1 (g _), st0 (g _), st1 (g _), ss, mulM_int c1, mulM_int c2, modM_pos p31, hy, divM_pos c7 (show (0 : Int) < 7 by decide), modM_pos h0]
      unfold f__law_roll fnM
      rw [e]
      exact fin_set
    · have : y.natAbs < 2 ^ 31 := by omega
      exact Nat.lt_of_lt_of_le this (Nat.pow_le_pow_right (by decide) (by decide))
end K01
set_option Elab.async false
set_option linter.all false
set_option maxRecDepth 100000
set_option maxHeartbeats 2000000
/-! k01: the rounds. -/
namespace K01
open PySem Mx
theorem dice_eq {S : Store} {c : Int} (hc : c.natAbs < 2 ^ 1100000) : ∃ x0 x1 x2 : Int, f__law_dice [.int c] S = .ok (.loc S.length) (S ++ [.lst [.int x0, .int x1, .int x2]]) ∧ DOk 1100 x0 x1 x2 := by
  by_cases h : -10 < c ∧ c < 10
  · refine ⟨if c < 0 then -c else c, 0, 2, ?_, ?_, by decide, by decide, .inr (.inr rfl)⟩
    · have e : m__law_dice (startM 1 [.int c]) S = .ret (.loc S.length) (S ++ [.lst [.int (if c < 0 then -c else c), .int 0, .int 2]]) := by
        unfold m__law_dice
        simp only [msSeq, OutS.thenS, msAsg, msPar, msIf, msRet, msRetN, msAug, msRaise, msNil, msExpr, msSub, Out.toS, Out.bind, mV, mC, mBin, mTest, mCons, mNil, mTup, mIfE, mNeg, mCB, mCall, mChain, mAnd, mOr, mNot, bindT, setAll, startM, OutS.end_, List.getElem?_cons_zero, List.getElem?_cons_succ, List.set_cons_zero, List.set_cons_succ, List.map_cons, List.map_nil, List.length_cons, List.length_nil, List.replicate, List.append_nil, List.nil_append, List.cons_append, if_true, if_false, eqM_int, neM_int, addM_int, subM_int, modM_pos, cmpM_int, Nat.zero_add, Nat.reduceAdd, Nat.reduceSub, LIM0, LIM1, LIM2, LIM3, LIM4, LIM5, show decide ((0 : Int) - 10 < c) = true from decide_eq_true (by omega), h.2, decide_true, mLst, absM]
      unfold f__law_dice fnM
      rw [e]
      exact fin_new
    · have : (if c < 0 then -c else c).natAbs = c.natAbs := by split <;> omega
      rw [this]; exact hc
  · have p18 : powM (.int 10) (.int 18) S = .ok (.int (10 ^ 18)) S := by
      unfold powM
      exact if_pos ⟨by decide, by decide, by decide⟩
    have m0 := Int.emod_nonneg c (show (1009 : Int) ≠ 0 by decide)
    have m1 := Int.emod_lt_of_pos c (show (0 : Int) < 1009 by decide)
    refine ⟨c, 1 + c % 1009, if decide (10 ^ 18 ≤ c) = true then 1 else 0, ?_, hc, by omega, by omega, by split <;> omega⟩
    have e : m__law_dice (startM 1 [.int c]) S = .ret (.loc S.length) (S ++ [.lst [.int c, .int (1 + c % 1009), .int (if decide (10 ^ 18 ≤ c) = true then 1 else 0)]]) := by
      unfold m__law_dice
      by_cases q1 : -10 < c
      · have q2 : ¬ c < 10 := fun z => h ⟨q1, z⟩
        simp only [msSeq, OutS.thenS, msAsg, msPar, msIf, msRet, msRetN, msAug, msRaise, msNil, msExpr, msSub, Out.toS, Out.bind, mV, mC, mBin, mTest, mCons, mNil, mTup, mIfE, mNeg, mCB, mCall, mChain, mAnd, mOr, mNot, bindT, setAll, startM, OutS.end_, List.getElem?_cons_zero, List.getElem?_cons_succ, List.set_cons_zero, List.set_cons_succ, List.map_cons, List.map_nil, List.length_cons, List.length_nil, List.replicate, List.append_nil, List.nil_append, List.cons_append, if_true, if_false, eqM_int, neM_int, addM_int, subM_int, modM_pos, cmpM_int, Nat.zero_add, Nat.reduceAdd, Nat.reduceSub, LIM0, LIM1, LIM2, LIM3, LIM4, LIM5, show decide ((0 : Int) - 10 < c) = true from decide_eq_true (by omega), q2, decide_false, mLst, int1M, p18, modM_pos (show (0 : Int) < 1009 by decide)]
      · simp only [msSeq, OutS.thenS, msAsg, msPar, msIf, msRet, msRetN, msAug, msRaise, msNil, msExpr, msSub, Out.toS, Out.bind, mV, mC, mBin, mTest, mCons, mNil, mTup, mIfE, mNeg, mCB, mCall, mChain, mAnd, mOr, mNot, bindT, setAll, startM, OutS.end_, List.getElem?_cons_zero, List.getElem?_cons_succ, List.set_cons_zero, List.set_cons_succ, List.map_cons, List.map_nil, List.length_cons, List.length_nil, List.replicate, List.append_nil, List.nil_append, List.cons_append, if_true, if_false, eqM_int, neM_int, addM_int, subM_int, modM_pos, cmpM_int, Nat.zero_add, Nat.reduceAdd, Nat.reduceSub, LIM0, LIM1, LIM2, LIM3, LIM4, LIM5, show decide ((0 : Int) - 10 < c) = false from decide_eq_false (by omega), mLst, int1M, p18, modM_pos (show (0 : Int) < 1009 by decide)]
    unfold f__law_dice fnM
    rw [e]
    exact fin_new
/-- d is a die in S -/
def Die (B : Nat) (S : Store) (d : Mx.D) : Prop := ∃ (L : Nat) (x0 x1 x2 : Int), d = .loc L ∧ S[L]? = some (.lst [.int x0, .int x1, .int x2]) ∧ DOk B x0 x1 x2
theorem Die.app {B : Nat} {S T : Store} {d : Mx.D} (h : Die B S d) : Die B (S ++ T) d := by
  obtain ⟨L, x0, x1, x2, e, g, D⟩ := h
  exact ⟨L, x0, x1, x2, e, by rw [List.getElem?_append_left (List.getElem?_eq_some_iff.mp g).1]; exact g, D⟩
theorem compL_step {s : Src} {t : Tg} {c : MT} {e : ME} {ρ0 ρ1 : Env'} {x y : Mx.D} {xs : List Mx.D} {S S2 : Store} (ok : okSrc s S = true) (hb : bindT t x ρ0 = some ρ1) (hc : c ρ1 S = .ok true S) (he : e ρ1 S = .ok y S2) :
    compL s t c e ρ0 (x :: xs) S = (compL s t c e ρ0 xs S2).bind fun ys S3 => .ok (y :: ys) S3 := by
  rw [compL, if_pos ok, hb]
  dsimp only
  rw [hc, ok_noX, ok_bind]
  dsimp only
  rw [he, ok_noX, ok_bind]
theorem dies_loop (i : Nat) (src : List Mx.D) (z0 z1 z2 : Option Mx.D) : ∀ (l : List Int) (S : Store), S[i]? = some (.lst src) → (∀ c ∈ l, c.natAbs < 2 ^ 1100000) →
    ∃ ds T, compL (some i, src) (.one 3) mYes (mCall 1 f__law_dice (mCons (mV 3) mNil)) [z0, z1, z2, none] (l.map .int) S = .ok ds (S ++ T) ∧ ds.length = l.length ∧ ∀ d ∈ ds, Die 1100 (S ++ T) d := by
  intro l
  induction l with
  | nil =>
    intro S hi _
    refine ⟨[], [], ?_, rfl, fun d hd => by cases hd⟩
    unfold compL
    rw [List.append_nil]
    exact if_pos (by unfold okSrc; exact decide_eq_true hi)
  | cons c l ih =>
    intro S hi hc
    obtain ⟨x0, x1, x2, e, D⟩ := dice_eq (S := S) (hc c List.mem_cons_self)
    have hi2 : (S ++ [SO.lst [.int x0, .int x1, .int x2]])[i]? = some (.lst src) := by rw [List.getElem?_append_left (List.getElem?_eq_some_iff.mp hi).1]; exact hi
    obtain ⟨ds, T, e2, hl, hd⟩ := ih (S ++ [.lst [.int x0, .int x1, .int x2]]) hi2 fun c' h' => hc c' (List.mem_cons_of_mem _ h')
    have hcall : mCall 1 f__law_dice (mCons (mV 3) mNil) [z0, z1, z2, some (.int c)] S = .ok (.loc S.length) (S ++ [.lst [.int x0, .int x1, .int x2]]) := (mCall_ok (ds := [.int c]) (S1 := S) rfl rfl).trans e
    refine ⟨.loc S.length :: ds, [.lst [.int x0, .int x1, .int x2]] ++ T, ?_, by simp [hl], fun d hd' => ?_⟩
    · rw [List.map_cons, compL_step (ρ1 := [z0, z1, z2, some (.int c)]) (by unfold okSrc; exact decide_eq_true hi) rfl rfl hcall, e2, ok_bind, List.append_assoc]
    · rw [← List.append_assoc]
      rcases List.mem_cons.mp hd' with q | q
      · subst q
        exact Die.app ⟨S.length, x0, x1, x2, rfl, by simp, D⟩
      · exact hd d q
end K01
set_option Elab.async false
set_option linter.all false
set_option maxRecDepth 100000
set_option maxHeartbeats 2000000
/-! k01: the rounds. -/
namespace K01
open PySem Mx
theorem mLc_ok {vs : List Nat} {mi : MI} {t : Tg} {c : MT} {e : ME} {ρ : Env'} {S S1 S2 : Store} {s : Src} {ys : List Mx.D} (h1 : mi ρ S = .ok s S1) (hl : s.2.length ≤ LIM) (h2 : compL s t c e (wipeM ρ vs) s.2 S1 = .ok ys S2) : mLc vs mi t c e ρ S = .ok (.loc S2.length) (S2 ++ [.lst ys]) := by
  unfold mLc
  rw [h1, ok_bind, if_pos hl, h2, ok_bind]
theorem miSeq_loc {a : ME} {ρ : Env'} {S : Store} {i : Nat} {xs : List Mx.D} (ha : a ρ S = .ok (.loc i) S) (hi : S[i]? = some (.lst xs)) : miSeq a ρ S = .ok (some i, xs) S := by
  unfold miSeq
  rw [ha, ok_bind]
  dsimp only
  rw [hi]
theorem fin_newj {S T : Store} {j : Nat} (h : S.length ≤ j) : fin S (.ok (.loc j) (S ++ T)) = .ok (.loc j) (S ++ T) := by
  unfold fin
  dsimp only
  have h : D.blw S.length (.loc j) = false := decide_eq_false (Nat.not_lt.mpr h)
  rw [h]
  rfl
theorem rounds_tail {S T : Store} {d : Mx.D} {most : Int} {i : Nat} {cs : List Int} (hi : (S ++ T)[i]? = some (.lst (cs.map .int))) (hc : ∀ c ∈ cs, c.natAbs < 2 ^ 1100000) (hl : cs.length ≤ 100) :
    ∃ j ds T', msRet (mLc [3] (miSeq (mV 2)) (.one 3) mYes (mCall 1 f__law_dice (mCons (mV 3) mNil))) [some d, some (.int most), some (.loc i), none] (S ++ T) = .ret (.loc j) (S ++ T') ∧ S.length ≤ j ∧ (S ++ T')[j]? = some (.lst ds) ∧ ds.length ≤ 100 ∧ ∀ x ∈ ds, Die 1100 (S ++ T') x := by
  obtain ⟨ds, T2, e, h1, h2⟩ := dies_loop i (cs.map .int) (some d) (some (.int most)) (some (.loc i)) cs (S ++ T) hi hc
  have w : wipeM [some d, some (.int most), some (.loc i), none] [3] = [some d, some (.int most), some (.loc i), none] := rfl
  have lc := mLc_ok (vs := [3]) (mi := miSeq (mV 2)) (t := .one 3) (c := mYes) (e := mCall 1 f__law_dice (mCons (mV 3) mNil)) (ρ := [some d, some (.int most), some (.loc i), none]) (S := S ++ T) (miSeq_loc rfl hi) (by dsimp only; rw [List.length_map]; unfold LIM; omega) (by rw [w]; exact e)
  refine ⟨(S ++ T ++ T2).length, ds, T ++ T2 ++ [.lst ds], ?_, by simp, ?_, by omega, fun x hx => ?_⟩
  · unfold msRet
    rw [lc]
    simp only [Out.toS, List.append_assoc]
  · rw [show S ++ (T ++ T2 ++ [SO.lst ds]) = S ++ T ++ T2 ++ [SO.lst ds] by simp]
    simp
  · rw [show S ++ (T ++ T2 ++ [SO.lst ds]) = S ++ T ++ T2 ++ [SO.lst ds] by simp]
    exact (h2 x hx).app
theorem rounds_eq {S : Store} {d : Mx.D} {most : Int} {cs : List Int} (hs : slM d none (some most) S = .ok (.loc S.length) (S ++ [.lst (cs.map .int)])) (hc : ∀ c ∈ cs, c.natAbs < 2 ^ 1100000) (hl : cs.length ≤ 100) :
    ∃ j ds T, f__law_rounds [d, .int most] S = .ok (.loc j) (S ++ T) ∧ S.length ≤ j ∧ (S ++ T)[j]? = some (.lst ds) ∧ ds.length ≤ 100 ∧ ∀ x ∈ ds, Die 1100 (S ++ T) x := by
  have sl : mSl (mV 0) mNoP (mP (mV 1)) [some d, some (.int most), none, none] S = .ok (.loc S.length) (S ++ [.lst (cs.map .int)]) := hs
  have l1 : (S ++ [SO.lst (cs.map .int)]).length = S.length + 1 := by simp
  have g1 : (S ++ [SO.lst (cs.map .int)] ++ [SO.lst []])[S.length]? = some (.lst (cs.map .int)) := by simp
  have g2 : (S ++ [SO.lst (cs.map .int)] ++ [SO.lst []])[S.length + 1]? = some (.lst ([].map .int)) := by simp
  have he := eqM_lsts g1 g2
  have key : ∃ j ds T, m__law_rounds (startM 4 [d, .int most]) S = .ret (.loc j) (S ++ T) ∧ S.length ≤ j ∧ (S ++ T)[j]? = some (.lst ds) ∧ ds.length ≤ 100 ∧ ∀ x ∈ ds, Die 1100 (S ++ T) x := by
    have start : startM 4 [d, .int most] = [some d, some (.int most), none, none] := rfl
    have step1 : msAsg (.one 2) (mSl (mV 0) mNoP (mP (mV 1))) [some d, some (.int most), none, none] S = .next [some d, some (.int most), some (.loc S.length), none] (S ++ [.lst (cs.map .int)]) := by
      unfold msAsg
      rw [sl]
      rfl
    by_cases hq : cs = []
    · have step2 : msIf (mTest (mBin eqM (mV 2) (mLst mNil))) (msAsg (.one 2) (mLst (mCons (mC (.int 0)) mNil))) msNil [some d, some (.int most), some (.loc S.length), none] (S ++ [.lst (cs.map .int)]) = .next [some d, some (.int most), some (.loc (S.length + 2)), none] (S ++ ([.lst (cs.map .int)] ++ [.lst []] ++ [.lst [.int 0]])) := by
        simp only [msSeq, OutS.thenS, msAsg, msPar, msIf, msRet, msRetN, msAug, msRaise, msNil, msExpr, msSub, Out.toS, Out.bind, mV, mC, mBin, mTest, mCons, mNil, mTup, mIfE, mNeg, mCB, mCall, mChain, mAnd, mOr, mNot, bindT, setAll, startM, OutS.end_, List.getElem?_cons_zero, List.getElem?_cons_succ, List.set_cons_zero, List.set_cons_succ, List.map_cons, List.map_nil, List.length_cons, List.length_nil, List.replicate, List.append_nil, List.nil_append, List.cons_append, if_true, if_false, eqM_int, neM_int, addM_int, subM_int, modM_pos, cmpM_int, Nat.zero_add, Nat.reduceAdd, Nat.reduceSub, LIM0, LIM1, LIM2, LIM3, LIM4, LIM5, mLst, l1, he, show decide (cs = []) = true from decide_eq_true hq]
        simp
      obtain ⟨j, ds, T, e, r⟩ := rounds_tail (S := S) (T := [.lst (cs.map .int)] ++ [.lst []] ++ [.lst [.int 0]]) (d := d) (most := most) (i := S.length + 2) (cs := [0]) (by simp) (by intro c h; have := List.mem_singleton.mp h; subst this; exact Nat.two_pow_pos _) (by decide)
      refine ⟨j, ds, T, ?_, r⟩
      rw [start]
      unfold m__law_rounds msSeq
      rw [step1]
      dsimp only [OutS.thenS]
      rw [step2]
      exact e
    · have step2 : msIf (mTest (mBin eqM (mV 2) (mLst mNil))) (msAsg (.one 2) (mLst (mCons (mC (.int 0)) mNil))) msNil [some d, some (.int most), some (.loc S.length), none] (S ++ [.lst (cs.map .int)]) = .next [some d, some (.int most), some (.loc S.length), none] (S ++ ([.lst (cs.map .int)] ++ [.lst []])) := by
        simp only [msSeq, OutS.thenS, msAsg, msPar, msIf, msRet, msRetN, msAug, msRaise, msNil, msExpr, msSub, Out.toS, Out.bind, mV, mC, mBin, mTest, mCons, mNil, mTup, mIfE, mNeg, mCB, mCall, mChain, mAnd, mOr, mNot, bindT, setAll, startM, OutS.end_, List.getElem?_cons_zero, List.getElem?_cons_succ, List.set_cons_zero, List.set_cons_succ, List.map_cons, List.map_nil, List.length_cons, List.length_nil, List.replicate, List.append_nil, List.nil_append, List.cons_append, if_true, if_false, eqM_int, neM_int, addM_int, subM_int, modM_pos, cmpM_int, Nat.zero_add, Nat.reduceAdd, Nat.reduceSub, LIM0, LIM1, LIM2, LIM3, LIM4, LIM5, mLst, l1, he, show decide (cs = []) = false from decide_eq_false hq]
        simp
      obtain ⟨j, ds, T, e, r⟩ := rounds_tail (S := S) (T := [.lst (cs.map .int)] ++ [.lst []]) (d := d) (most := most) (i := S.length) (cs := cs) (by simp) hc hl
      refine ⟨j, ds, T, ?_, r⟩
      rw [start]
      unfold m__law_rounds msSeq
      rw [step1]
      dsimp only [OutS.thenS]
      rw [step2]
      exact e
  obtain ⟨j, ds, T, e, r⟩ := key
  refine ⟨j, ds, T, ?_, r⟩
  unfold f__law_rounds fnM
  rw [e]
  exact fin_newj r.1
end K01
set_option Elab.async false
set_option linter.all false
set_option maxRecDepth 100000
set_option maxHeartbeats 2000000
/-! k01: comprehensions that pick. -/
namespace K01
open PySem Mx
def rangeI (lo : Int) : Nat → List Int
  | 0 => []
  | n + 1 => lo :: rangeI (lo + 1) n
theorem rangeD_map : ∀ (n : Nat) (lo : Int), rangeD lo n = (rangeI lo n).map Mx.D.int
  | 0, _ => rfl
  | n + 1, lo => by
    show Mx.D.int lo :: rangeD (lo + 1) n = Mx.D.int lo :: (rangeI (lo + 1) n).map Mx.D.int
    rw [rangeD_map n (lo + 1)]
theorem rangeI_mem {k : Int} : ∀ {n : Nat} {lo : Int}, k ∈ rangeI lo n ↔ lo ≤ k ∧ k < lo + n
  | 0, lo => by
    constructor
    · intro h; cases h
    · intro h; omega
  | n + 1, lo => by
    show k ∈ lo :: rangeI (lo + 1) n ↔ _
    rw [List.mem_cons, rangeI_mem]
    omega
theorem rangeI_len : ∀ (n : Nat) (lo : Int), (rangeI lo n).length = n
  | 0, _ => rfl
  | n + 1, lo => by simp [rangeI, rangeI_len n]
theorem rangeI_sorted : ∀ (n : Nat) (lo : Int), (rangeI lo n).Pairwise (· < ·)
  | 0, _ => List.Pairwise.nil
  | n + 1, lo => by
    refine List.pairwise_cons.mpr ⟨fun y hy => ?_, rangeI_sorted n (lo + 1)⟩
    have := rangeI_mem.mp hy
    omega
theorem compL_skip {s : Src} {t : Tg} {c : MT} {e : ME} {ρ0 ρ1 : Env'} {x : Mx.D} {xs : List Mx.D} {S S1 : Store} (ok : okSrc s S = true) (hb : bindT t x ρ0 = some ρ1) (hc : c ρ1 S = .ok false S1) :
    compL s t c e ρ0 (x :: xs) S = compL s t c e ρ0 xs S1 := by
  rw [compL, if_pos ok, hb]
  dsimp only
  rw [hc, ok_noX, ok_bind]
theorem compL_take {s : Src} {t : Tg} {c : MT} {e : ME} {ρ0 ρ1 : Env'} {x y : Mx.D} {xs : List Mx.D} {S S1 S2 : Store} (ok : okSrc s S = true) (hb : bindT t x ρ0 = some ρ1) (hc : c ρ1 S = .ok true S1) (he : e ρ1 S1 = .ok y S2) :
    compL s t c e ρ0 (x :: xs) S = (compL s t c e ρ0 xs S2).bind fun ys S3 => .ok (y :: ys) S3 := by
  rw [compL, if_pos ok, hb]
  dsimp only
  rw [hc, ok_noX, ok_bind]
  dsimp only
  rw [he, ok_noX, ok_bind]
/-- [x for x in l if c]: c may lay new objects behind S -/
theorem pick_loop {s : Src} (hs : s.1 = none) {S : Store} {i : Nat} {c : MT} {ρ0 : Env'} {p : Int → Bool} (hi : i < ρ0.length) : ∀ (l : List Int) (T : Store), (∀ k ∈ l, ∀ T, ∃ T', c (ρ0.set i (some (.int k))) (S ++ T) = .ok (p k) (S ++ T')) →
    ∃ T', compL s (.one i) c (mV i) ρ0 (l.map .int) (S ++ T) = .ok ((l.filter p).map .int) (S ++ T') := by
  have ok : ∀ X, okSrc s X = true := fun X => by unfold okSrc; rw [hs]
  intro l
  induction l with
  | nil => intro T _; exact ⟨T, by unfold compL; exact if_pos (ok _)⟩
  | cons k l ih =>
    intro T h
    obtain ⟨T1, h1⟩ := h k List.mem_cons_self T
    obtain ⟨T2, h2⟩ := ih T1 fun k' hk' => h k' (List.mem_cons_of_mem _ hk')
    refine ⟨T2, ?_⟩
    rw [List.map_cons, List.filter_cons]
    cases hp : p k with
    | true =>
      rw [hp] at h1
      have he : mV i (ρ0.set i (some (.int k))) (S ++ T1) = .ok (.int k) (S ++ T1) := by
        unfold mV
        rw [List.getElem?_set_self hi]
      rw [compL_take (ok _) rfl h1 he, h2, ok_bind]
      rfl
    | false =>
      rw [hp] at h1
      rw [compL_skip (ok _) rfl h1, h2]
      rfl
theorem pick_eq {mi : MI} {s : Src} {vs : List Nat} {S T : Store} {i : Nat} {c : MT} {ρ : Env'} {p : Int → Bool} {l : List Int} (hm : mi ρ (S ++ T) = .ok s (S ++ T)) (hs : s.1 = none) (hl : s.2 = l.map .int) (hlen : l.length ≤ 100000) (hi : i < (wipeM ρ vs).length)
    (h : ∀ k ∈ l, ∀ T, ∃ T', c ((wipeM ρ vs).set i (some (.int k))) (S ++ T) = .ok (p k) (S ++ T')) :
    ∃ T' j, mLc vs mi (.one i) c (mV i) ρ (S ++ T) = .ok (.loc j) (S ++ T') ∧ S.length ≤ j ∧ (S ++ T')[j]? = some (.lst ((l.filter p).map .int)) := by
  obtain ⟨T1, e⟩ := pick_loop (s := s) hs hi l T h
  rw [← hl] at e
  refine ⟨T1 ++ [.lst ((l.filter p).map .int)], (S ++ T1).length, ?_, by simp, ?_⟩
  · rw [mLc_ok hm (by rw [hl, List.length_map]; unfold LIM; omega) e, List.append_assoc]
  · rw [← List.append_assoc]
    simp
end K01
set_option Elab.async false
set_option linter.all false
set_option maxRecDepth 100000
set_option maxHeartbeats 2000000
/-! k01: finite checks: signs, turns. -/
namespace K01
open PySem Mx
def legP (a p : Int) : Int := if a % p = 0 then 0 else if (rangeI 0 p.toNat).filter (fun k => decide ((k * k - a) % p = 0)) ≠ [] then 1 else 0 - 1
def sgF (a : Int) (s : Int) (q : Int × Int) : Int := s * legP a q.1 ^ q.2.toNat
def sgT (a n : Int) : Int := (parL n).foldl (sgF a) 1
def chkS (j : Nat) : Bool := (List.range (2 * j + 1)).all fun a => decide (sgL (Int.ofNat a) (2 * Int.ofNat j + 1) = sgT (Int.ofNat a) (2 * Int.ofNat j + 1))
theorem chkS_all : (List.range 30).all chkS = true := by decide +kernel
def chkD (j : Nat) : Bool := (parL (2 * Int.ofNat j + 1)).all fun q => decide ((2 * Int.ofNat j + 1) % q.1 = 0)
theorem chkD_all : (List.range 30).all chkD = true := by decide +kernel
theorem legP_mod {a n p : Int} (h : n % p = 0) : legP (a % n) p = legP a p := by
  have hd : p ∣ n := Int.dvd_of_emod_eq_zero h
  have e1 : a % n % p = a % p := Int.emod_emod_of_dvd a hd
  have e2 : ∀ k, (k * k - a % n) % p = (k * k - a) % p := fun k => by rw [Int.sub_emod, e1, ← Int.sub_emod]
  unfold legP
  rw [e1]
  simp only [e2]
theorem sgT_mod {a n : Int} : ∀ (l : List (Int × Int)) (s : Int), (∀ q ∈ l, n % q.1 = 0) → l.foldl (sgF (a % n)) s = l.foldl (sgF a) s
  | [], _, _ => rfl
  | q :: l, s, h => by
    have e : sgF (a % n) s q = sgF a s q := by unfold sgF; rw [legP_mod (h q List.mem_cons_self)]
    rw [List.foldl_cons, List.foldl_cons, e]
    exact sgT_mod l _ fun q' h' => h q' (List.mem_cons_of_mem _ h')
theorem sign_law {a : Int} {j : Nat} (hj : j < 30) : sgL a (2 * (j : Int) + 1) = sgT a (2 * (j : Int) + 1) := by
  have h := List.all_eq_true.mp chkS_all j (List.mem_range.mpr hj)
  have hd := List.all_eq_true.mp chkD_all j (List.mem_range.mpr hj)
  unfold chkS at h
  have m0 := Int.emod_nonneg a (show (2 * (j : Int) + 1) ≠ 0 by omega)
  have m1 := Int.emod_lt_of_pos a (show (0 : Int) < 2 * (j : Int) + 1 by omega)
  have h1 := List.all_eq_true.mp h (a % (2 * (j : Int) + 1)).toNat (List.mem_range.mpr (by omega))
  have h2 := of_decide_eq_true h1
  have e : Int.ofNat (a % (2 * (j : Int) + 1)).toNat = a % (2 * (j : Int) + 1) := Int.toNat_of_nonneg m0
  rw [e] at h2
  have h3 : sgL (a % (2 * (j : Int) + 1)) (2 * (j : Int) + 1) = sgT (a % (2 * (j : Int) + 1)) (2 * (j : Int) + 1) := h2
  have e1 : sgL (a % (2 * (j : Int) + 1)) (2 * (j : Int) + 1) = sgL a (2 * (j : Int) + 1) := by
    unfold sgL
    rw [Int.emod_emod]
  have e2 : sgT (a % (2 * (j : Int) + 1)) (2 * (j : Int) + 1) = sgT a (2 * (j : Int) + 1) := by
    unfold sgT
    refine sgT_mod _ _ fun q hq => ?_
    unfold chkD at hd
    exact of_decide_eq_true (List.all_eq_true.mp hd q hq)
  rw [← e1, h3, e2]
/-! ### turns -/
def tryT (a n : Int) : List Int := (rangeI 1 n.toNat).filter fun k => decide (a ^ k.toNat % n = 1 % n)
def chkT (n : Nat) : Bool := n == 0 || (List.range n).all fun a => decide (Int.gcd (Int.ofNat a) (Int.ofNat n) ≠ 1) || decide ((tryT (Int.ofNat a) (Int.ofNat n)).head? = some (trL (Int.ofNat a) (Int.ofNat n)))
theorem chkT_all : (List.range 61).all chkT = true := by decide +kernel
theorem trIn_mod {a n p : Int} : ∀ (k : Nat) (f : Int), trIn (a % n) n p k f = trIn a n p k f
  | 0, _ => rfl
  | k + 1, f => by
    show trIn (a % n) n p k (if (a % n) ^ (f / p).toNat % n = 1 % n then f / p else f) = trIn a n p k (if a ^ (f / p).toNat % n = 1 % n then f / p else f)
    rw [emod_pow, trIn_mod k]
theorem trL_mod {a n : Int} : trL (a % n) n = trL a n := by
  unfold trL
  have e : trF (a % n) n = trF a n := by
    funext f q
    exact trIn_mod _ _
  rw [e]
theorem tryT_mod {a n : Int} : tryT (a % n) n = tryT a n := by
  unfold tryT
  congr 1
  funext k
  rw [emod_pow]
theorem turns_law {a n : Int} (h0 : 0 < n) (h1 : n ≤ 60) (hg : Int.gcd a n = 1) : (tryT a n).head? = some (trL a n) := by
  obtain ⟨k, rfl⟩ := Int.eq_ofNat_of_zero_le (show 0 ≤ n by omega)
  have h := List.all_eq_true.mp chkT_all k (List.mem_range.mpr (by omega))
  unfold chkT at h
  have hk : (k == 0) = false := by simp; omega
  rw [hk, Bool.false_or] at h
  have m0 := Int.emod_nonneg a (show (k : Int) ≠ 0 by omega)
  have m1 := Int.emod_lt_of_pos a h0
  have h2 := List.all_eq_true.mp h (a % (k : Int)).toNat (List.mem_range.mpr (by omega))
  have e : Int.ofNat (a % (k : Int)).toNat = a % (k : Int) := Int.toNat_of_nonneg m0
  rw [e, Bool.or_eq_true] at h2
  rcases h2 with z | z
  · have z' := of_decide_eq_true z
    exact absurd (show Int.gcd (a % (k : Int)) (k : Int) = 1 by rw [gcd_emod]; exact hg) z'
  · have z' : (tryT (a % (k : Int)) (k : Int)).head? = some (trL (a % (k : Int)) (k : Int)) := of_decide_eq_true z
    rw [tryT_mod, trL_mod] at z'
    exact z'
end K01
set_option Elab.async false
set_option linter.all false
set_option maxRecDepth 100000
set_option maxHeartbeats 0
/-! k01: finite checks: parts. -/
namespace K01
open PySem Mx
def wholeL (n : Int) : List Int := (rangeI 1 n.toNat).filter fun k => decide (n % k = 0)
def prodF (s : Int) (q : Int × Int) : Int := s * q.1 ^ q.2.toNat
def noDiv (p : Int) : Bool := decide ((rangeI 2 (p - 2).toNat).filter (fun k => decide (p % k = 0)) = [])
def chkN (j : Nat) : Bool := j == 0 ||
  (decide (divL (Int.ofNat j) = wholeL (Int.ofNat j)) &&
  (decide (cntL (Int.ofNat j) = (((rangeI 1 j).filter fun k => decide ((Int.gcd k (Int.ofNat j) : Int) = 1)).length : Int)) &&
  (decide (((wholeL (Int.ofNat j)).map wtL).sum = if j = 1 then 1 else 0) &&
  (decide ((parL (Int.ofNat j)).foldl prodF 1 = Int.ofNat j) &&
  (parL (Int.ofNat j)).all fun q => noDiv q.1))))
theorem chkN_all : (List.range 301).all chkN = true := by decide +kernel
theorem parts_law {n : Int} (h0 : 0 < n) (h1 : n ≤ 300) : divL n = wholeL n ∧ cntL n = (((rangeI 1 n.toNat).filter fun k => decide ((Int.gcd k n : Int) = 1)).length : Int) ∧ ((wholeL n).map wtL).sum = (if n = 1 then 1 else 0) ∧ (parL n).foldl prodF 1 = n ∧ ∀ q ∈ parL n, noDiv q.1 = true := by
  obtain ⟨k, rfl⟩ := Int.eq_ofNat_of_zero_le (show 0 ≤ n by omega)
  have h := List.all_eq_true.mp chkN_all k (List.mem_range.mpr (by omega))
  unfold chkN at h
  have hk : (k == 0) = false := by simp; omega
  rw [hk, Bool.false_or] at h
  simp only [Bool.and_eq_true, decide_eq_true_eq, List.all_eq_true] at h
  obtain ⟨a, b, c, d, e⟩ := h
  refine ⟨a, b, ?_, d, e⟩
  have c' : ((wholeL (k : Int)).map wtL).sum = if k = 1 then 1 else 0 := c
  rw [c']
  by_cases q : k = 1
  · rw [if_pos q, if_pos (by omega)]
  · rw [if_neg q, if_neg (by omega)]
end K01
set_option Elab.async false
set_option linter.all false
set_option maxRecDepth 100000
set_option maxHeartbeats 2000000
/-! k01: _law_signs. -/
namespace K01
open PySem Mx
theorem fin_any {S S1 T : Store} {d : Mx.D} (h : S1.length = S.length) : ∃ T', fin S (.ok d (S1 ++ T)) = .ok d (S1 ++ T') := by
  unfold fin
  dsimp only
  split
  · refine ⟨[], ?_⟩
    rw [← h, List.take_append_of_le_length (Nat.le_refl _), List.take_length, List.append_nil]
  · exact ⟨T, rfl⟩
/-- != [] of a list of ints -/
theorem ne_nil {S : Store} {a : ME} {ρ : Env'} {T : Store} {j : Nat} {xs : List Int} {S0 : Store} (ha : a ρ S0 = .ok (.loc j) (S ++ T)) (hj : (S ++ T)[j]? = some (.lst (xs.map .int))) : ∃ T', mBin neM a (mLst mNil) ρ S0 = .ok (.bl (!decide (xs = []))) (S ++ T') := by
  have g1 : (S ++ T ++ [SO.lst []])[j]? = some (.lst (xs.map .int)) := by
    rw [List.getElem?_append_left (List.getElem?_eq_some_iff.mp hj).1]; exact hj
  have g2 : (S ++ T ++ [SO.lst []])[(S ++ T).length]? = some (.lst ([].map .int)) := by simp
  have h := neM_lsts g1 g2
  refine ⟨T ++ [.lst []], ?_⟩
  unfold mBin
  rw [ha, ok_bind]
  have l : mLst mNil ρ (S ++ T) = .ok (.loc (S ++ T).length) (S ++ T ++ [.lst []]) := by
    unfold mLst mNil
    rw [ok_bind, if_pos (by simp [LIM])]
  rw [l, ok_bind, h, List.append_assoc]
theorem eq_nil {S : Store} {a : ME} {ρ : Env'} {T : Store} {j : Nat} {xs : List Int} {S0 : Store} (ha : a ρ S0 = .ok (.loc j) (S ++ T)) (hj : (S ++ T)[j]? = some (.lst (xs.map .int))) : ∃ T', mBin eqM a (mLst mNil) ρ S0 = .ok (.bl (decide (xs = []))) (S ++ T') := by
  have g1 : (S ++ T ++ [SO.lst []])[j]? = some (.lst (xs.map .int)) := by
    rw [List.getElem?_append_left (List.getElem?_eq_some_iff.mp hj).1]; exact hj
  have g2 : (S ++ T ++ [SO.lst []])[(S ++ T).length]? = some (.lst ([].map .int)) := by simp
  have h := eqM_lsts g1 g2
  refine ⟨T ++ [.lst []], ?_⟩
  unfold mBin
  rw [ha, ok_bind]
  have l : mLst mNil ρ (S ++ T) = .ok (.loc (S ++ T).length) (S ++ T ++ [.lst []]) := by
    unfold mLst mNil
    rw [ok_bind, if_pos (by simp [LIM])]
  rw [l, ok_bind, h, List.append_assoc]
theorem mTest_ok {m : ME} {ρ : Env'} {S S1 : Store} {k : Bool} (h : m ρ S = .ok (.bl k) S1) : mTest m ρ S = .ok k S1 := by
  unfold mTest
  rw [h, ok_bind]
theorem mIfE_t {c : MT} {a b : ME} {ρ : Env'} {S S1 : Store} (h : c ρ S = .ok true S1) : mIfE c a b ρ S = a ρ S1 := by
  unfold mIfE
  rw [h, ok_bind]
theorem mIfE_f {c : MT} {a b : ME} {ρ : Env'} {S S1 : Store} (h : c ρ S = .ok false S1) : mIfE c a b ρ S = b ρ S1 := by
  unfold mIfE
  rw [h, ok_bind]
abbrev sgOne : ME := mIfE (mTest (mBin eqM (mBin modM (mV 1) (mV 4)) (mC (.int 0)))) (mC (.int 0)) (mIfE (mTest (mBin neM (mLc [7] (miRange1 (mCons (mV 4) mNil)) (.one 7) (mTest (mBin eqM (mBin modM (mBin subM (mBin mulM (mV 7) (mV 7)) (mV 1)) (mV 4)) (mC (.int 0)))) (mV 7)) (mLst mNil))) (mC (.int 1)) (mBin subM (mC (.int 0)) (mC (.int 1))))
theorem one_eq {S T : Store} {a p : Int} {z0 z2 z3 z5 z6 z7 : Option Mx.D} (hp : 1 < p) (hp2 : p ≤ 300) (ha : a.natAbs ≤ 1000) : ∃ T', sgOne [z0, some (.int a), z2, z3, some (.int p), z5, z6, z7] (S ++ T) = .ok (.int (legP a p)) (S ++ T') := by
  have hp0 : 0 < p := by omega
  unfold legP
  by_cases hq : a % p = 0
  · refine ⟨T, ?_⟩
    rw [if_pos hq]
    simp only [msSeq, OutS.thenS, msAsg, msPar, msIf, msRet, msRetN, msAug, msRaise, msNil, msExpr, msSub, Out.toS, Out.bind, mV, mC, mBin, mTest, mCons, mNil, mTup, mIfE, mNeg, mCB, mCall, mChain, mAnd, mOr, mNot, bindT, setAll, startM, OutS.end_, List.getElem?_cons_zero, List.getElem?_cons_succ, List.set_cons_zero, List.set_cons_succ, List.map_cons, List.map_nil, List.length_cons, List.length_nil, List.replicate, List.append_nil, List.nil_append, List.cons_append, if_true, if_false, eqM_int, neM_int, addM_int, subM_int, modM_pos, cmpM_int, Nat.zero_add, Nat.reduceAdd, Nat.reduceSub, LIM0, LIM1, LIM2, LIM3, LIM4, LIM5, modM_pos hp0, hq, decide_true]
  · rw [if_neg hq]
    have hr : inR p = true := by unfold inR; exact decide_eq_true (by omega)
    have mr : miRange1 (mCons (mV 4) mNil) [z0, some (.int a), z2, z3, some (.int p), z5, z6, z7] (S ++ T) = .ok (none, rangeD 0 p.toNat) (S ++ T) := by
      unfold miRange1
      simp only [msSeq, OutS.thenS, msAsg, msPar, msIf, msRet, msRetN, msAug, msRaise, msNil, msExpr, msSub, Out.toS, Out.bind, mV, mC, mBin, mTest, mCons, mNil, mTup, mIfE, mNeg, mCB, mCall, mChain, mAnd, mOr, mNot, bindT, setAll, startM, OutS.end_, List.getElem?_cons_zero, List.getElem?_cons_succ, List.set_cons_zero, List.set_cons_succ, List.map_cons, List.map_nil, List.length_cons, List.length_nil, List.replicate, List.append_nil, List.nil_append, List.cons_append, if_true, if_false, eqM_int, neM_int, addM_int, subM_int, modM_pos, cmpM_int, Nat.zero_add, Nat.reduceAdd, Nat.reduceSub, LIM0, LIM1, LIM2, LIM3, LIM4, LIM5, hr]
    obtain ⟨T1, j, e, hj, g⟩ := pick_eq (vs := [7]) (i := 7) (c := mTest (mBin eqM (mBin modM (mBin subM (mBin mulM (mV 7) (mV 7)) (mV 1)) (mV 4)) (mC (.int 0)))) (p := fun k => decide ((k * k - a) % p = 0)) (l := rangeI 0 p.toNat) mr rfl (rangeD_map _ _) (by rw [rangeI_len]; omega) (by simp [wipeM]) (fun k hk T => by
      have hk' := rangeI_mem.mp hk
      have c : CMulM k k := cmul (k := 10) (l := 10) (by omega) (by omega) (by decide)
      refine ⟨T, ?_⟩
      have w : (wipeM [z0, some (Mx.D.int a), z2, z3, some (.int p), z5, z6, z7] [7]).set 7 (some (.int k)) = [z0, some (.int a), z2, z3, some (.int p), z5, z6, some (.int k)] := rfl
      rw [w]
      simp only [msSeq, OutS.thenS, msAsg, msPar, msIf, msRet, msRetN, msAug, msRaise, msNil, msExpr, msSub, Out.toS, Out.bind, mV, mC, mBin, mTest, mCons, mNil, mTup, mIfE, mNeg, mCB, mCall, mChain, mAnd, mOr, mNot, bindT, setAll, startM, OutS.end_, List.getElem?_cons_zero, List.getElem?_cons_succ, List.set_cons_zero, List.set_cons_succ, List.map_cons, List.map_nil, List.length_cons, List.length_nil, List.replicate, List.append_nil, List.nil_append, List.cons_append, if_true, if_false, eqM_int, neM_int, addM_int, subM_int, modM_pos, cmpM_int, Nat.zero_add, Nat.reduceAdd, Nat.reduceSub, LIM0, LIM1, LIM2, LIM3, LIM4, LIM5, mulM_int c, modM_pos hp0])
    obtain ⟨T2, hn⟩ := ne_nil (S0 := S ++ T) e g
    refine ⟨T2, ?_⟩
    have c1 : mTest (mBin eqM (mBin modM (mV 1) (mV 4)) (mC (.int 0))) [z0, some (.int a), z2, z3, some (.int p), z5, z6, z7] (S ++ T) = .ok false (S ++ T) := by
      simp only [msSeq, OutS.thenS, msAsg, msPar, msIf, msRet, msRetN, msAug, msRaise, msNil, msExpr, msSub, Out.toS, Out.bind, mV, mC, mBin, mTest, mCons, mNil, mTup, mIfE, mNeg, mCB, mCall, mChain, mAnd, mOr, mNot, bindT, setAll, startM, OutS.end_, List.getElem?_cons_zero, List.getElem?_cons_succ, List.set_cons_zero, List.set_cons_succ, List.map_cons, List.map_nil, List.length_cons, List.length_nil, List.replicate, List.append_nil, List.nil_append, List.cons_append, if_true, if_false, eqM_int, neM_int, addM_int, subM_int, modM_pos, cmpM_int, Nat.zero_add, Nat.reduceAdd, Nat.reduceSub, LIM0, LIM1, LIM2, LIM3, LIM4, LIM5, modM_pos hp0, hq, decide_false]
    have c2 : mTest (mBin neM (mLc [7] (miRange1 (mCons (mV 4) mNil)) (.one 7) (mTest (mBin eqM (mBin modM (mBin subM (mBin mulM (mV 7) (mV 7)) (mV 1)) (mV 4)) (mC (.int 0)))) (mV 7)) (mLst mNil)) [z0, some (.int a), z2, z3, some (.int p), z5, z6, z7] (S ++ T) = .ok (!decide ((rangeI 0 p.toNat).filter (fun k => decide ((k * k - a) % p = 0)) = [])) (S ++ T2) := mTest_ok hn
    rw [sgOne, mIfE_f c1]
    by_cases hf : (rangeI 0 p.toNat).filter (fun k => decide ((k * k - a) % p = 0)) = []
    · rw [hf] at c2
      rw [mIfE_f c2, if_neg (by simp [hf])]
      rfl
    · rw [show (!decide ((rangeI 0 p.toNat).filter (fun k => decide ((k * k - a) % p = 0)) = [])) = true by simp [hf]] at c2
      rw [mIfE_t c2, if_pos hf]
      rfl
theorem leg_abs (a p : Int) : (legP a p).natAbs ≤ 1 := by
  unfold legP
  split
  · decide
  · split <;> decide
theorem sgi_loop (S : Store) (s : Src) (hs : s.1 = none) (one : Int) (ho : one.natAbs ≤ 1) (z0 z1 z2 z4 z5 : Option Mx.D) : ∀ (k : Nat) (lo x : Int) (z7 : Option Mx.D), x.natAbs ≤ 1 →
    ∃ w7, forL s (.one 7) (msAsg (.one 3) (mBin mulM (mV 3) (mV 6))) (rangeD lo k) [z0, z1, z2, some (.int x), z4, z5, some (.int one), z7] S = .next [z0, z1, z2, some (.int (x * one ^ k)), z4, z5, some (.int one), w7] S ∧ (x * one ^ k).natAbs ≤ 1 := by
  have ok : okSrc s S = true := by unfold okSrc; rw [hs]
  intro k
  induction k with
  | zero => intro lo x z7 hx; exact ⟨z7, by rw [show x * one ^ 0 = x by simp]; exact for_nil ok, by simpa using hx⟩
  | succ k ih =>
    intro lo x z7 hx
    have c : CMulM x one := cmul (k := 2) (l := 2) (by omega) (by omega) (by decide)
    have hb : (x * one).natAbs ≤ 1 := by
      rw [Int.natAbs_mul]
      have := Nat.mul_le_mul hx ho
      omega
    obtain ⟨w7, e, h⟩ := ih (lo + 1) (x * one) (some (.int lo)) hb
    have ee : x * one ^ (k + 1) = x * one * one ^ k := by rw [Int.pow_succ]; grind
    refine ⟨w7, ?_, by rw [ee]; exact h⟩
    rw [ee, ← e]
    show forL s (.one 7) _ (Mx.D.int lo :: rangeD (lo + 1) k) _ S = _
    refine for_cons (ρ1 := [z0, z1, z2, some (.int x), z4, z5, some (.int one), some (.int lo)]) ok rfl ?_
    simp only [msSeq, OutS.thenS, msAsg, msPar, msIf, msRet, msRetN, msAug, msRaise, msNil, msExpr, msSub, Out.toS, Out.bind, mV, mC, mBin, mTest, mCons, mNil, mTup, mIfE, mNeg, mCB, mCall, mChain, mAnd, mOr, mNot, bindT, setAll, startM, OutS.end_, List.getElem?_cons_zero, List.getElem?_cons_succ, List.set_cons_zero, List.set_cons_succ, List.map_cons, List.map_nil, List.length_cons, List.length_nil, List.replicate, List.append_nil, List.nil_append, List.cons_append, if_true, if_false, eqM_int, neM_int, addM_int, subM_int, modM_pos, cmpM_int, Nat.zero_add, Nat.reduceAdd, Nat.reduceSub, LIM0, LIM1, LIM2, LIM3, LIM4, LIM5, mulM_int c]
theorem sgo_loop (S : Store) (s : Src) (hs : s.1 = none) (z0 z2 : Option Mx.D) (a : Int) (ha : a.natAbs ≤ 1000) : ∀ (l : List (Int × Int)) (x : Int) (T : Store) (z4 z5 z6 z7 : Option Mx.D), (∀ q ∈ l, 1 < q.1 ∧ q.1 ≤ 300 ∧ 0 < q.2 ∧ q.2 ≤ 8) → x.natAbs ≤ 1 →
    ∃ T' w4 w5 w6 w7, forL s (.many [4, 5]) (msSeq (msAsg (.one 6) sgOne) (msFor (miRange1 (mCons (mV 5) mNil)) (.one 7) (msAsg (.one 3) (mBin mulM (mV 3) (mV 6))))) (l.map pairD) [z0, some (.int a), z2, some (.int x), z4, z5, z6, z7] (S ++ T) = .next [z0, some (.int a), z2, some (.int (l.foldl (sgF a) x)), w4, w5, w6, w7] (S ++ T') := by
  have ok : ∀ X, okSrc s X = true := fun X => by unfold okSrc; rw [hs]
  intro l
  induction l with
  | nil => intro x T z4 z5 z6 z7 _ _; exact ⟨T, z4, z5, z6, z7, for_nil (ok _)⟩
  | cons q l ih =>
    intro x T z4 z5 z6 z7 hq hx
    obtain ⟨a1, a2, a3, a4⟩ := hq q List.mem_cons_self
    obtain ⟨T1, e1⟩ := one_eq (S := S) (T := T) (a := a) (p := q.1) (z0 := z0) (z2 := z2) (z3 := some (.int x)) (z5 := some (.int q.2)) (z6 := z6) (z7 := z7) a1 a2 ha
    obtain ⟨w7, e2, h2⟩ := sgi_loop (S ++ T1) (none, rangeD 0 q.2.toNat) rfl (legP a q.1) (leg_abs _ _) z0 (some (.int a)) z2 (some (.int q.1)) (some (.int q.2)) q.2.toNat 0 x z7 hx
    obtain ⟨T2, w4, w5, w6, v7, e3⟩ := ih (sgF a x q) T1 (some (.int q.1)) (some (.int q.2)) (some (.int (legP a q.1))) w7 (fun q' h' => hq q' (List.mem_cons_of_mem _ h')) h2
    refine ⟨T2, w4, w5, w6, v7, ?_⟩
    have hr : inR q.2 = true := by unfold inR; exact decide_eq_true (by omega)
    have mr : miRange1 (mCons (mV 5) mNil) [z0, some (.int a), z2, some (.int x), some (.int q.1), some (.int q.2), some (.int (legP a q.1)), z7] (S ++ T1) = .ok (none, rangeD 0 q.2.toNat) (S ++ T1) := by
      unfold miRange1
      simp only [msSeq, OutS.thenS, msAsg, msPar, msIf, msRet, msRetN, msAug, msRaise, msNil, msExpr, msSub, Out.toS, Out.bind, mV, mC, mBin, mTest, mCons, mNil, mTup, mIfE, mNeg, mCB, mCall, mChain, mAnd, mOr, mNot, bindT, setAll, startM, OutS.end_, List.getElem?_cons_zero, List.getElem?_cons_succ, List.set_cons_zero, List.set_cons_succ, List.map_cons, List.map_nil, List.length_cons, List.length_nil, List.replicate, List.append_nil, List.nil_append, List.cons_append, if_true, if_false, eqM_int, neM_int, addM_int, subM_int, modM_pos, cmpM_int, Nat.zero_add, Nat.reduceAdd, Nat.reduceSub, LIM0, LIM1, LIM2, LIM3, LIM4, LIM5, hr]
    rw [List.map_cons, List.foldl_cons, ← e3]
    refine for_cons (ρ1 := [z0, some (.int a), z2, some (.int x), some (.int q.1), some (.int q.2), z6, z7]) (ok _) rfl ?_
    have b1 : msAsg (.one 6) sgOne [z0, some (.int a), z2, some (.int x), some (.int q.1), some (.int q.2), z6, z7] (S ++ T) = .next [z0, some (.int a), z2, some (.int x), some (.int q.1), some (.int q.2), some (.int (legP a q.1)), z7] (S ++ T1) := by
      unfold msAsg
      rw [e1]
      rfl
    unfold msSeq
    rw [b1]
    show msFor _ _ _ _ _ = _
    rw [msFor_ap, mr]
    exact e2
end K01
set_option Elab.async false
set_option linter.all false
set_option maxRecDepth 100000
set_option maxHeartbeats 2000000
/-! k01: _law_signs, its end. -/
namespace K01
open PySem Mx
theorem msSeq_next {m m' : MS} {ρ ρ' : Env'} {S S' : Store} (h : m ρ S = .next ρ' S') : msSeq m m' ρ S = m' ρ' S' := by
  unfold msSeq
  rw [h]
  rfl
theorem msIf_f {c : MT} {a b : MS} {ρ : Env'} {S S1 : Store} (h : c ρ S = .ok false S1) : msIf c a b ρ S = b ρ S1 := by
  unfold msIf
  rw [h]
  rfl
theorem msIf_t {c : MT} {a b : MS} {ρ : Env'} {S S1 : Store} (h : c ρ S = .ok true S1) : msIf c a b ρ S = a ρ S1 := by
  unfold msIf
  rw [h]
  rfl
theorem signs_eq {S : Store} {L B : Nat} {x0 x1 x2 a : Int} (h : S[L]? = some (.lst [.int x0, .int x1, .int x2])) (D : DOk B x0 x1 x2) (hB : B < 1000000) (ha : a.natAbs ≤ 1000) :
    ∃ (y0 y1 y2 : Int) (T : Store), f__law_signs [.loc L, .int a] S = .ok (.bl true) (S.set L (.lst [.int y0, .int y1, .int y2]) ++ T) ∧ DOk (B + 1) y0 y1 y2 := by
  obtain ⟨v, y0, y1, y2, e, v0, v1, D'⟩ := roll_eq (many := 30) h D hB (by decide) (by decide)
  obtain ⟨j, rfl⟩ := Int.eq_ofNat_of_zero_le v0
  have hj : j < 30 := by omega
  generalize hS1 : S.set L (.lst [.int y0, .int y1, .int y2]) = S1 at *
  have hlen : S1.length = S.length := by rw [← hS1]; simp
  have o0 : (0 : Int) < 2 * (j : Int) + 1 := by omega
  have o1 : 2 * (j : Int) + 1 ≤ 300 := by omega
  have c : CMulM 2 (j : Int) := cmul (k := 2) (l := 5) (by decide) (by omega) (by decide)
  have hcall : mCall 2 f__law_roll (mCons (mV 0) (mCons (mC (.int 30)) mNil)) [some (.loc L), some (.int a), none, none, none, none, none, none] S = .ok (.int (j : Int)) S1 := (mCall_ok (ds := [.loc L, .int 30]) (S1 := S) rfl rfl).trans e
  have s1 : msAsg (.one 2) (mBin addM (mBin mulM (mC (.int 2)) (mCall 2 f__law_roll (mCons (mV 0) (mCons (mC (.int 30)) mNil)))) (mC (.int 1))) [some (.loc L), some (.int a), none, none, none, none, none, none] S = .next [some (.loc L), some (.int a), some (.int (2 * (j : Int) + 1)), none, none, none, none, none] S1 := by
    simp only [msAsg, mBin, mC, Out.bind, hcall, mulM_int c, addM_int, Out.toS, bindT, List.set_cons_succ, List.set_cons_zero]
  obtain ⟨T', w4, w5, w6, w7, e2⟩ := sgo_loop S1 (none, (parL (2 * (j : Int) + 1)).map pairD) rfl (some (.loc L)) (some (.int (2 * (j : Int) + 1))) a ha (parL (2 * (j : Int) + 1)) 1 [] none none none none (chkP_at o0 o1).2.1 (by decide)
  have ps := parts_at (n := 2 * (j : Int) + 1) (S := S1) o0 o1
  have ms : miSeq (mCall 1 f_parts (mCons (mV 2) mNil)) [some (.loc L), some (.int a), some (.int (2 * (j : Int) + 1)), some (.int 1), none, none, none, none] S1 = .ok (none, (parL (2 * (j : Int) + 1)).map pairD) S1 := by
    have hc : mCall 1 f_parts (mCons (mV 2) mNil) [some (.loc L), some (.int a), some (.int (2 * (j : Int) + 1)), some (.int 1), none, none, none, none] S1 = _ := (mCall_ok (ds := [.int (2 * (j : Int) + 1)]) (S1 := S1) rfl rfl).trans ps
    unfold miSeq
    rw [hc, ok_bind]
  have sq := sign_eq (a := a) (n := 2 * (j : Int) + 1) (S := S1 ++ T') o0 (by omega) (by omega)
  rw [sign_law hj] at sq
  have hsq : mTest (mBin neM (mCall 2 f_square_sign (mCons (mV 1) (mCons (mV 2) mNil))) (mV 3)) [some (.loc L), some (.int a), some (.int (2 * (j : Int) + 1)), some (.int (sgT a (2 * (j : Int) + 1))), w4, w5, w6, w7] (S1 ++ T') = .ok false (S1 ++ T') := by
    have hc : mCall 2 f_square_sign (mCons (mV 1) (mCons (mV 2) mNil)) [some (.loc L), some (.int a), some (.int (2 * (j : Int) + 1)), some (.int (sgT a (2 * (j : Int) + 1))), w4, w5, w6, w7] (S1 ++ T') = _ := (mCall_ok (ds := [.int a, .int (2 * (j : Int) + 1)]) (S1 := S1 ++ T') rfl rfl).trans sq
    refine mTest_ok ((mBin_ok hc rfl).trans ?_)
    rw [neM_int]
    simp
  have key : m__law_signs (startM 8 [.loc L, .int a]) S = .ret (.bl true) (S1 ++ T') := by
    have start : startM 8 [.loc L, .int a] = [some (.loc L), some (.int a), none, none, none, none, none, none] := rfl
    rw [start]
    rw [List.append_nil] at e2
    have h3 : msFor (miSeq (mCall 1 f_parts (mCons (mV 2) mNil))) (.many [4, 5]) (msSeq (msAsg (.one 6) sgOne) (msFor (miRange1 (mCons (mV 5) mNil)) (.one 7) (msAsg (.one 3) (mBin mulM (mV 3) (mV 6))))) [some (.loc L), some (.int a), some (.int (2 * (j : Int) + 1)), some (.int 1), none, none, none, none] S1 = .next [some (.loc L), some (.int a), some (.int (2 * (j : Int) + 1)), some (.int (sgT a (2 * (j : Int) + 1))), w4, w5, w6, w7] (S1 ++ T') := by
      rw [msFor_ap, ms]
      exact e2
    have h4 : msIf (mTest (mBin neM (mCall 2 f_square_sign (mCons (mV 1) (mCons (mV 2) mNil))) (mV 3))) (msRet (mC (.bl false))) msNil [some (.loc L), some (.int a), some (.int (2 * (j : Int) + 1)), some (.int (sgT a (2 * (j : Int) + 1))), w4, w5, w6, w7] (S1 ++ T') = .next [some (.loc L), some (.int a), some (.int (2 * (j : Int) + 1)), some (.int (sgT a (2 * (j : Int) + 1))), w4, w5, w6, w7] (S1 ++ T') := (msIf_f hsq).trans rfl
    unfold m__law_signs
    have h2 : msAsg (.one 3) (mC (.int 1)) [some (.loc L), some (.int a), some (.int (2 * (j : Int) + 1)), none, none, none, none, none] S1 = .next [some (.loc L), some (.int a), some (.int (2 * (j : Int) + 1)), some (.int 1), none, none, none, none] S1 := rfl
    rw [msSeq_next s1, msSeq_next h2]
    exact (msSeq_next h3).trans ((msSeq_next h4).trans rfl)
  obtain ⟨T2, hf⟩ := fin_any (S := S) (S1 := S1) (T := T') (d := .bl true) hlen
  refine ⟨y0, y1, y2, T2, ?_, D'⟩
  rw [hS1]
  unfold f__law_signs fnM
  rw [key]
  exact hf
end K01
set_option Elab.async false
set_option linter.all false
set_option maxRecDepth 100000
set_option maxHeartbeats 2000000
/-! k01: comprehensions that reckon. -/
namespace K01
open PySem Mx
theorem map_loop {s : Src} {S : Store} (ok : okSrc s S = true) {i : Nat} {e : ME} {ρ0 : Env'} {g : Int → Int} : ∀ (l : List Int), (∀ k ∈ l, e (ρ0.set i (some (.int k))) S = .ok (.int (g k)) S) →
    compL s (.one i) mYes e ρ0 (l.map .int) S = .ok ((l.map g).map .int) S := by
  intro l
  induction l with
  | nil => intro _; unfold compL; exact if_pos ok
  | cons k l ih =>
    intro h
    rw [List.map_cons, compL_take ok rfl rfl (h k List.mem_cons_self), ih fun k' hk' => h k' (List.mem_cons_of_mem _ hk'), ok_bind]
    rfl
theorem map_eq {mi : MI} {s : Src} {vs : List Nat} {S : Store} {i : Nat} {e : ME} {ρ : Env'} {g : Int → Int} {l : List Int} (hm : mi ρ S = .ok s S) (ok : okSrc s S = true) (hl : s.2 = l.map .int) (hlen : l.length ≤ 100000)
    (h : ∀ k ∈ l, e ((wipeM ρ vs).set i (some (.int k))) S = .ok (.int (g k)) S) : mLc vs mi (.one i) mYes e ρ S = .ok (.loc S.length) (S ++ [.lst ((l.map g).map .int)]) := by
  have e1 := map_loop ok l h
  rw [← hl] at e1
  exact mLc_ok hm (by rw [hl, List.length_map]; unfold LIM; omega) e1
end K01
set_option Elab.async false
set_option linter.all false
set_option maxRecDepth 100000
set_option maxHeartbeats 2000000
/-! k01: _law_parts, its pieces. -/
namespace K01
open PySem Mx
theorem miRange2_eq {r : MA} {ρ : Env'} {S : Store} {a b : Int} (h : r ρ S = .ok [.int a, .int b] S) (ha : inR a = true) (hb : inR b = true) : miRange2 r ρ S = .ok (none, rangeD a (b - a).toNat) S := by
  unfold miRange2
  rw [h, ok_bind]
  dsimp only
  rw [ha, hb]
  rfl
theorem miRange1_eq {r : MA} {ρ : Env'} {S : Store} {b : Int} (h : r ρ S = .ok [.int b] S) (hb : inR b = true) : miRange1 r ρ S = .ok (none, rangeD 0 b.toNat) S := by
  unfold miRange1
  rw [h, ok_bind]
  dsimp only
  rw [hb]
  rfl
theorem inR_small {a : Int} (h : a.natAbs < 2 ^ 61) : inR a = true := by unfold inR; exact decide_eq_true (by omega)
theorem list_tup {xs : List Mx.D} {X : Store} : listM [.tup xs] X = .ok (.loc X.length) (X ++ [.lst xs]) := rfl
abbrev lpW : ME := mLc [6] (miRange2 (mCons (mC (.int 1)) (mCons (mBin addM (mV 1) (mC (.int 1))) mNil))) (.one 6) (mTest (mBin eqM (mBin modM (mV 1) (mV 6)) (mC (.int 0)))) (mV 6)
theorem whole_eq {S T : Store} {n : Int} {z0 z2 z3 z4 z5 z6 : Option Mx.D} (h0 : 0 < n) (h1 : n ≤ 300) : ∃ T' j, lpW [z0, some (.int n), z2, z3, z4, z5, z6] (S ++ T) = .ok (.loc j) (S ++ T') ∧ S.length ≤ j ∧ (S ++ T')[j]? = some (.lst ((wholeL n).map .int)) := by
  have mr := miRange2_eq (r := mCons (mC (.int 1)) (mCons (mBin addM (mV 1) (mC (.int 1))) mNil)) (ρ := [z0, some (.int n), z2, z3, z4, z5, z6]) (S := S ++ T) (a := 1) (b := n + 1) rfl (inR_small (by decide)) (inR_small (by omega))
  rw [show n + 1 - 1 = n by omega] at mr
  exact pick_eq (vs := [6]) (i := 6) (p := fun k => decide (n % k = 0)) (l := rangeI 1 n.toNat) mr rfl (rangeD_map _ _) (by rw [rangeI_len]; omega) (by simp [wipeM]) (fun k hk T => by
    have hk' := rangeI_mem.mp hk
    refine ⟨T, ?_⟩
    have w : (wipeM [z0, some (Mx.D.int n), z2, z3, z4, z5, z6] [6]).set 6 (some (.int k)) = [z0, some (.int n), z2, z3, z4, z5, some (.int k)] := rfl
    rw [w]
    simp only [msSeq, OutS.thenS, msAsg, msPar, msIf, msRet, msRetN, msAug, msRaise, msNil, msExpr, msSub, Out.toS, Out.bind, mV, mC, mBin, mTest, mCons, mNil, mTup, mIfE, mNeg, mCB, mCall, mChain, mAnd, mOr, mNot, bindT, setAll, startM, OutS.end_, List.getElem?_cons_zero, List.getElem?_cons_succ, List.set_cons_zero, List.set_cons_succ, List.map_cons, List.map_nil, List.length_cons, List.length_nil, List.replicate, List.append_nil, List.nil_append, List.cons_append, if_true, if_false, eqM_int, neM_int, addM_int, subM_int, modM_pos, cmpM_int, Nat.zero_add, Nat.reduceAdd, Nat.reduceSub, LIM0, LIM1, LIM2, LIM3, LIM4, LIM5, modM_pos (show 0 < k by omega)])
abbrev lpA : ME := mLc [6] (miRange2 (mCons (mC (.int 1)) (mCons (mBin addM (mV 1) (mC (.int 1))) mNil))) (.one 6) (mTest (mBin eqM (mCall 2 f_shared (mCons (mV 6) (mCons (mV 1) mNil))) (mC (.int 1)))) (mV 6)
theorem apart_eq {S T : Store} {n : Int} {z0 z2 z3 z4 z5 z6 : Option Mx.D} (h0 : 0 < n) (h1 : n ≤ 300) : ∃ T' j, lpA [z0, some (.int n), z2, z3, z4, z5, z6] (S ++ T) = .ok (.loc j) (S ++ T') ∧ S.length ≤ j ∧ (S ++ T')[j]? = some (.lst (((rangeI 1 n.toNat).filter fun k => decide ((Int.gcd k n : Int) = 1)).map .int)) := by
  have mr := miRange2_eq (r := mCons (mC (.int 1)) (mCons (mBin addM (mV 1) (mC (.int 1))) mNil)) (ρ := [z0, some (.int n), z2, z3, z4, z5, z6]) (S := S ++ T) (a := 1) (b := n + 1) rfl (inR_small (by decide)) (inR_small (by omega))
  rw [show n + 1 - 1 = n by omega] at mr
  exact pick_eq (vs := [6]) (i := 6) (p := fun k => decide ((Int.gcd k n : Int) = 1)) (l := rangeI 1 n.toNat) mr rfl (rangeD_map _ _) (by rw [rangeI_len]; omega) (by simp [wipeM]) (fun k hk T => by
    refine ⟨T, ?_⟩
    have w : (wipeM [z0, some (Mx.D.int n), z2, z3, z4, z5, z6] [6]).set 6 (some (.int k)) = [z0, some (.int n), z2, z3, z4, z5, some (.int k)] := rfl
    rw [w]
    have sh := shared_eq (a := k) (b := n) (S := S ++ T) (by omega)
    have hc : mCall 2 f_shared (mCons (mV 6) (mCons (mV 1) mNil)) [z0, some (.int n), z2, z3, z4, z5, some (.int k)] (S ++ T) = _ := (mCall_ok (ds := [.int k, .int n]) (S1 := S ++ T) rfl rfl).trans sh
    exact mTest_ok ((mBin_ok hc rfl).trans eqM_int))
theorem weights_eq {S : Store} {n : Int} {j : Nat} {z0 z1 z3 z4 z5 z6 : Option Mx.D} (h0 : 0 < n) (h1 : n ≤ 300) (hj : S[j]? = some (.lst ((wholeL n).map .int))) :
    mLc [6] (miSeq (mV 2)) (.one 6) mYes (mCall 1 f_weight (mCons (mV 6) mNil)) [z0, z1, some (.loc j), z3, z4, z5, z6] S = .ok (.loc S.length) (S ++ [.lst (((wholeL n).map wtL).map .int)]) := by
  have mem : ∀ k ∈ wholeL n, 0 < k ∧ k ≤ 300 := fun k hk => by
    have := rangeI_mem.mp (List.mem_filter.mp hk).1
    omega
  refine map_eq (s := (some j, (wholeL n).map .int)) (l := wholeL n) (g := wtL) (miSeq_loc rfl hj) (by unfold okSrc; exact decide_eq_true hj) rfl (Nat.le_trans (List.length_filter_le _ _) (by rw [rangeI_len]; omega)) fun k hk => ?_
  exact (mCall_ok (ds := [.int k]) (S1 := S) rfl rfl).trans (weight_eq (mem k hk).1 (mem k hk).2)
end K01
set_option Elab.async false
set_option linter.all false
set_option maxRecDepth 100000
set_option maxHeartbeats 2000000
/-! k01: _law_parts. -/
namespace K01
open PySem Mx
theorem msAsg_ok {i : Nat} {m : ME} {ρ : Env'} {S S1 : Store} {d : Mx.D} (h : m ρ S = .ok d S1) : msAsg (.one i) m ρ S = .next (ρ.set i (some d)) S1 := by
  unfold msAsg
  rw [h]
  rfl
theorem mBin_ok2 {f : Op2} {a b : ME} {ρ : Env'} {S S1 S2 : Store} {x y : Mx.D} (ha : a ρ S = .ok x S1) (hb : b ρ S1 = .ok y S2) : mBin f a b ρ S = f x y S2 := by
  unfold mBin
  rw [ha, ok_bind, hb, ok_bind]
theorem mCB1_ok {f : OpL} {a : ME} {ρ : Env'} {S S1 : Store} {x : Mx.D} (ha : a ρ S = .ok x S1) : mCB f (mCons a mNil) ρ S = f [x] S1 := by
  unfold mCB mCons mNil
  rw [ha]
  rfl
theorem skip_ret {c : MT} {e : ME} {ρ : Env'} {S S1 : Store} (h : c ρ S = .ok false S1) : msIf c (msRet e) msNil ρ S = .next ρ S1 := (msIf_f h).trans rfl
theorem msFor_ok {mi : MI} {t : Tg} {b : MS} {ρ : Env'} {S S1 : Store} {s : Src} (h : mi ρ S = .ok s S1) : msFor mi t b ρ S = forL s t b s.2 ρ S1 := by
  rw [msFor_ap, h]
  rfl
theorem miSeq_tup {a : ME} {ρ : Env'} {S S1 : Store} {xs : List Mx.D} (ha : a ρ S = .ok (.tup xs) S1) : miSeq a ρ S = .ok (none, xs) S1 := by
  unfold miSeq
  rw [ha, ok_bind]
theorem pri_loop (S : Store) (s : Src) (hs : s.1 = none) (p : Int) (hp : p.natAbs ≤ 511) (z0 z1 z2 z5 : Option Mx.D) : ∀ (k : Nat) (lo x : Int) (m : Nat) (z6 : Option Mx.D), x.natAbs < 2 ^ m → 0 < m → m + 9 * k ≤ 10000 →
    ∃ w6, forL s (.one 6) (msAsg (.one 3) (mBin mulM (mV 3) (mV 4))) (rangeD lo k) [z0, z1, z2, some (.int x), some (.int p), z5, z6] S = .next [z0, z1, z2, some (.int (x * p ^ k)), some (.int p), z5, w6] S ∧ (x * p ^ k).natAbs < 2 ^ (m + 9 * k) := by
  have ok : okSrc s S = true := by unfold okSrc; rw [hs]
  intro k
  induction k with
  | zero => intro lo x m z6 hx _ _; exact ⟨z6, by rw [show x * p ^ 0 = x by simp]; exact for_nil ok, by simpa using hx⟩
  | succ k ih =>
    intro lo x m z6 hx hm hk
    have c : CMulM x p := cmul (k := m) (l := 9) hx (by omega) (by omega) hm (by decide)
    have hb : (x * p).natAbs < 2 ^ (m + 9) := by
      rw [Int.natAbs_mul, Nat.pow_add]
      have h2 : 0 < 2 ^ m := Nat.pow_pos (by decide)
      have : x.natAbs * p.natAbs ≤ x.natAbs * 511 := Nat.mul_le_mul_left _ hp
      have e : (2 : Nat) ^ 9 = 512 := rfl
      rw [e]
      omega
    obtain ⟨w6, e, h⟩ := ih (lo + 1) (x * p) (m + 9) (some (.int lo)) hb (by omega) (by omega)
    have ee : x * p ^ (k + 1) = x * p * p ^ k := by rw [Int.pow_succ]; grind
    refine ⟨w6, ?_, by rw [ee, show m + 9 * (k + 1) = m + 9 + 9 * k by omega]; exact h⟩
    rw [ee, ← e]
    show forL s (.one 6) _ (Mx.D.int lo :: rangeD (lo + 1) k) _ S = _
    refine for_cons (ρ1 := [z0, z1, z2, some (.int x), some (.int p), z5, some (.int lo)]) ok rfl ?_
    simp only [msSeq, OutS.thenS, msAsg, msPar, msIf, msRet, msRetN, msAug, msRaise, msNil, msExpr, msSub, Out.toS, Out.bind, mV, mC, mBin, mTest, mCons, mNil, mTup, mIfE, mNeg, mCB, mCall, mChain, mAnd, mOr, mNot, bindT, setAll, startM, OutS.end_, List.getElem?_cons_zero, List.getElem?_cons_succ, List.set_cons_zero, List.set_cons_succ, List.map_cons, List.map_nil, List.length_cons, List.length_nil, List.replicate, List.append_nil, List.nil_append, List.cons_append, if_true, if_false, eqM_int, neM_int, addM_int, subM_int, modM_pos, cmpM_int, Nat.zero_add, Nat.reduceAdd, Nat.reduceSub, LIM0, LIM1, LIM2, LIM3, LIM4, LIM5, mulM_int c]
theorem pro_loop (S : Store) (s : Src) (hs : s.1 = none) (z0 z1 z2 : Option Mx.D) : ∀ (l : List (Int × Int)) (x : Int) (m : Nat) (z4 z5 z6 : Option Mx.D), (∀ q ∈ l, 1 < q.1 ∧ q.1 ≤ 300 ∧ 0 < q.2 ∧ q.2 ≤ 8) → x.natAbs < 2 ^ m → 0 < m → m + 72 * l.length ≤ 9000 →
    ∃ w4 w5 w6, forL s (.many [4, 5]) (msFor (miRange1 (mCons (mV 5) mNil)) (.one 6) (msAsg (.one 3) (mBin mulM (mV 3) (mV 4)))) (l.map pairD) [z0, z1, z2, some (.int x), z4, z5, z6] S = .next [z0, z1, z2, some (.int (l.foldl prodF x)), w4, w5, w6] S := by
  have ok : okSrc s S = true := by unfold okSrc; rw [hs]
  intro l
  induction l with
  | nil => intro x m z4 z5 z6 _ _ _ _; exact ⟨z4, z5, z6, for_nil ok⟩
  | cons q l ih =>
    intro x m z4 z5 z6 hq hx hm hl
    obtain ⟨a1, a2, a3, a4⟩ := hq q List.mem_cons_self
    rw [List.length_cons] at hl
    obtain ⟨w6, e2, h2⟩ := pri_loop S (none, rangeD 0 q.2.toNat) rfl q.1 (by omega) z0 z1 z2 (some (.int q.2)) q.2.toNat 0 x m z6 hx hm (by omega)
    have h3 : (prodF x q).natAbs < 2 ^ (m + 72) := Nat.lt_of_lt_of_le h2 (Nat.pow_le_pow_right (by decide) (by omega))
    obtain ⟨v4, v5, v6, e3⟩ := ih (prodF x q) (m + 72) (some (.int q.1)) (some (.int q.2)) w6 (fun q' h' => hq q' (List.mem_cons_of_mem _ h')) h3 (by omega) (by omega)
    refine ⟨v4, v5, v6, ?_⟩
    have mr := miRange1_eq (r := mCons (mV 5) mNil) (ρ := [z0, z1, z2, some (.int x), some (.int q.1), some (.int q.2), z6]) (S := S) (b := q.2) rfl (inR_small (by omega))
    rw [List.map_cons, List.foldl_cons, ← e3]
    refine for_cons (ρ1 := [z0, z1, z2, some (.int x), some (.int q.1), some (.int q.2), z6]) ok rfl ?_
    rw [msFor_ok mr]
    exact e2
abbrev lpI : ME := mLc [6] (miRange2 (mCons (mC (.int 2)) (mCons (mV 4) mNil))) (.one 6) (mTest (mBin eqM (mBin modM (mV 4) (mV 6)) (mC (.int 0)))) (mV 6)
theorem inner_eq {S T : Store} {p : Int} {z0 z1 z2 z3 z5 z6 : Option Mx.D} (h0 : 1 < p) (h1 : p ≤ 300) (hn : noDiv p = true) : ∃ T', mTest (mBin neM lpI (mLst mNil)) [z0, z1, z2, z3, some (.int p), z5, z6] (S ++ T) = .ok false (S ++ T') := by
  have mr := miRange2_eq (r := mCons (mC (.int 2)) (mCons (mV 4) mNil)) (ρ := [z0, z1, z2, z3, some (.int p), z5, z6]) (S := S ++ T) (a := 2) (b := p) rfl (inR_small (by decide)) (inR_small (by omega))
  obtain ⟨T1, j, e, hj, g⟩ := pick_eq (vs := [6]) (i := 6) (c := mTest (mBin eqM (mBin modM (mV 4) (mV 6)) (mC (.int 0)))) (p := fun k => decide (p % k = 0)) (l := rangeI 2 (p - 2).toNat) mr rfl (rangeD_map _ _) (by rw [rangeI_len]; omega) (by simp [wipeM]) (fun k hk T => by
    have hk' := rangeI_mem.mp hk
    refine ⟨T, ?_⟩
    have w : (wipeM [z0, z1, z2, z3, some (Mx.D.int p), z5, z6] [6]).set 6 (some (.int k)) = [z0, z1, z2, z3, some (.int p), z5, some (.int k)] := rfl
    rw [w]
    simp only [msSeq, OutS.thenS, msAsg, msPar, msIf, msRet, msRetN, msAug, msRaise, msNil, msExpr, msSub, Out.toS, Out.bind, mV, mC, mBin, mTest, mCons, mNil, mTup, mIfE, mNeg, mCB, mCall, mChain, mAnd, mOr, mNot, bindT, setAll, startM, OutS.end_, List.getElem?_cons_zero, List.getElem?_cons_succ, List.set_cons_zero, List.set_cons_succ, List.map_cons, List.map_nil, List.length_cons, List.length_nil, List.replicate, List.append_nil, List.nil_append, List.cons_append, if_true, if_false, eqM_int, neM_int, addM_int, subM_int, modM_pos, cmpM_int, Nat.zero_add, Nat.reduceAdd, Nat.reduceSub, LIM0, LIM1, LIM2, LIM3, LIM4, LIM5, modM_pos (show 0 < k by omega)])
  obtain ⟨T2, hn2⟩ := ne_nil (S0 := S ++ T) e g
  unfold noDiv at hn
  rw [hn] at hn2
  exact ⟨T2, mTest_ok hn2⟩
theorem prims_loop (S : Store) (s : Src) (hs : s.1 = none) (z0 z1 z2 z3 z6 : Option Mx.D) : ∀ (l : List (Int × Int)) (T : Store), (∀ q ∈ l, 1 < q.1 ∧ q.1 ≤ 300 ∧ noDiv q.1 = true) →
    ∃ T', compL s (.many [4, 5]) (mTest (mBin neM lpI (mLst mNil))) (mV 4) [z0, z1, z2, z3, none, none, z6] (l.map pairD) (S ++ T) = .ok [] (S ++ T') := by
  have ok : ∀ X, okSrc s X = true := fun X => by unfold okSrc; rw [hs]
  intro l
  induction l with
  | nil => intro T _; exact ⟨T, by unfold compL; exact if_pos (ok _)⟩
  | cons q l ih =>
    intro T h
    obtain ⟨a, b, c⟩ := h q List.mem_cons_self
    obtain ⟨T1, e1⟩ := inner_eq (S := S) (T := T) (z0 := z0) (z1 := z1) (z2 := z2) (z3 := z3) (z5 := some (.int q.2)) (z6 := z6) a b c
    obtain ⟨T2, e2⟩ := ih T1 fun q' h' => h q' (List.mem_cons_of_mem _ h')
    refine ⟨T2, ?_⟩
    rw [List.map_cons, compL_skip (ok _) (show bindT (.many [4, 5]) (pairD q) [z0, z1, z2, z3, none, none, z6] = some [z0, z1, z2, z3, some (.int q.1), some (.int q.2), z6] from rfl) e1, e2]
end K01
set_option Elab.async false
set_option linter.all false
set_option maxRecDepth 100000
set_option maxHeartbeats 2000000
/-! k01: _law_parts, its end. -/
namespace K01
open PySem Mx
theorem getA {S T : Store} {j : Nat} {o : SO} (h : S[j]? = some o) : (S ++ T)[j]? = some o := by
  rw [List.getElem?_append_left (List.getElem?_eq_some_iff.mp h).1]; exact h
theorem getL {S : Store} {o : SO} : (S ++ [o])[S.length]? = some o := by simp
theorem lstInts_at {S : Store} {j : Nat} {xs : List Int} (h : S[j]? = some (.lst (xs.map .int))) : lstInts S (.loc j) = some xs := by
  unfold lstInts
  dsimp only
  rw [h]
  dsimp only
  induction xs with
  | nil => rfl
  | cons x xs ih => exact (by
      have : asInts (xs.map Mx.D.int) = some xs := by
        clear ih h
        induction xs with
        | nil => rfl
        | cons y ys ih => simp [asInts, ih]
      simp [asInts, this])
theorem lenM_at {S : Store} {j : Nat} {xs : List Mx.D} (h : S[j]? = some (.lst xs)) : lenM [.loc j] S = .ok (.int xs.length) S := by
  unfold lenM seqOf
  dsimp only
  rw [h]
theorem sumM_at {S : Store} {j : Nat} {xs : List Int} (h : S[j]? = some (.lst (xs.map .int))) : sumM [.loc j] S = .ok (.int xs.sum) S := by
  show (match lstInts S (.loc j) with | some ns => Out.ok (Mx.D.int ns.sum) S | none => .bad) = _
  rw [lstInts_at h]
theorem parts_law_eq {S : Store} {L B : Nat} {x0 x1 x2 : Int} (h : S[L]? = some (.lst [.int x0, .int x1, .int x2])) (D : DOk B x0 x1 x2) (hB : B < 1000000) :
    ∃ (y0 y1 y2 : Int) (T : Store), f__law_parts [.loc L] S = .ok (.bl true) (S.set L (.lst [.int y0, .int y1, .int y2]) ++ T) ∧ DOk (B + 1) y0 y1 y2 := by
  obtain ⟨v, y0, y1, y2, e, v0, v1, D'⟩ := roll_eq (many := 300) h D hB (by decide) (by decide)
  generalize hS1 : S.set L (.lst [.int y0, .int y1, .int y2]) = S1 at *
  have hlen : S1.length = S.length := by rw [← hS1]; simp
  have n0 : 0 < 1 + v := by omega
  have n1 : 1 + v ≤ 300 := by omega
  generalize hn : 1 + v = n at n0 n1
  have hcall : mCall 2 f__law_roll (mCons (mV 0) (mCons (mC (.int 300)) mNil)) [some (.loc L), none, none, none, none, none, none] S = .ok (.int v) S1 := (mCall_ok (ds := [.loc L, .int 300]) (S1 := S) rfl rfl).trans e
  have s1 : msAsg (.one 1) (mBin addM (mC (.int 1)) (mCall 2 f__law_roll (mCons (mV 0) (mCons (mC (.int 300)) mNil)))) [some (.loc L), none, none, none, none, none, none] S = .next [some (.loc L), some (.int n), none, none, none, none, none] S1 :=
    msAsg_ok (by rw [← hn]; exact (mBin_ok2 rfl hcall).trans addM_int)
  obtain ⟨l1, l2, l3, l4, l5⟩ := parts_law n0 n1
  obtain ⟨T1, j, w, hj, g⟩ := whole_eq (S := S1) (T := []) (n := n) (z0 := some (.loc L)) (z2 := none) (z3 := none) (z4 := none) (z5 := none) (z6 := none) n0 n1
  rw [List.append_nil] at w
  have s2 : msAsg (.one 2) lpW [some (.loc L), some (.int n), none, none, none, none, none] S1 = .next [some (.loc L), some (.int n), some (.loc j), none, none, none, none] (S1 ++ T1) := msAsg_ok w
  -- divisors
  have dv : mCall 1 f_divisors (mCons (mV 1) mNil) [some (.loc L), some (.int n), some (.loc j), none, none, none, none] (S1 ++ T1) = .ok (.tup ((divL n).map .int)) (S1 ++ T1) := (mCall_ok (ds := [.int n]) (S1 := S1 ++ T1) rfl rfl).trans (divisors_eq n0 n1)
  rw [l1] at dv
  have dv2 := (mCB1_ok (f := listM) dv).trans list_tup
  have s3 := skip_ret (e := mC (.bl false)) (mTest_ok ((mBin_ok2 (f := neM) dv2 (y := .loc j) (S2 := S1 ++ T1 ++ [.lst ((wholeL n).map .int)]) (b := mV 2) rfl).trans ((neM_lsts getL (getA g)).trans (by rw [decide_eq_true (rfl : wholeL n = wholeL n)]; rfl))))
  rw [List.append_assoc] at s3
  -- count
  generalize hT2 : T1 ++ [SO.lst ((wholeL n).map .int)] = T2 at s3
  have g2 : (S1 ++ T2)[j]? = some (.lst ((wholeL n).map .int)) := by rw [← hT2, ← List.append_assoc]; exact getA g
  generalize hS2 : S1 ++ T2 = S2 at s3 g2
  obtain ⟨T3, j3, a, hj3, g3⟩ := apart_eq (S := S2) (T := []) (n := n) (z0 := some (.loc L)) (z2 := some (.loc j)) (z3 := none) (z4 := none) (z5 := none) (z6 := none) n0 n1
  rw [List.append_nil] at a
  have ct : mCall 1 f_count_apart (mCons (mV 1) mNil) [some (.loc L), some (.int n), some (.loc j), none, none, none, none] S2 = .ok (.int (cntL n)) S2 := (mCall_ok (ds := [.int n]) (S1 := S2) rfl rfl).trans (count_eq n0 n1).1
  have a2 := (mCB1_ok (f := lenM) a).trans (lenM_at g3)
  rw [List.length_map, ← l2] at a2
  have s4 := skip_ret (e := mC (.bl false)) (mTest_ok ((mBin_ok2 (f := neM) ct a2).trans (neM_int.trans (by rw [decide_eq_true (rfl : cntL n = cntL n)]; rfl))))
  -- weights
  have g4 : (S2 ++ T3)[j]? = some (.lst ((wholeL n).map .int)) := getA g2
  have wt := weights_eq (S := S2 ++ T3) (n := n) (z0 := some (.loc L)) (z1 := some (.int n)) (z3 := none) (z4 := none) (z5 := none) (z6 := none) n0 n1 g4
  have wt2 := (mCB1_ok (f := sumM) wt).trans (sumM_at getL)
  rw [l3] at wt2
  generalize hX : S2 ++ T3 ++ [SO.lst (((wholeL n).map wtL).map .int)] = X at wt2
  have on : mCB int1M (mCons (mBin eqM (mV 1) (mC (.int 1))) mNil) [some (.loc L), some (.int n), some (.loc j), none, none, none, none] X = .ok (.int (if n = 1 then 1 else 0)) X := (mCB1_ok (f := int1M) (show mBin eqM (mV 1) (mC (.int 1)) _ X = .ok (.bl (decide (n = 1))) X from (mBin_ok rfl rfl).trans eqM_int)).trans (by
    unfold int1M
    by_cases q : n = 1 <;> simp [q])
  have s5 := skip_ret (e := mC (.bl false)) (mTest_ok ((mBin_ok2 (f := neM) wt2 on).trans (neM_int.trans (by rw [decide_eq_true (rfl : (if n = 1 then (1 : Int) else 0) = if n = 1 then 1 else 0)]; rfl))))
  have s6 : msAsg (.one 3) (mC (.int 1)) [some (.loc L), some (.int n), some (.loc j), none, none, none, none] X = .next [some (.loc L), some (.int n), some (.loc j), some (.int 1), none, none, none] X := msAsg_ok rfl
  -- product
  obtain ⟨w4, w5, w6, e7⟩ := pro_loop X (none, (parL n).map pairD) rfl (some (.loc L)) (some (.int n)) (some (.loc j)) (parL n) 1 1 none none none (chkP_at n0 n1).2.1 (by decide) (by decide) (by have := (chkP_at n0 n1).2.2; omega)
  rw [l4] at e7
  have pt : mCall 1 f_parts (mCons (mV 1) mNil) [some (.loc L), some (.int n), some (.loc j), some (.int 1), none, none, none] X = .ok (.tup ((parL n).map pairD)) X := (mCall_ok (ds := [.int n]) (S1 := X) rfl rfl).trans (parts_at n0 n1)
  have s7 := (msFor_ok (miSeq_tup pt) (t := .many [4, 5]) (b := msFor (miRange1 (mCons (mV 5) mNil)) (.one 6) (msAsg (.one 3) (mBin mulM (mV 3) (mV 4))))).trans e7
  have s8 : msIf (mTest (mBin neM (mV 3) (mV 1))) (msRet (mC (.bl false))) msNil [some (.loc L), some (.int n), some (.loc j), some (.int n), w4, w5, w6] X = .next _ X := skip_ret (mTest_ok ((mBin_ok rfl rfl).trans (neM_int.trans (by rw [decide_eq_true (rfl : n = n)]; rfl))))
  -- primes
  have pt2 : mCall 1 f_parts (mCons (mV 1) mNil) [some (.loc L), some (.int n), some (.loc j), some (.int n), w4, w5, w6] X = .ok (.tup ((parL n).map pairD)) X := (mCall_ok (ds := [.int n]) (S1 := X) rfl rfl).trans (parts_at n0 n1)
  obtain ⟨T4, e9⟩ := prims_loop X (none, (parL n).map pairD) rfl (some (.loc L)) (some (.int n)) (some (.loc j)) (some (.int n)) w6 (parL n) [] (fun q hq => ⟨((chkP_at n0 n1).2.1 q hq).1, ((chkP_at n0 n1).2.1 q hq).2.1, l5 q hq⟩)
  rw [List.append_nil] at e9
  have lc := mLc_ok (vs := [4, 5]) (t := .many [4, 5]) (ρ := [some (.loc L), some (.int n), some (.loc j), some (.int n), w4, w5, w6]) (miSeq_tup pt2) (by rw [List.length_map]; have := (chkP_at n0 n1).2.2; unfold LIM; omega) e9
  obtain ⟨T5, h9⟩ := ne_nil (S := X) (T := T4 ++ [.lst []]) (xs := []) (S0 := X) (by rw [← List.append_assoc]; exact lc) (by rw [← List.append_assoc]; exact getL)
  have s9 := skip_ret (e := mC (.bl false)) (mTest_ok h9)
  obtain ⟨T6, hX6⟩ : ∃ T6, X ++ T5 = S1 ++ T6 := ⟨T2 ++ (T3 ++ ([SO.lst (((wholeL n).map wtL).map .int)] ++ T5)), by rw [← hX, ← hS2]; simp only [List.append_assoc]⟩
  have key : m__law_parts (startM 7 [.loc L]) S = .ret (.bl true) (S1 ++ T6) := by
    have start : startM 7 [.loc L] = [some (.loc L), none, none, none, none, none, none] := rfl
    rw [start]
    unfold m__law_parts
    rw [msSeq_next s1, msSeq_next s2]
    refine (msSeq_next s3).trans ((msSeq_next s4).trans ((msSeq_next s5).trans ((msSeq_next s6).trans ((msSeq_next s7).trans ((msSeq_next s8).trans ((msSeq_next s9).trans ?_))))))
    rw [hX6]
    rfl
  obtain ⟨T7, hf⟩ := fin_any (S := S) (S1 := S1) (T := T6) (d := .bl true) hlen
  refine ⟨y0, y1, y2, T7, ?_, D'⟩
  rw [hS1]
  unfold f__law_parts fnM
  rw [key]
  exact hf
end K01
set_option Elab.async false
set_option linter.all false
set_option maxRecDepth 100000
set_option maxHeartbeats 2000000
/-! k01: _law_together. -/
namespace K01
open PySem Mx
theorem mTup2_ok {a b : ME} {ρ : Env'} {S S1 S2 : Store} {x y : Mx.D} (ha : a ρ S = .ok x S1) (hb : b ρ S1 = .ok y S2) : mTup (mCons a (mCons b mNil)) ρ S = .ok (.tup [x, y]) S2 := by
  unfold mTup mCons mNil
  rw [ha, ok_bind, hb, ok_bind]
  show (if ([x, y] : List Mx.D).length ≤ LIM then Out.ok (Mx.D.tup [x, y]) S2 else Out.bad) = _
  exact if_pos (by simp [LIM])
theorem mTup3_ok {a b c : ME} {ρ : Env'} {S S1 S2 S3 : Store} {x y z : Mx.D} (ha : a ρ S = .ok x S1) (hb : b ρ S1 = .ok y S2) (hc : c ρ S2 = .ok z S3) : mTup (mCons a (mCons b (mCons c mNil))) ρ S = .ok (.tup [x, y, z]) S3 := by
  unfold mTup mCons mNil
  rw [ha, ok_bind, hb, ok_bind, hc, ok_bind]
  show (if ([x, y, z] : List Mx.D).length ≤ LIM then Out.ok (Mx.D.tup [x, y, z]) S3 else Out.bad) = _
  exact if_pos (by simp [LIM])
theorem mTold_ok {l : List (Str × Str)} {m : ME} {ρ : Env'} {S S1 : Store} {d : Mx.D} (h : m ρ S = .ok d S1) : mToldN l m ρ S = .ok d S1 := by
  unfold mToldN
  rw [h]
theorem mTold_no {m : ME} {ρ : Env'} {S S1 : Store} (h : m ρ S = .exc ⟨"NoWay", none⟩ S1) : mToldN toldN m ρ S = .ok (.str "no way") S1 := by
  unfold mToldN
  rw [h]
  rfl
theorem mTold_num {m : ME} {ρ : Env'} {S S1 : Store} (h : m ρ S = .exc ⟨"BadNumber", none⟩ S1) : mToldN toldN m ρ S = .ok (.str "number") S1 := by
  unfold mToldN
  rw [h]
  rfl
theorem rollC_eq {S : Store} {L B : Nat} {x0 x1 x2 many : Int} {ρ : Env'} {i : Nat} (hv : ρ[i]? = some (some (.loc L))) (h : S[L]? = some (.lst [.int x0, .int x1, .int x2])) (D : DOk B x0 x1 x2) (hB : B < 1000000) (h0 : 0 < many) (h1 : many < 4096) :
    ∃ v y0 y1 y2 : Int, mCall 2 f__law_roll (mCons (mV i) (mCons (mC (.int many)) mNil)) ρ S = .ok (.int v) (S.set L (.lst [.int y0, .int y1, .int y2])) ∧ 0 ≤ v ∧ v < many ∧ DOk (B + 1) y0 y1 y2 := by
  obtain ⟨v, y0, y1, y2, e, a, b, c⟩ := roll_eq h D hB h0 h1
  refine ⟨v, y0, y1, y2, ?_, a, b, c⟩
  refine (mCall_ok (ds := [.loc L, .int many]) (S1 := S) ?_ rfl).trans e
  have : mV i ρ S = .ok (.loc L) S := by unfold mV; rw [hv]
  unfold mCons mNil mC
  rw [this]
  rfl
abbrev pairE : ME := mTup (mCons (mCall 2 f__law_roll (mCons (mV 0) (mCons (mC (.int 9)) mNil))) (mCons (mBin addM (mC (.int 1)) (mCall 2 f__law_roll (mCons (mV 0) (mCons (mC (.int 9)) mNil)))) mNil))
theorem dvd2520 {m : Int} (h0 : 0 < m) (h1 : m ≤ 9) : m ∣ 2520 := by
  have : m = 1 ∨ m = 2 ∨ m = 3 ∨ m = 4 ∨ m = 5 ∨ m = 6 ∨ m = 7 ∨ m = 8 ∨ m = 9 := by omega
  rcases this with rfl | rfl | rfl | rfl | rfl | rfl | rfl | rfl | rfl <;> decide
theorem pair_eq {S : Store} {L B : Nat} {x0 x1 x2 : Int} {ρ : Env'} (hv : ρ[0]? = some (some (.loc L))) (h : S[L]? = some (.lst [.int x0, .int x1, .int x2])) (D : DOk B x0 x1 x2) (hB : B < 900000) :
    ∃ (q : Int × Int) (y0 y1 y2 : Int), pairE ρ S = .ok (pairD q) (S.set L (.lst [.int y0, .int y1, .int y2])) ∧ rowOk q ∧ DOk (B + 2) y0 y1 y2 := by
  have hL : L < S.length := (List.getElem?_eq_some_iff.mp h).1
  obtain ⟨v, y0, y1, y2, e1, a1, a2, D1⟩ := rollC_eq (many := 9) hv h D (by omega) (by decide) (by decide)
  obtain ⟨u, w0, w1, w2, e2, b1, b2, D2⟩ := rollC_eq (many := 9) (S := S.set L (.lst [.int y0, .int y1, .int y2])) hv (List.getElem?_set_self hL) D1 (by omega) (by decide) (by decide)
  rw [List.set_set] at e2
  refine ⟨(v, 1 + u), w0, w1, w2, mTup2_ok e1 ((mBin_ok2 rfl e2).trans addM_int), ⟨a1, by show v ≤ 100; omega, by show 0 < 1 + u; omega, by show 1 + u ≤ 9; omega, dvd2520 (by omega) (by omega)⟩, D2⟩
theorem pairs_eq {L : Nat} {s : Src} (hs : s.1 = none) {ρ : Env'} (hl : 4 < ρ.length) (hv : ρ[0]? = some (some (.loc L))) : ∀ (l : List Int) (S : Store) (B : Nat) (x0 x1 x2 : Int), S[L]? = some (.lst [.int x0, .int x1, .int x2]) → DOk B x0 x1 x2 → B + 2 * l.length < 900000 →
    ∃ (qs : List (Int × Int)) (y0 y1 y2 : Int), compL s (.one 4) mYes pairE ρ (l.map .int) S = .ok (qs.map pairD) (S.set L (.lst [.int y0, .int y1, .int y2])) ∧ (∀ q ∈ qs, rowOk q) ∧ qs.length = l.length ∧ DOk (B + 2 * l.length) y0 y1 y2 := by
  have ok : ∀ X, okSrc s X = true := fun X => by unfold okSrc; rw [hs]
  intro l
  induction l with
  | nil =>
    intro S B x0 x1 x2 h D hB
    refine ⟨[], x0, x1, x2, ?_, (fun q hq => by cases hq), rfl, D⟩
    have hS : S.set L (.lst [.int x0, .int x1, .int x2]) = S := by
      obtain ⟨hL, e⟩ := List.getElem?_eq_some_iff.mp h
      rw [← e]
      exact List.set_getElem_self hL
    rw [hS]
    unfold compL
    exact if_pos (ok _)
  | cons k l ih =>
    intro S B x0 x1 x2 h D hB
    rw [List.length_cons] at hB
    have hL : L < S.length := (List.getElem?_eq_some_iff.mp h).1
    have hv2 : (ρ.set 4 (some (.int k)))[0]? = some (some (.loc L)) := by rw [List.getElem?_set_ne (by decide)]; exact hv
    obtain ⟨q, y0, y1, y2, e, hq, D1⟩ := pair_eq hv2 h D (by omega)
    obtain ⟨qs, w0, w1, w2, e2, hqs, hlen, D2⟩ := ih (S.set L (.lst [.int y0, .int y1, .int y2])) (B + 2) y0 y1 y2 (List.getElem?_set_self hL) D1 (by omega)
    rw [List.set_set] at e2
    refine ⟨q :: qs, w0, w1, w2, ?_, fun q' h' => ?_, by simp [hlen], ?_⟩
    · rw [List.map_cons, compL_take (ok _) rfl rfl e, e2, ok_bind]
      rfl
    · rcases List.mem_cons.mp h' with z | z
      · rw [z]; exact hq
      · exact hqs q' z
    · rw [List.length_cons, show B + 2 * (l.length + 1) = B + 2 + 2 * l.length by omega]; exact D2
/-- a comprehension of ones over pairs -/
theorem ones_loop {s : Src} {S : Store} (ok : okSrc s S = true) {ρ0 : Env'} {i j : Nat} {p : Int × Int → Bool} {c : MT} : ∀ (l : List (Int × Int)), (∀ q ∈ l, c ((ρ0.set i (some (.int q.1))).set j (some (.int q.2))) S = .ok (p q) S) →
    compL s (.many [i, j]) c (mC (.int 1)) ρ0 (l.map pairD) S = .ok (((l.filter p).map fun _ => (1 : Int)).map .int) S := by
  intro l
  induction l with
  | nil => intro _; unfold compL; exact if_pos ok
  | cons q l ih =>
    intro h
    have h1 := h q List.mem_cons_self
    have h2 := ih fun q' h' => h q' (List.mem_cons_of_mem _ h')
    have hb : bindT (.many [i, j]) (pairD q) ρ0 = some ((ρ0.set i (some (.int q.1))).set j (some (.int q.2))) := rfl
    rw [List.map_cons, List.filter_cons]
    cases hp : p q with
    | true =>
      rw [hp] at h1
      rw [compL_take ok hb h1 (show mC (.int 1) _ S = .ok (.int 1) S from rfl), h2, ok_bind]
      rfl
    | false =>
      rw [hp] at h1
      rw [compL_skip ok hb h1, h2]
      rfl
def fitB (l : List (Int × Int)) (k : Int) : Bool := decide (((l.filter fun q => !decide ((k - q.1) % q.2 = 0)).map fun _ => (1 : Int)) = [])
theorem fitB_iff {l : List (Int × Int)} {k : Int} : fitB l k = true ↔ ∀ q ∈ l, q.2 ∣ k - q.1 := by
  unfold fitB
  rw [decide_eq_true_eq, List.map_eq_nil_iff, List.filter_eq_nil_iff]
  constructor
  · intro h q hq
    have := h q hq
    simp only [Bool.not_eq_true', decide_eq_false_iff_not, Decidable.not_not] at this
    exact Int.dvd_of_emod_eq_zero this
  · intro h q hq
    simp only [Bool.not_eq_true', decide_eq_false_iff_not, Decidable.not_not]
    exact Int.emod_eq_zero_of_dvd (h q hq)
abbrev fitC : MT := mTest (mBin eqM (mLc [5, 6] (miSeq (mV 1)) (.many [5, 6]) (mTest (mBin neM (mBin modM (mBin subM (mV 4) (mV 5)) (mV 6)) (mC (.int 0)))) (mC (.int 1))) (mLst mNil))
theorem fitC_eq {S : Store} {i : Nat} {l : List (Int × Int)} {k : Int} {z0 z2 z3 z5 z6 : Option Mx.D} (hi : S[i]? = some (.lst (l.map pairD))) (hl : ∀ q ∈ l, rowOk q) (hlen : l.length ≤ 100) :
    ∃ T, fitC [z0, some (.loc i), z2, z3, some (.int k), z5, z6] S = .ok (fitB l k) (S ++ T) := by
  have ok : okSrc (some i, l.map pairD) S = true := by unfold okSrc; exact decide_eq_true hi
  have e := ones_loop (s := (some i, l.map pairD)) (S := S) ok (ρ0 := [z0, some (.loc i), z2, z3, some (.int k), none, none]) (i := 5) (j := 6) (p := fun q => !decide ((k - q.1) % q.2 = 0)) (c := mTest (mBin neM (mBin modM (mBin subM (mV 4) (mV 5)) (mV 6)) (mC (.int 0)))) l (fun q hq => by
    obtain ⟨a1, a2, a3, a4, a5⟩ := hl q hq
    have w : ([z0, some (.loc i), z2, z3, some (Mx.D.int k), none, none].set 5 (some (.int q.1))).set 6 (some (.int q.2)) = [z0, some (.loc i), z2, z3, some (.int k), some (.int q.1), some (.int q.2)] := rfl
    rw [w]
    simp only [msSeq, OutS.thenS, msAsg, msPar, msIf, msRet, msRetN, msAug, msRaise, msNil, msExpr, msSub, Out.toS, Out.bind, mV, mC, mBin, mTest, mCons, mNil, mTup, mIfE, mNeg, mCB, mCall, mChain, mAnd, mOr, mNot, bindT, setAll, startM, OutS.end_, List.getElem?_cons_zero, List.getElem?_cons_succ, List.set_cons_zero, List.set_cons_succ, List.map_cons, List.map_nil, List.length_cons, List.length_nil, List.replicate, List.append_nil, List.nil_append, List.cons_append, if_true, if_false, eqM_int, neM_int, addM_int, subM_int, modM_pos, cmpM_int, Nat.zero_add, Nat.reduceAdd, Nat.reduceSub, LIM0, LIM1, LIM2, LIM3, LIM4, LIM5, modM_pos a3])
  have lc := mLc_ok (vs := [5, 6]) (t := .many [5, 6]) (ρ := [z0, some (.loc i), z2, z3, some (.int k), z5, z6]) (miSeq_loc (a := mV 1) (i := i) rfl hi) (by dsimp only; rw [List.length_map]; unfold LIM; omega) e
  obtain ⟨T', h⟩ := eq_nil (S := S) (T := [.lst (((l.filter fun q => !decide ((k - q.1) % q.2 = 0)).map fun _ => (1 : Int)).map .int)]) lc getL
  exact ⟨T', mTest_ok h⟩
theorem rangeI_app : ∀ (a b : Nat) (lo : Int), rangeI lo (a + b) = rangeI lo a ++ rangeI (lo + a) b
  | 0, b, lo => by simp [rangeI]
  | a + 1, b, lo => by
    rw [show a + 1 + b = (a + b) + 1 by omega]
    show lo :: rangeI (lo + 1) (a + b) = lo :: (rangeI (lo + 1) a ++ rangeI (lo + ((a + 1 : Nat) : Int)) b)
    rw [rangeI_app a b (lo + 1), show lo + 1 + (a : Int) = lo + ((a + 1 : Nat) : Int) by omega]
theorem fit_list {p : Int → Bool} {r n : Int} (h0 : 0 ≤ r) (h1 : r < n) (h2 : n ∣ 2520) (hp : ∀ k, p k = true ↔ n ∣ k - r) :
    ∃ rest, (rangeI 0 2520).filter p = r :: rest ∧ ((n = 2520 ∧ rest = []) ∨ (n < 2520 ∧ ∃ rest', rest = (r + n) :: rest')) := by
  have hn : n ≤ 2520 := Int.le_of_dvd (by decide) h2
  have none_in : ∀ (lo : Int) (m : Nat), (∀ k, lo ≤ k → k < lo + m → ¬ n ∣ k - r) → (rangeI lo m).filter p = [] := fun lo m h => by
    rw [List.filter_eq_nil_iff]
    intro k hk
    have := rangeI_mem.mp hk
    rw [hp]
    exact h k this.1 this.2
  have small : ∀ k, k - r ≠ 0 → -n < k - r → k - r < n → ¬ n ∣ k - r := fun k h3 h4 h5 h6 => by
    obtain ⟨c, hc⟩ := h6
    rcases Int.lt_trichotomy c 0 with q | q | q
    · have := Int.mul_le_mul_of_nonneg_left (show c ≤ -1 by omega) (show 0 ≤ n by omega)
      omega
    · subst q; omega
    · have := Int.mul_le_mul_of_nonneg_left (show 1 ≤ c by omega) (show 0 ≤ n by omega)
      omega
  have e1 : rangeI 0 2520 = rangeI 0 r.toNat ++ rangeI r (2520 - r.toNat) := by
    have h := rangeI_app r.toNat (2520 - r.toNat) 0
    rw [show r.toNat + (2520 - r.toNat) = 2520 by omega, show (0 : Int) + (r.toNat : Int) = r by omega] at h
    exact h
  have e2 : rangeI r (2520 - r.toNat) = r :: rangeI (r + 1) (2519 - r.toNat) := by
    rw [show 2520 - r.toNat = (2519 - r.toNat) + 1 by omega]
    rfl
  have pr : p r = true := (hp r).mpr ⟨0, by omega⟩
  have f1 : (rangeI 0 r.toNat).filter p = [] := none_in 0 _ fun k a b => small k (by omega) (by omega) (by omega)
  refine ⟨(rangeI (r + 1) (2519 - r.toNat)).filter p, ?_, ?_⟩
  · rw [e1, List.filter_append, f1, e2, List.filter_cons, pr]
    rfl
  · by_cases q : n = 2520
    · exact .inl ⟨q, none_in _ _ fun k a b => small k (by omega) (by omega) (by omega)⟩
    · right
      have hlt : n < 2520 := by omega
      refine ⟨hlt, ?_⟩
      have h2n : n ≤ 1260 := by
        obtain ⟨c, hc⟩ := h2
        have c2 : 2 ≤ c := by
          rcases Int.lt_or_le c 2 with z | z
          · have := Int.mul_le_mul_of_nonneg_left (show c ≤ 1 by omega) (show 0 ≤ n by omega)
            omega
          · exact z
        have := Int.mul_le_mul_of_nonneg_left c2 (show 0 ≤ n by omega)
        omega
      have e3 : rangeI (r + 1) (2519 - r.toNat) = rangeI (r + 1) (n - 1).toNat ++ rangeI (r + n) (2520 - r.toNat - n.toNat) := by
        have h := rangeI_app (n - 1).toNat (2520 - r.toNat - n.toNat) (r + 1)
        rw [show (n - 1).toNat + (2520 - r.toNat - n.toNat) = 2519 - r.toNat by omega, show r + 1 + ((n - 1).toNat : Int) = r + n by omega] at h
        exact h
      have e4 : rangeI (r + n) (2520 - r.toNat - n.toNat) = (r + n) :: rangeI (r + n + 1) (2519 - r.toNat - n.toNat) := by
        rw [show 2520 - r.toNat - n.toNat = (2519 - r.toNat - n.toNat) + 1 by omega]
        rfl
      have f2 : (rangeI (r + 1) (n - 1).toNat).filter p = [] := none_in _ _ fun k a b => small k (by omega) (by omega) (by omega)
      have pn : p (r + n) = true := (hp _).mpr ⟨1, by omega⟩
      exact ⟨(rangeI (r + n + 1) (2519 - r.toNat - n.toNat)).filter p, by rw [e3, List.filter_append, f2, e4, List.filter_cons, pn]; rfl⟩
end K01
set_option Elab.async false
set_option linter.all false
set_option maxRecDepth 100000
set_option maxHeartbeats 2000000
/-! k01: _law_together, its end. -/
namespace K01
open PySem Mx
theorem ixI {S : Store} {j : Nat} {xs : List Int} (h : S[j]? = some (.lst (xs.map .int))) {i : Nat} {x : Int} (hx : xs[i]? = some x) : ixM (.loc j) (.int (i : Int)) S = .ok (.int x) S := by
  unfold ixM
  dsimp only
  rw [h]
  dsimp only
  have hl : i < xs.length := (List.getElem?_eq_some_iff.mp hx).1
  have e : L2.atI (xs.map Mx.D.int) (i : Int) = some (Mx.D.int x) := by
    unfold L2.atI L2.ixN
    simp [hl, (List.getElem?_eq_some_iff.mp hx).2]
  rw [e]
theorem neM_str {a b : PySem.Str} {S : Store} (ha : PyData.strOk a = true) (hb : PyData.strOk b = true) : neM (.str a) (.str b) S = .ok (.bl (!(PyData.eqv (.str a) (.str b)))) S := neM_pd rfl rfl (by simp [SeqAt.shaped, PyData.canLay0, PyData.depth, ha]) (by simp [SeqAt.shaped, PyData.canLay0, PyData.depth, hb])
theorem neM_self {a : PySem.Str} {S : Store} (ha : PyData.strOk a = true := by decide +kernel) : neM (.str a) (.str a) S = .ok (.bl false) S := by
  rw [neM_str ha ha]
  simp [PyData.eqv]
theorem together_law_eq {S : Store} {L B : Nat} {x0 x1 x2 : Int} (h : S[L]? = some (.lst [.int x0, .int x1, .int x2])) (D : DOk B x0 x1 x2) (hB : B < 800000) :
    ∃ (y0 y1 y2 : Int) (T : Store), f__law_together [.loc L] S = .ok (.bl true) (S.set L (.lst [.int y0, .int y1, .int y2]) ++ T) ∧ DOk (B + 6) y0 y1 y2 := by
  obtain ⟨qs, y0, y1, y2, e, hqs, hlen, D'⟩ := pairs_eq (s := (none, rangeD 0 3)) rfl (ρ := [some (.loc L), none, none, none, none, none, none]) (by simp) rfl [0, 1, 2] S B x0 x1 x2 h D (by show B + 2 * 3 < 900000; omega)
  generalize hS1 : S.set L (.lst [.int y0, .int y1, .int y2]) = S1 at *
  have hl1 : S1.length = S.length := by rw [← hS1]; simp
  have s1 : msAsg (.one 1) (mLc [4] (miRange1 (mCons (mC (.int 3)) mNil)) (.one 4) mYes pairE) [some (.loc L), none, none, none, none, none, none] S = .next [some (.loc L), some (.loc S1.length), none, none, none, none, none] (S1 ++ [.lst (qs.map pairD)]) :=
    msAsg_ok (mLc_ok (s := (none, rangeD 0 3)) (miRange1_eq (b := 3) rfl (inR_small (by decide))) (by decide) e)
  have g1 : (S1 ++ [SO.lst (qs.map pairD)])[S1.length]? = some (.lst (qs.map pairD)) := getL
  generalize hi : S1.length = i at *
  generalize hX1 : S1 ++ [SO.lst (qs.map pairD)] = X1 at *
  have hlen2 : qs.length ≤ 100 := by rw [hlen]; decide
  obtain ⟨T1, j, e2, hj, g2⟩ := pick_eq (mi := miRange1 (mCons (mC (.int 2520)) mNil)) (vs := [4]) (i := 4) (S := X1) (T := []) (c := fitC) (p := fitB qs) (ρ := [some (.loc L), some (.loc i), none, none, none, none, none]) (s := (none, rangeD 0 2520)) (l := rangeI 0 2520) (by exact miRange1_eq (b := 2520) rfl (inR_small (by decide))) rfl (rangeD_map _ _) (by rw [rangeI_len]; decide) (by simp [wipeM]) (fun k hk T => by
    obtain ⟨T', h'⟩ := fitC_eq (S := X1 ++ T) (z0 := some (.loc L)) (i := i) (l := qs) (k := k) (z2 := none) (z3 := none) (z5 := none) (z6 := none) (getA g1) hqs hlen2
    exact ⟨T ++ T', by rw [← List.append_assoc]; exact h'⟩)
  rw [List.append_nil] at e2
  have s2 := msAsg_ok (i := 2) e2
  have g3 : (X1 ++ T1)[i]? = some (.lst (qs.map pairD)) := getA g1
  generalize hX2 : X1 ++ T1 = X2 at *
  have fin2 : ∃ T6, X2 = S1 ++ T6 := ⟨[.lst (qs.map pairD)] ++ T1, by rw [← hX2, ← hX1, List.append_assoc]⟩
  obtain ⟨T6, hX6⟩ := fin2
  have key : ∃ T, m__law_together (startM 7 [.loc L]) S = .ret (.bl true) (S1 ++ T) := by
    have start : startM 7 [.loc L] = [some (.loc L), none, none, none, none, none, none] := rfl
    rw [start]
    unfold m__law_together
    rw [msSeq_next s1]
    rcases together_eq (S := X2) (i := i) g3 hqs with ⟨r, n, et, b0, b1, b2, b3⟩ | ⟨et, b⟩
    · have hp : ∀ k, fitB qs k = true ↔ n ∣ k - r := fun k => fitB_iff.trans (b3 k)
      obtain ⟨rest, f1, f2⟩ := fit_list b0 b1 b2 hp
      have c1 : mCall 1 f_together (mCons (mV 1) mNil) [some (.loc L), some (.loc i), some (.loc j), none, none, none, none] X2 = .ok (.tup [.int r, .int n]) X2 := (mCall_ok (ds := [.loc i]) (S1 := X2) rfl rfl).trans et
      have s3 := msAsg_ok (i := 3) (mTold_ok (l := toldN) c1)
      rw [f1] at g2
      obtain ⟨T7, n1⟩ := eq_nil (S := X2) (T := []) (S0 := X2) (a := mV 2) (ρ := [some (.loc L), some (.loc i), some (.loc j), some (.tup [.int r, .int n]), none, none, none]) (j := j) (xs := r :: rest) (by rw [List.append_nil]; rfl) (by rw [List.append_nil]; exact g2)
      have g4 : (X2 ++ T7)[j]? = some (.lst ((r :: rest).map .int)) := getA g2
      generalize hX3 : X2 ++ T7 = X3 at *
      have i0 : mBin ixM (mV 2) (mC (.int 0)) [some (.loc L), some (.loc i), some (.loc j), some (.tup [.int r, .int n]), none, none, none] X3 = .ok (.int r) X3 := (mBin_ok rfl rfl).trans (ixI (i := 0) g4 rfl)
      have ln : mCB lenM (mCons (mV 2) mNil) [some (.loc L), some (.loc i), some (.loc j), some (.tup [.int r, .int n]), none, none, none] X3 = .ok (.int (((r :: rest).map Mx.D.int).length : Int)) X3 := (mCB1_ok (f := lenM) rfl).trans (lenM_at g4)
      have i1 : mIfE (mTest (mBin gtM (mCB lenM (mCons (mV 2) mNil)) (mC (.int 1)))) (mBin subM (mBin ixM (mV 2) (mC (.int 1))) (mBin ixM (mV 2) (mC (.int 0)))) (mC (.int 2520)) [some (.loc L), some (.loc i), some (.loc j), some (.tup [.int r, .int n]), none, none, none] X3 = .ok (.int n) X3 := by
        rcases f2 with ⟨q1, q2⟩ | ⟨q1, rest', q2⟩
        · rw [q2] at ln
          rw [mIfE_f (mTest_ok ((mBin_ok2 ln rfl).trans cmpM_int)), q1]
          rfl
        · rw [q2] at ln
          have hd : decide ((1 : Int) < (((r :: (r + n) :: rest').map Mx.D.int).length : Int)) = true := decide_eq_true (by simp only [List.map_cons, List.length_cons]; omega)
          have t1 := mTest_ok ((mBin_ok2 (f := gtM) (b := mC (.int 1)) ln rfl).trans cmpM_int)
          rw [hd] at t1
          rw [mIfE_t t1]
          rw [q2] at g4
          refine (mBin_ok ((mBin_ok rfl rfl).trans (ixI (i := 1) g4 rfl)) i0).trans ?_
          rw [subM_int, show r + n - r = n by omega]
      have ne : mTest (mBin neM (mV 3) (mTup (mCons (mBin ixM (mV 2) (mC (.int 0))) (mCons (mIfE (mTest (mBin gtM (mCB lenM (mCons (mV 2) mNil)) (mC (.int 1)))) (mBin subM (mBin ixM (mV 2) (mC (.int 1))) (mBin ixM (mV 2) (mC (.int 0)))) (mC (.int 2520))) mNil)))) [some (.loc L), some (.loc i), some (.loc j), some (.tup [.int r, .int n]), none, none, none] X3 = .ok false X3 := by
        refine mTest_ok ((mBin_ok2 (x := .tup [.int r, .int n]) rfl (mTup2_ok i0 i1)).trans ?_)
        exact (neM_tups [r, n] [r, n]).trans (by simp)
      have s4 : msIf (mTest (mBin eqM (mV 2) (mLst mNil))) (msIf (mTest (mBin neM (mV 3) (mC (.str "no way")))) (msRet (mC (.bl false))) msNil) (msIf (mTest (mBin neM (mV 3) (mTup (mCons (mBin ixM (mV 2) (mC (.int 0))) (mCons (mIfE (mTest (mBin gtM (mCB lenM (mCons (mV 2) mNil)) (mC (.int 1)))) (mBin subM (mBin ixM (mV 2) (mC (.int 1))) (mBin ixM (mV 2) (mC (.int 0)))) (mC (.int 2520))) mNil))))) (msRet (mC (.bl false))) msNil) [some (.loc L), some (.loc i), some (.loc j), some (.tup [.int r, .int n]), none, none, none] X2 = .next [some (.loc L), some (.loc i), some (.loc j), some (.tup [.int r, .int n]), none, none, none] X3 := by
        rw [msIf_f (mTest_ok n1)]
        exact skip_ret ne
      refine ⟨T6 ++ T7, (msSeq_next s2).trans ((msSeq_next s3).trans ((msSeq_next s4).trans ?_))⟩
      rw [← hX3, hX6, List.append_assoc]
      rfl
    · have f1 : (rangeI 0 2520).filter (fitB qs) = [] := List.filter_eq_nil_iff.mpr fun k _ hk => b k (fitB_iff.mp hk)
      have c1 : mCall 1 f_together (mCons (mV 1) mNil) [some (.loc L), some (.loc i), some (.loc j), none, none, none, none] X2 = .exc ⟨"NoWay", none⟩ X2 := (mCall_ok (ds := [.loc i]) (S1 := X2) rfl rfl).trans et
      have s3 := msAsg_ok (i := 3) (mTold_no c1)
      rw [f1] at g2
      obtain ⟨T7, n1⟩ := eq_nil (S := X2) (T := []) (S0 := X2) (a := mV 2) (ρ := [some (.loc L), some (.loc i), some (.loc j), some (.str "no way"), none, none, none]) (j := j) (xs := []) (by rw [List.append_nil]; rfl) (by rw [List.append_nil]; exact g2)
      generalize hX3 : X2 ++ T7 = X3 at *
      have s4 : msIf (mTest (mBin eqM (mV 2) (mLst mNil))) (msIf (mTest (mBin neM (mV 3) (mC (.str "no way")))) (msRet (mC (.bl false))) msNil) (msIf (mTest (mBin neM (mV 3) (mTup (mCons (mBin ixM (mV 2) (mC (.int 0))) (mCons (mIfE (mTest (mBin gtM (mCB lenM (mCons (mV 2) mNil)) (mC (.int 1)))) (mBin subM (mBin ixM (mV 2) (mC (.int 1))) (mBin ixM (mV 2) (mC (.int 0)))) (mC (.int 2520))) mNil))))) (msRet (mC (.bl false))) msNil) [some (.loc L), some (.loc i), some (.loc j), some (.str "no way"), none, none, none] X2 = .next [some (.loc L), some (.loc i), some (.loc j), some (.str "no way"), none, none, none] X3 := by
        rw [msIf_t (mTest_ok n1)]
        exact skip_ret (mTest_ok ((mBin_ok rfl rfl).trans neM_self))
      refine ⟨T6 ++ T7, (msSeq_next s2).trans ((msSeq_next s3).trans ((msSeq_next s4).trans ?_))⟩
      rw [← hX3, hX6, List.append_assoc]
      rfl
  obtain ⟨T, key⟩ := key
  obtain ⟨T7, hf⟩ := fin_any (S := S) (S1 := S1) (T := T) (d := .bl true) (by omega)
  refine ⟨y0, y1, y2, T7, ?_, D'⟩
  rw [hS1]
  unfold f__law_together fnM
  rw [key]
  exact hf
end K01
set_option Elab.async false
set_option linter.all false
set_option maxRecDepth 100000
set_option maxHeartbeats 2000000
/-! k01: law, its pieces. -/
namespace K01
open PySem Mx
theorem pick0 {mi : MI} {s : Src} {vs : List Nat} {S : Store} {i : Nat} {c : MT} {ρ : Env'} {p : Int → Bool} {l : List Int} (hm : mi ρ S = .ok s S) (hs : s.1 = none) (hl : s.2 = l.map .int) (hlen : l.length ≤ 100000) (hi : i < (wipeM ρ vs).length)
    (h : ∀ k ∈ l, ∀ X, c ((wipeM ρ vs).set i (some (.int k))) X = .ok (p k) X) :
    ∃ T' j, mLc vs mi (.one i) c (mV i) ρ S = .ok (.loc j) (S ++ T') ∧ S.length ≤ j ∧ (S ++ T')[j]? = some (.lst ((l.filter p).map .int)) := by
  have h0 := pick_eq (mi := mi) (s := s) (vs := vs) (S := S) (T := []) (i := i) (c := c) (ρ := ρ) (p := p) (l := l) (by rw [List.append_nil]; exact hm) hs hl hlen hi (fun k hk T => ⟨T, h k hk _⟩)
  rw [List.append_nil] at h0
  exact h0
theorem mAnd_t {c d : MT} {ρ : Env'} {S S1 : Store} (h : c ρ S = .ok true S1) : mAnd c d ρ S = d ρ S1 := by unfold mAnd; rw [h, ok_bind]
theorem mAnd_f {c d : MT} {ρ : Env'} {S S1 : Store} (h : c ρ S = .ok false S1) : mAnd c d ρ S = .ok false S1 := by unfold mAnd; rw [h, ok_bind]
theorem mOr_f {c d : MT} {ρ : Env'} {S S1 : Store} (h : c ρ S = .ok false S1) : mOr c d ρ S = d ρ S1 := by unfold mOr; rw [h, ok_bind]
theorem mNot_ok {c : MT} {ρ : Env'} {S S1 : Store} {k : Bool} (h : c ρ S = .ok k S1) : mNot c ρ S = .ok (!k) S1 := by unfold mNot; rw [h, ok_bind]
theorem ne_ints {a b : ME} {ρ : Env'} {S S1 S2 : Store} {x y : Int} (ha : a ρ S = .ok (.int x) S1) (hb : b ρ S1 = .ok (.int y) S2) (e : x = y) : mTest (mBin neM a b) ρ S = .ok false S2 := by
  refine mTest_ok ((mBin_ok2 ha hb).trans ?_)
  rw [neM_int, e]
  simp
/-! ### common divisors -/
def comL (a b : Int) : List Int := (rangeI 1 200).filter fun k => decide (a % k = 0) && decide (b % k = 0)
abbrev comE : ME := mLc [13] (miRange2 (mCons (mC (.int 1)) (mCons (mC (.int 201)) mNil))) (.one 13) (mAnd (mTest (mBin eqM (mBin modM (mV 2) (mV 13)) (mC (.int 0)))) (mTest (mBin eqM (mBin modM (mV 3) (mV 13)) (mC (.int 0))))) (mV 13)
theorem com_eq {S : Store} {a b : Int} {z0 z1 z4 z5 z6 z7 z8 z9 z10 z11 z12 z13 z14 : Option Mx.D} :
    ∃ T' j, comE [z0, z1, some (.int a), some (.int b), z4, z5, z6, z7, z8, z9, z10, z11, z12, z13, z14] S = .ok (.loc j) (S ++ T') ∧ S.length ≤ j ∧ (S ++ T')[j]? = some (.lst ((comL a b).map .int)) := by
  have mr := miRange2_eq (r := mCons (mC (.int 1)) (mCons (mC (.int 201)) mNil)) (ρ := [z0, z1, some (.int a), some (.int b), z4, z5, z6, z7, z8, z9, z10, z11, z12, z13, z14]) (S := S) (a := 1) (b := 201) rfl (inR_small (by decide)) (inR_small (by decide))
  exact pick0 (vs := [13]) (i := 13) (p := fun k => decide (a % k = 0) && decide (b % k = 0)) (l := rangeI 1 200) mr rfl (rangeD_map _ _) (by rw [rangeI_len]; decide) (by simp [wipeM]) (fun k hk X => by
    have hk' := rangeI_mem.mp hk
    have k0 : 0 < k := by omega
    have w : (wipeM [z0, z1, some (Mx.D.int a), some (.int b), z4, z5, z6, z7, z8, z9, z10, z11, z12, z13, z14] [13]).set 13 (some (.int k)) = [z0, z1, some (.int a), some (.int b), z4, z5, z6, z7, z8, z9, z10, z11, z12, some (.int k), z14] := rfl
    rw [w]
    by_cases q : a % k = 0
    · simp only [msSeq, OutS.thenS, msAsg, msPar, msIf, msRet, msRetN, msAug, msRaise, msNil, msExpr, msSub, Out.toS, Out.bind, mV, mC, mBin, mTest, mCons, mNil, mTup, mIfE, mNeg, mCB, mCall, mChain, mAnd, mOr, mNot, bindT, setAll, startM, OutS.end_, List.getElem?_cons_zero, List.getElem?_cons_succ, List.set_cons_zero, List.set_cons_succ, List.map_cons, List.map_nil, List.length_cons, List.length_nil, List.replicate, List.append_nil, List.nil_append, List.cons_append, if_true, if_false, eqM_int, neM_int, addM_int, subM_int, modM_pos, cmpM_int, Nat.zero_add, Nat.reduceAdd, Nat.reduceSub, LIM0, LIM1, LIM2, LIM3, LIM4, LIM5, modM_pos k0, q, decide_true, Bool.true_and]
    · simp only [msSeq, OutS.thenS, msAsg, msPar, msIf, msRet, msRetN, msAug, msRaise, msNil, msExpr, msSub, Out.toS, Out.bind, mV, mC, mBin, mTest, mCons, mNil, mTup, mIfE, mNeg, mCB, mCall, mChain, mAnd, mOr, mNot, bindT, setAll, startM, OutS.end_, List.getElem?_cons_zero, List.getElem?_cons_succ, List.set_cons_zero, List.set_cons_succ, List.map_cons, List.map_nil, List.length_cons, List.length_nil, List.replicate, List.append_nil, List.nil_append, List.cons_append, if_true, if_false, eqM_int, neM_int, addM_int, subM_int, modM_pos, cmpM_int, Nat.zero_add, Nat.reduceAdd, Nat.reduceSub, LIM0, LIM1, LIM2, LIM3, LIM4, LIM5, modM_pos k0, q, decide_false, Bool.false_and])
theorem com_max {a b : Int} {j : Nat} {S : Store} (hj : S[j]? = some (.lst ((comL a b).map .int))) (ha : a.natAbs ≤ 200) (hb : b.natAbs ≤ 200) (hn : ¬ (a = 0 ∧ b = 0)) : maxM [.loc j] S = .ok (.int (Int.gcd a b)) S := by
  have g0 : 0 < Int.gcd a b := Int.gcd_pos_iff.mpr (by by_cases q : a = 0 <;> simp_all)
  have g1 : Int.gcd a b ≤ 200 := by
    by_cases q : a = 0
    · have hb0 : b ≠ 0 := fun z => hn ⟨q, z⟩
      have h := Int.le_of_dvd (b := (b.natAbs : Int)) (by omega) (Int.dvd_natAbs.mpr (Int.gcd_dvd_right (a := a) (b := b)))
      omega
    · have h := Int.le_of_dvd (b := (a.natAbs : Int)) (by omega) (Int.dvd_natAbs.mpr (Int.gcd_dvd_left (a := a) (b := b)))
      omega
  have mem : (Int.gcd a b : Int) ∈ comL a b := by
    unfold comL
    rw [List.mem_filter]
    refine ⟨rangeI_mem.mpr ⟨by omega, by omega⟩, ?_⟩
    rw [Bool.and_eq_true, decide_eq_true_eq, decide_eq_true_eq]
    exact ⟨Int.emod_eq_zero_of_dvd (Int.gcd_dvd_left ..), Int.emod_eq_zero_of_dvd (Int.gcd_dvd_right ..)⟩
  have le : ∀ y ∈ comL a b, y ≤ Int.gcd a b := fun y hy => by
    unfold comL at hy
    rw [List.mem_filter, Bool.and_eq_true, decide_eq_true_eq, decide_eq_true_eq] at hy
    exact Int.le_of_dvd (by omega) (Int.dvd_coe_gcd (Int.dvd_of_emod_eq_zero hy.2.1) (Int.dvd_of_emod_eq_zero hy.2.2))
  have h := lstInts_at hj
  unfold maxM
  dsimp only
  rw [h]
  generalize comL a b = l at *
  cases l with
  | nil => cases mem
  | cons n ns =>
    obtain ⟨h1, h2⟩ := maxI_spec ns n
    have := h2 _ mem
    have := le _ h1
    dsimp only
    rw [show maxI n ns = (Int.gcd a b : Int) by omega]
/-! ### what is due -/
def dueL (a n : Int) : List Int := (rangeI 0 n.toNat).filter fun k => decide (a * k % n = 1 % n)
abbrev dueE : ME := mLc [13] (miRange1 (mCons (mV 4) mNil)) (.one 13) (mTest (mBin eqM (mBin modM (mBin mulM (mV 2) (mV 13)) (mV 4)) (mBin modM (mC (.int 1)) (mV 4)))) (mV 13)
theorem due_eq {S : Store} {a n : Int} (n0 : 0 < n) (n1 : n ≤ 60) (ha : a.natAbs ≤ 200) {z0 z1 z3 z5 z6 z7 z8 z9 z10 z11 z12 z13 z14 : Option Mx.D} :
    ∃ T' j, dueE [z0, z1, some (.int a), z3, some (.int n), z5, z6, z7, z8, z9, z10, z11, z12, z13, z14] S = .ok (.loc j) (S ++ T') ∧ S.length ≤ j ∧ (S ++ T')[j]? = some (.lst ((dueL a n).map .int)) := by
  have mr := miRange1_eq (r := mCons (mV 4) mNil) (ρ := [z0, z1, some (.int a), z3, some (.int n), z5, z6, z7, z8, z9, z10, z11, z12, z13, z14]) (S := S) (b := n) rfl (inR_small (by omega))
  exact pick0 (vs := [13]) (i := 13) (p := fun k => decide (a * k % n = 1 % n)) (l := rangeI 0 n.toNat) mr rfl (rangeD_map _ _) (by rw [rangeI_len]; omega) (by simp [wipeM]) (fun k hk X => by
    have hk' := rangeI_mem.mp hk
    have c : CMulM a k := cmul (k := 8) (l := 8) (by omega) (by omega) (by decide)
    have w : (wipeM [z0, z1, some (Mx.D.int a), z3, some (.int n), z5, z6, z7, z8, z9, z10, z11, z12, z13, z14] [13]).set 13 (some (.int k)) = [z0, z1, some (.int a), z3, some (.int n), z5, z6, z7, z8, z9, z10, z11, z12, some (.int k), z14] := rfl
    rw [w]
    simp only [msSeq, OutS.thenS, msAsg, msPar, msIf, msRet, msRetN, msAug, msRaise, msNil, msExpr, msSub, Out.toS, Out.bind, mV, mC, mBin, mTest, mCons, mNil, mTup, mIfE, mNeg, mCB, mCall, mChain, mAnd, mOr, mNot, bindT, setAll, startM, OutS.end_, List.getElem?_cons_zero, List.getElem?_cons_succ, List.set_cons_zero, List.set_cons_succ, List.map_cons, List.map_nil, List.length_cons, List.length_nil, List.replicate, List.append_nil, List.nil_append, List.cons_append, if_true, if_false, eqM_int, neM_int, addM_int, subM_int, modM_pos, cmpM_int, Nat.zero_add, Nat.reduceAdd, Nat.reduceSub, LIM0, LIM1, LIM2, LIM3, LIM4, LIM5, mulM_int c, modM_pos n0])
theorem due_some {a n r : Int} (n0 : 0 < n) (r0 : 0 ≤ r) (r1 : r < n) (hr : a * r % n = 1 % n) : ∃ rest, dueL a n = r :: rest := by
  have mem : r ∈ dueL a n := by
    unfold dueL
    rw [List.mem_filter, decide_eq_true_eq]
    exact ⟨rangeI_mem.mpr ⟨r0, by omega⟩, hr⟩
  have uniq : ∀ k ∈ dueL a n, k = r := fun k hk => by
    unfold dueL at hk
    rw [List.mem_filter, decide_eq_true_eq] at hk
    have hk' := rangeI_mem.mp hk.1
    have d1 : n ∣ a * k - 1 := Int.dvd_of_emod_eq_zero (by rw [Int.sub_emod, hk.2, ← Int.sub_emod]; simp)
    have d2 : n ∣ a * r - 1 := Int.dvd_of_emod_eq_zero (by rw [Int.sub_emod, hr, ← Int.sub_emod]; simp)
    have d3 : n ∣ k - r := by
      have h1 := Int.dvd_sub (Int.dvd_trans d1 (Int.dvd_mul_left r _)) (Int.dvd_trans d2 (Int.dvd_mul_left k _))
      have h2 : r * (a * k - 1) - k * (a * r - 1) = k - r := by grind
      rwa [h2] at h1
    obtain ⟨c, hc⟩ := d3
    rcases Int.lt_trichotomy c 0 with q | q | q
    · have := Int.mul_le_mul_of_nonneg_left (show c ≤ -1 by omega) (show 0 ≤ n by omega)
      omega
    · subst q; omega
    · have := Int.mul_le_mul_of_nonneg_left (show 1 ≤ c by omega) (show 0 ≤ n by omega)
      omega
  generalize dueL a n = l at *
  cases l with
  | nil => cases mem
  | cons k rest => exact ⟨rest, by rw [uniq k List.mem_cons_self]⟩
theorem due_none {a n : Int} (n0 : 0 < n) (hg : Int.gcd a n ≠ 1) : dueL a n = [] := by
  unfold dueL
  rw [List.filter_eq_nil_iff]
  intro k hk
  rw [decide_eq_true_eq]
  intro h
  have d1 : n ∣ a * k - 1 := Int.dvd_of_emod_eq_zero (by rw [Int.sub_emod, h, ← Int.sub_emod]; simp)
  have d2 : (Int.gcd a n : Int) ∣ a * k - 1 := Int.dvd_trans (Int.gcd_dvd_right ..) d1
  have d3 : (Int.gcd a n : Int) ∣ a * k := Int.dvd_trans (Int.gcd_dvd_left ..) (Int.dvd_mul_right ..)
  have d4 := Int.dvd_sub d3 d2
  rw [show a * k - (a * k - 1) = 1 by omega] at d4
  have := Int.le_of_dvd (by decide) d4
  have g0 : 0 < Int.gcd a n := Int.gcd_pos_of_ne_zero_right _ (by omega)
  omega
/-! ### powers by trying -/
theorem pw_try (S : Store) (s : Src) (hs : s.1 = none) (a : Int) (ha : a.natAbs ≤ 200) (z0 z1 z3 z4 z5 z6 z7 z8 z9 z10 z11 z14 : Option Mx.D) : ∀ (k : Nat) (lo x : Int) (m : Nat) (z13 : Option Mx.D), x.natAbs < 2 ^ m → 0 < m → m + 8 * k ≤ 10000 →
    ∃ w13, forL s (.one 13) (msAsg (.one 12) (mBin mulM (mV 12) (mV 2))) (rangeD lo k) [z0, z1, some (.int a), z3, z4, z5, z6, z7, z8, z9, z10, z11, some (.int x), z13, z14] S = .next [z0, z1, some (.int a), z3, z4, z5, z6, z7, z8, z9, z10, z11, some (.int (x * a ^ k)), w13, z14] S := by
  have ok : okSrc s S = true := by unfold okSrc; rw [hs]
  intro k
  induction k with
  | zero => intro lo x m z13 hx _ _; exact ⟨z13, by rw [show x * a ^ 0 = x by simp]; exact for_nil ok⟩
  | succ k ih =>
    intro lo x m z13 hx hm hk
    have c : CMulM x a := cmul (k := m) (l := 8) hx (by omega) (by omega) hm (by decide)
    have hb : (x * a).natAbs < 2 ^ (m + 8) := by
      rw [Int.natAbs_mul, Nat.pow_add]
      have h2 : 0 < 2 ^ m := Nat.pow_pos (by decide)
      have : x.natAbs * a.natAbs ≤ x.natAbs * 200 := Nat.mul_le_mul_left _ ha
      have e : (2 : Nat) ^ 8 = 256 := rfl
      rw [e]
      omega
    obtain ⟨w13, e⟩ := ih (lo + 1) (x * a) (m + 8) (some (.int lo)) hb (by omega) (by omega)
    have ee : x * a ^ (k + 1) = x * a * a ^ k := by rw [Int.pow_succ]; grind
    refine ⟨w13, ?_⟩
    rw [ee, ← e]
    show forL s (.one 13) _ (Mx.D.int lo :: rangeD (lo + 1) k) _ S = _
    refine for_cons (ρ1 := [z0, z1, some (.int a), z3, z4, z5, z6, z7, z8, z9, z10, z11, some (.int x), some (.int lo), z14]) ok rfl ?_
    simp only [msSeq, OutS.thenS, msAsg, msPar, msIf, msRet, msRetN, msAug, msRaise, msNil, msExpr, msSub, Out.toS, Out.bind, mV, mC, mBin, mTest, mCons, mNil, mTup, mIfE, mNeg, mCB, mCall, mChain, mAnd, mOr, mNot, bindT, setAll, startM, OutS.end_, List.getElem?_cons_zero, List.getElem?_cons_succ, List.set_cons_zero, List.set_cons_succ, List.map_cons, List.map_nil, List.length_cons, List.length_nil, List.replicate, List.append_nil, List.nil_append, List.cons_append, if_true, if_false, eqM_int, neM_int, addM_int, subM_int, modM_pos, cmpM_int, Nat.zero_add, Nat.reduceAdd, Nat.reduceSub, LIM0, LIM1, LIM2, LIM3, LIM4, LIM5, mulM_int c]
abbrev tryE : ME := mLc [13] (miRange2 (mCons (mC (.int 1)) (mCons (mBin addM (mV 4) (mC (.int 1))) mNil))) (.one 13) (mTest (mBin eqM (mCall 3 f_power (mCons (mV 2) (mCons (mV 13) (mCons (mV 4) mNil)))) (mBin modM (mC (.int 1)) (mV 4)))) (mV 13)
theorem try_eq {S : Store} {a n : Int} (n0 : 0 < n) (n1 : n ≤ 60) {z0 z1 z3 z5 z6 z7 z8 z9 z10 z11 z12 z13 z14 : Option Mx.D} :
    ∃ T' j, tryE [z0, z1, some (.int a), z3, some (.int n), z5, z6, z7, z8, z9, z10, z11, z12, z13, z14] S = .ok (.loc j) (S ++ T') ∧ S.length ≤ j ∧ (S ++ T')[j]? = some (.lst ((tryT a n).map .int)) := by
  have mr := miRange2_eq (r := mCons (mC (.int 1)) (mCons (mBin addM (mV 4) (mC (.int 1))) mNil)) (ρ := [z0, z1, some (.int a), z3, some (.int n), z5, z6, z7, z8, z9, z10, z11, z12, z13, z14]) (S := S) (a := 1) (b := n + 1) rfl (inR_small (by decide)) (inR_small (by omega))
  rw [show n + 1 - 1 = n by omega] at mr
  exact pick0 (vs := [13]) (i := 13) (p := fun k => decide (a ^ k.toNat % n = 1 % n)) (l := rangeI 1 n.toNat) mr rfl (rangeD_map _ _) (by rw [rangeI_len]; omega) (by simp [wipeM]) (fun k hk X => by
    have hk' := rangeI_mem.mp hk
    have w : (wipeM [z0, z1, some (Mx.D.int a), z3, some (.int n), z5, z6, z7, z8, z9, z10, z11, z12, z13, z14] [13]).set 13 (some (.int k)) = [z0, z1, some (.int a), z3, some (.int n), z5, z6, z7, z8, z9, z10, z11, z12, some (.int k), z14] := rfl
    rw [w]
    have pw := power_eq (a := a) (m := k) (n := n) (S := X) n0 (by omega) (by omega) (by omega)
    have hc : mCall 3 f_power (mCons (mV 2) (mCons (mV 13) (mCons (mV 4) mNil))) [z0, z1, some (.int a), z3, some (.int n), z5, z6, z7, z8, z9, z10, z11, z12, some (.int k), z14] X = _ := (mCall_ok (ds := [.int a, .int k, .int n]) (S1 := X) rfl rfl).trans pw
    exact mTest_ok ((mBin_ok hc ((mBin_ok rfl rfl).trans (modM_pos n0))).trans eqM_int))
end K01
set_option Elab.async false
set_option linter.all false
set_option maxRecDepth 100000
set_option maxHeartbeats 4000000
/-! k01: law. -/
namespace K01
open PySem Mx
theorem DOk.mono {B B' : Nat} {x0 x1 x2 : Int} (h : DOk B x0 x1 x2) (hb : B ≤ B') : DOk B' x0 x1 x2 := ⟨h.a, h.b, Nat.le_trans h.c hb, h.d⟩
def At (S : Store) (L B : Nat) (X : Store) : Prop := ∃ (y0 y1 y2 : Int) (T : Store), X = S.set L (.lst [.int y0, .int y1, .int y2]) ++ T ∧ DOk B y0 y1 y2
theorem At.app {S X T : Store} {L B : Nat} (h : At S L B X) : At S L B (X ++ T) := by
  obtain ⟨y0, y1, y2, U, e, D⟩ := h
  exact ⟨y0, y1, y2, U ++ T, by rw [e, List.append_assoc], D⟩
theorem At.get {S X : Store} {L B : Nat} (h : At S L B X) (hL : L < S.length) : ∃ y0 y1 y2 : Int, X[L]? = some (.lst [.int y0, .int y1, .int y2]) ∧ DOk B y0 y1 y2 := by
  obtain ⟨y0, y1, y2, U, e, D⟩ := h
  exact ⟨y0, y1, y2, by rw [e]; exact getA (List.getElem?_set_self hL), D⟩
theorem At.put {S X : Store} {L B B' : Nat} (h : At S L B X) (hL : L < S.length) {y0 y1 y2 : Int} (D' : DOk B' y0 y1 y2) : At S L B' (X.set L (.lst [.int y0, .int y1, .int y2])) := by
  obtain ⟨u0, u1, u2, U, e, D⟩ := h
  refine ⟨y0, y1, y2, U, ?_, D'⟩
  rw [e, List.set_append, if_pos (by simpa using hL), List.set_set]
theorem At.len {S X : Store} {L B : Nat} (h : At S L B X) : S.length ≤ X.length := by
  obtain ⟨u0, u1, u2, U, e, D⟩ := h
  rw [e]
  simp
theorem At.roll {S X : Store} {L B : Nat} (h : At S L B X) (hL : L < S.length) {ρ : Env'} {i : Nat} (hv : ρ[i]? = some (some (.loc L))) {many : Int} (hB : B < 1000000) (h0 : 0 < many) (h1 : many < 4096) :
    ∃ (v : Int) (X' : Store), mCall 2 f__law_roll (mCons (mV i) (mCons (mC (.int many)) mNil)) ρ X = .ok (.int v) X' ∧ 0 ≤ v ∧ v < many ∧ At S L (B + 1) X' ∧ ∀ j, j ≠ L → X'[j]? = X[j]? := by
  obtain ⟨y0, y1, y2, g, D⟩ := h.get hL
  obtain ⟨v, u0, u1, u2, e, a, b, D'⟩ := rollC_eq hv g D hB h0 h1
  exact ⟨v, _, e, a, b, h.put hL D', fun j hj => List.getElem?_set_ne (fun z => hj z.symm)⟩
def WN (m : MS) (ρ : Env') (S : Store) (Q : Env' → Store → Prop) : Prop := ∃ ρ' S', m ρ S = .next ρ' S' ∧ Q ρ' S'
theorem wn_seq {m m' : MS} {ρ ρ1 : Env'} {S S1 : Store} {Q : Env' → Store → Prop} (h : m ρ S = .next ρ1 S1) (h' : WN m' ρ1 S1 Q) : WN (msSeq m m') ρ S Q := by
  obtain ⟨ρ', S', e, q⟩ := h'
  exact ⟨ρ', S', (msSeq_next h).trans e, q⟩
theorem wn_one {m : MS} {ρ ρ1 : Env'} {S S1 : Store} {Q : Env' → Store → Prop} (h : m ρ S = .next ρ1 S1) (q : Q ρ1 S1) : WN m ρ S Q := ⟨ρ1, S1, h, q⟩
theorem msAsgT_ok {t : Tg} {m : ME} {ρ ρ1 : Env'} {S S1 : Store} {d : Mx.D} (h : m ρ S = .ok d S1) (hb : bindT t d ρ = some ρ1) : msAsg t m ρ S = .next ρ1 S1 := by
  unfold msAsg
  rw [h]
  simp only [Out.toS, hb]
abbrev lawB : MS := (msSeq (msAsg (.many [2, 3, 4]) (mTup (mCons (mBin subM (mCall 2 f__law_roll (mCons (mV 1) (mCons (mC (.int 401)) mNil))) (mC (.int 200))) (mCons (mBin subM (mCall 2 f__law_roll (mCons (mV 1) (mCons (mC (.int 401)) mNil))) (mC (.int 200))) (mCons (mBin addM (mC (.int 1)) (mCall 2 f__law_roll (mCons (mV 1) (mCons (mC (.int 60)) mNil)))) mNil)))))
  (msSeq (msAsg (.many [5, 6, 7]) (mCall 2 f_shared_ways (mCons (mV 2) (mCons (mV 3) mNil))))
  (msSeq (msAsg (.one 8) comE)
  (msSeq (msIf (mOr (mTest (mBin neM (mV 5) (mCall 2 f_shared (mCons (mV 2) (mCons (mV 3) mNil))))) (mOr (mTest (mBin neM (mBin addM (mBin mulM (mV 2) (mV 6)) (mBin mulM (mV 3) (mV 7))) (mV 5))) (mAnd (mTest (mBin neM (mTup (mCons (mV 2) (mCons (mV 3) mNil))) (mTup (mCons (mC (.int 0)) (mCons (mC (.int 0)) mNil))))) (mTest (mBin neM (mV 5) (mCB maxM (mCons (mV 8) mNil))))))) (msRet (mC (.bl false))) msNil)
  (msSeq (msAsg (.one 9) (mToldN toldN (mCall 2 f_back (mCons (mV 2) (mCons (mV 4) mNil)))))
  (msSeq (msAsg (.one 10) dueE)
  (msSeq (msIf (mTest (mBin neM (mV 9) (mIfE (mTest (mBin eqM (mV 10) (mLst mNil))) (mC (.str "no way")) (mBin ixM (mV 10) (mC (.int 0)))))) (msRet (mC (.bl false))) msNil)
  (msSeq (msPar [11, 12] (mCons (mCall 2 f__law_roll (mCons (mV 1) (mCons (mC (.int 12)) mNil))) (mCons (mC (.int 1)) mNil)))
  (msSeq (msFor (miRange1 (mCons (mV 11) mNil)) (.one 13) (msAsg (.one 12) (mBin mulM (mV 12) (mV 2))))
  (msSeq (msIf (mOr (mTest (mBin neM (mCall 3 f_power (mCons (mV 2) (mCons (mV 11) (mCons (mV 4) mNil)))) (mBin modM (mV 12) (mV 4)))) (mAnd (mTest (mBin neM (mV 10) (mLst mNil))) (mTest (mBin neM (mBin modM (mBin mulM (mCall 3 f_power (mCons (mV 2) (mCons (mBin subM (mC (.int 0)) (mV 11)) (mCons (mV 4) mNil)))) (mCall 3 f_power (mCons (mV 2) (mCons (mV 11) (mCons (mV 4) mNil))))) (mV 4)) (mBin modM (mC (.int 1)) (mV 4)))))) (msRet (mC (.bl false))) msNil)
  (msSeq (msIf (mTest (mBin neM (mV 10) (mLst mNil))) (msIf (mTest (mBin neM (mCall 2 f_turns (mCons (mV 2) (mCons (mV 4) mNil))) (mBin ixM tryE (mC (.int 0))))) (msRet (mC (.bl false))) msNil) (msIf (mTest (mBin neM (mToldN toldN (mCall 2 f_turns (mCons (mV 2) (mCons (mV 4) mNil)))) (mC (.str "no way")))) (msRet (mC (.bl false))) msNil))
  (msSeq (msIf (mNot (mTest (mCall 1 f__law_together (mCons (mV 1) mNil)))) (msRet (mC (.bl false))) msNil)
  (msSeq (msIf (mNot (mTest (mCall 1 f__law_parts (mCons (mV 1) mNil)))) (msRet (mC (.bl false))) msNil)
  (msSeq (msIf (mNot (mTest (mCall 2 f__law_signs (mCons (mV 1) (mCons (mV 2) mNil))))) (msRet (mC (.bl false))) msNil)
  (msSeq (msAsg (.one 14) (mCall 2 f__law_roll (mCons (mV 1) (mCons (mC (.int 300)) mNil))))
  (msSeq (msIf (mNot (mTest (mChain leM ltM (mBin mulM (mCall 1 f_root_floor (mCons (mV 14) mNil)) (mCall 1 f_root_floor (mCons (mV 14) mNil))) (mV 14) (mBin mulM (mBin addM (mCall 1 f_root_floor (mCons (mV 14) mNil)) (mC (.int 1))) (mBin addM (mCall 1 f_root_floor (mCons (mV 14) mNil)) (mC (.int 1))))))) (msRet (mC (.bl false))) msNil)
  (msSeq (msIf (mTest (mBin neM (mToldN toldN (mCall 2 f_square_sign (mCons (mV 2) (mCons (mBin mulM (mC (.int 2)) (mV 4)) mNil)))) (mC (.str "number")))) (msRet (mC (.bl false))) msNil)
  (msSeq (msIf (mTest (mBin neM (mToldN toldN (mCall 1 f_parts (mCons (mC (.int 0)) mNil))) (mC (.str "number")))) (msRet (mC (.bl false))) msNil)
  (msIf (mTest (mBin neM (mToldN toldN (mCall 1 f_root_floor (mCons (mBin subM (mC (.int 0)) (mV 4)) mNil))) (mC (.str "number")))) (msRet (mC (.bl false))) msNil)))))))))))))))))))
theorem law_is : m_law = msSeq (msFor (miSeq (mCall 2 f__law_rounds (mCons (mV 0) (mCons (mC (.int 5)) mNil)))) (.one 1) lawB) (msRet (mC (.bl true))) := rfl
theorem mul_pow2 (a b : Int) : ∀ k : Nat, (a * b) ^ k = a ^ k * b ^ k
  | 0 => by simp
  | k + 1 => by rw [Int.pow_succ, Int.pow_succ, Int.pow_succ, mul_pow2 a b k]; grind
theorem back_pow {a r n : Int} (k : Nat) (h : a * r % n = 1 % n) : r ^ k % n * (a ^ k % n) % n = 1 % n := by
  rw [← Int.mul_emod, ← mul_pow2, Int.mul_comm r a, ← emod_pow, h, emod_pow, Int.one_pow]
theorem not_lit {m : MT} {ρ : Env'} {S S1 : Store} (h : m ρ S = .ok true S1) {e : ME} : msIf (mNot m) (msRet e) msNil ρ S = .next ρ S1 := skip_ret (mNot_ok h)
theorem mChain_t {f f' : Op2} {a b c : ME} {ρ : Env'} {S S1 S2 S3 S4 : Store} {x y z : Mx.D} (ha : a ρ S = .ok x S1) (hb : b ρ S1 = .ok y S2) (hf : f x y S2 = .ok (.bl true) S3) (hc : c ρ S3 = .ok z S4) : mChain f f' a b c ρ S = f' y z S4 := by
  unfold mChain
  rw [ha, ok_bind, hb, ok_bind, hf, ok_bind]
  dsimp only
  rw [hc, ok_bind]
theorem body_eq {S : Store} {L B : Nat} (hA : At S L B S) (hL : L < S.length) (hB : B < 700000) (z0 z2 z3 z4 z5 z6 z7 z8 z9 z10 z11 z12 z13 z14 : Option Mx.D) :
    WN lawB [z0, some (.loc L), z2, z3, z4, z5, z6, z7, z8, z9, z10, z11, z12, z13, z14] S fun ρ' X => At S L (B + 20) X ∧ ∃ w2 w3 w4 w5 w6 w7 w8 w9 w10 w11 w12 w13 w14, ρ' = [z0, some (.loc L), w2, w3, w4, w5, w6, w7, w8, w9, w10, w11, w12, w13, w14] := by
  obtain ⟨v1, X1, r1, p1, q1, A1, -⟩ := hA.roll hL (ρ := [z0, some (.loc L), z2, z3, z4, z5, z6, z7, z8, z9, z10, z11, z12, z13, z14]) (i := 1) rfl (many := 401) (by omega) (by decide) (by decide)
  obtain ⟨v2, X2, r2, p2, q2, A2, -⟩ := A1.roll hL (ρ := [z0, some (.loc L), z2, z3, z4, z5, z6, z7, z8, z9, z10, z11, z12, z13, z14]) (i := 1) rfl (many := 401) (by omega) (by decide) (by decide)
  obtain ⟨v3, X3, r3, p3, q3, A3, -⟩ := A2.roll hL (ρ := [z0, some (.loc L), z2, z3, z4, z5, z6, z7, z8, z9, z10, z11, z12, z13, z14]) (i := 1) rfl (many := 60) (by omega) (by decide) (by decide)
  refine wn_seq (msAsgT_ok (mTup3_ok ((mBin_ok2 r1 rfl).trans subM_int) ((mBin_ok2 r2 rfl).trans subM_int) ((mBin_ok2 rfl r3).trans addM_int)) rfl) ?_
  have ha : (v1 - 200).natAbs ≤ 200 := by omega
  have hb : (v2 - 200).natAbs ≤ 200 := by omega
  have n0 : 0 < 1 + v3 := by omega
  have n1 : 1 + v3 ≤ 60 := by omega
  generalize v1 - 200 = a at ha
  generalize v2 - 200 = b at hb
  generalize 1 + v3 = n at n0 n1
  clear r1 r2 r3 p1 p2 p3 q1 q2 q3 A1 A2
  show WN _ [z0, some (.loc L), some (.int a), some (.int b), some (.int n), z5, z6, z7, z8, z9, z10, z11, z12, z13, z14] X3 _
  -- shared divisors
  obtain ⟨x, y, sw, hxy, hx, hy⟩ := shared_ways_eq (a := a) (b := b) (S := X3) (by omega) (by omega)
  have cx : CMulM a x := cmul (k := 8) (l := 60000) (by omega) hx (by decide)
  have cy : CMulM b y := cmul (k := 8) (l := 60000) (by omega) hy (by decide)
  refine wn_seq (msAsgT_ok ((mCall_ok (ds := [.int a, .int b]) (S1 := X3) rfl rfl).trans sw) rfl) ?_
  show WN _ [z0, some (.loc L), some (.int a), some (.int b), some (.int n), some (.int (Int.gcd a b : Int)), some (.int x), some (.int y), z8, z9, z10, z11, z12, z13, z14] X3 _
  obtain ⟨T4, j4, e4, l4, g4⟩ := com_eq (S := X3) (a := a) (b := b) (z0 := z0) (z1 := some (.loc L)) (z4 := some (.int n)) (z5 := some (.int (Int.gcd a b : Int))) (z6 := some (.int x)) (z7 := some (.int y)) (z8 := z8) (z9 := z9) (z10 := z10) (z11 := z11) (z12 := z12) (z13 := z13) (z14 := z14)
  refine wn_seq (msAsgT_ok e4 rfl) ?_
  have A4 := A3.app (T := T4)
  clear e4 A3
  generalize X3 ++ T4 = X4 at A4 g4
  show WN _ [z0, some (.loc L), some (.int a), some (.int b), some (.int n), some (.int (Int.gcd a b : Int)), some (.int x), some (.int y), some (.loc j4), z9, z10, z11, z12, z13, z14] X4 _
  refine wn_seq (skip_ret (S1 := X4) ((mOr_f (S1 := X4) (ne_ints (S1 := X4) rfl ((mCall_ok (ds := [.int a, .int b]) (S1 := X4) rfl rfl).trans (shared_eq (by omega))) rfl)).trans ((mOr_f (S1 := X4) (ne_ints (x := a * x + b * y) (y := (Int.gcd a b : Int)) (S1 := X4) ?_ rfl hxy)).trans ?_))) ?_
  · exact (mBin_ok ((mBin_ok rfl rfl).trans (mulM_int cx)) ((mBin_ok rfl rfl).trans (mulM_int cy))).trans addM_int
  · have t := (mBin_ok2 (f := neM) (a := mTup (mCons (mV 2) (mCons (mV 3) mNil))) (b := mTup (mCons (mC (.int 0)) (mCons (mC (.int 0)) mNil))) (ρ := [z0, some (.loc L), some (.int a), some (.int b), some (.int n), some (.int (Int.gcd a b : Int)), some (.int x), some (.int y), some (.loc j4), z9, z10, z11, z12, z13, z14]) (S := X4) (mTup2_ok rfl rfl) (mTup2_ok rfl rfl)).trans (neM_tups [a, b] [0, 0])
    by_cases q : a = 0 ∧ b = 0
    · rw [show decide (([a, b] : List Int) = [0, 0]) = true by rw [q.1, q.2]; rfl] at t
      exact mAnd_f (mTest_ok t)
    · rw [show decide (([a, b] : List Int) = [0, 0]) = false from decide_eq_false (fun z => q (by injection z with z1 z2; injection z2 with z3 _; exact ⟨z1, z3⟩))] at t
      refine (mAnd_t (mTest_ok t)).trans ?_
      exact ne_ints (S1 := X4) rfl ((mCB1_ok (f := maxM) rfl).trans (com_max g4 ha hb q)) rfl
  -- backs
  have bk : ∃ d : Mx.D, mToldN toldN (mCall 2 f_back (mCons (mV 2) (mCons (mV 4) mNil))) [z0, some (.loc L), some (.int a), some (.int b), some (.int n), some (.int (Int.gcd a b : Int)), some (.int x), some (.int y), some (.loc j4), z9, z10, z11, z12, z13, z14] X4 = .ok d X4 ∧
      ((Int.gcd a n = 1 ∧ ∃ r rest, d = .int r ∧ dueL a n = r :: rest) ∨ (Int.gcd a n ≠ 1 ∧ d = .str "no way" ∧ dueL a n = [])) := by
    by_cases hg : Int.gcd a n = 1
    · obtain ⟨r, br, b0, b1, b2⟩ := back_ok (a := a) (n := n) (S := X4) n0 (by omega) hg
      obtain ⟨rest, hr⟩ := due_some n0 b0 b1 b2
      exact ⟨.int r, mTold_ok ((mCall_ok (ds := [.int a, .int n]) (S1 := X4) rfl rfl).trans br), .inl ⟨hg, r, rest, rfl, hr⟩⟩
    · exact ⟨.str "no way", mTold_no ((mCall_ok (ds := [.int a, .int n]) (S1 := X4) rfl rfl).trans (back_no n0 (by omega) hg)), .inr ⟨hg, rfl, due_none n0 hg⟩⟩
  obtain ⟨d, e5, hd⟩ := bk
  refine wn_seq (msAsgT_ok e5 rfl) ?_
  clear e5
  show WN _ [z0, some (.loc L), some (.int a), some (.int b), some (.int n), some (.int (Int.gcd a b : Int)), some (.int x), some (.int y), some (.loc j4), some d, z10, z11, z12, z13, z14] X4 _
  obtain ⟨T5, j5, e6, l5, g5⟩ := due_eq (S := X4) (a := a) (n := n) n0 n1 ha (z0 := z0) (z1 := some (.loc L)) (z3 := some (.int b)) (z5 := some (.int (Int.gcd a b : Int))) (z6 := some (.int x)) (z7 := some (.int y)) (z8 := some (.loc j4)) (z9 := some d) (z10 := z10) (z11 := z11) (z12 := z12) (z13 := z13) (z14 := z14)
  refine wn_seq (msAsgT_ok e6 rfl) ?_
  clear e6
  have hj5 : j5 ≠ L := by have := A4.len; omega
  have A5 := A4.app (T := T5)
  clear A4 g4 l4 l5
  generalize X4 ++ T5 = X5 at A5 g5
  show WN _ [z0, some (.loc L), some (.int a), some (.int b), some (.int n), some (.int (Int.gcd a b : Int)), some (.int x), some (.int y), some (.loc j4), some d, some (.loc j5), z11, z12, z13, z14] X5 _
  have c7 : ∃ T6, mTest (mBin neM (mV 9) (mIfE (mTest (mBin eqM (mV 10) (mLst mNil))) (mC (.str "no way")) (mBin ixM (mV 10) (mC (.int 0))))) [z0, some (.loc L), some (.int a), some (.int b), some (.int n), some (.int (Int.gcd a b : Int)), some (.int x), some (.int y), some (.loc j4), some d, some (.loc j5), z11, z12, z13, z14] X5 = .ok false (X5 ++ T6) := by
    obtain ⟨T6, h6⟩ := eq_nil (S := X5) (T := []) (S0 := X5) (a := mV 10) (ρ := [z0, some (.loc L), some (.int a), some (.int b), some (.int n), some (.int (Int.gcd a b : Int)), some (.int x), some (.int y), some (.loc j4), some d, some (.loc j5), z11, z12, z13, z14]) (j := j5) (xs := dueL a n) (by rw [List.append_nil]; rfl) (by rw [List.append_nil]; exact g5)
    refine ⟨T6, ?_⟩
    rcases hd with ⟨hg, r, rest, rfl, hr⟩ | ⟨hg, rfl, hr⟩
    · rw [hr] at h6 g5
      have h7 := mIfE_f (a := mC (.str "no way")) (b := mBin ixM (mV 10) (mC (.int 0))) (mTest_ok h6)
      refine ne_ints (S1 := X5) rfl (h7.trans ((mBin_ok rfl rfl).trans (ixI (i := 0) (getA g5) rfl))) rfl
    · rw [hr] at h6
      have h7 := mIfE_t (a := mC (.str "no way")) (b := mBin ixM (mV 10) (mC (.int 0))) (mTest_ok h6)
      exact mTest_ok ((mBin_ok2 (S1 := X5) rfl (h7.trans rfl)).trans neM_self)
  obtain ⟨T6, c7⟩ := c7
  refine wn_seq (skip_ret c7) ?_
  clear c7
  have A6 := A5.app (T := T6)
  have g6 : (X5 ++ T6)[j5]? = some (.lst ((dueL a n).map .int)) := getA g5
  clear A5 g5
  generalize X5 ++ T6 = X6 at A6 g6
  -- powers
  obtain ⟨v4, X7, r4, p4, q4, A7, k7⟩ := A6.roll hL (ρ := [z0, some (.loc L), some (.int a), some (.int b), some (.int n), some (.int (Int.gcd a b : Int)), some (.int x), some (.int y), some (.loc j4), some d, some (.loc j5), z11, z12, z13, z14]) (i := 1) rfl (many := 12) (by omega) (by decide) (by decide)
  have g7 : X7[j5]? = some (.lst ((dueL a n).map .int)) := by rw [k7 j5 hj5]; exact g6
  have s8 : msPar [11, 12] (mCons (mCall 2 f__law_roll (mCons (mV 1) (mCons (mC (.int 12)) mNil))) (mCons (mC (.int 1)) mNil)) [z0, some (.loc L), some (.int a), some (.int b), some (.int n), some (.int (Int.gcd a b : Int)), some (.int x), some (.int y), some (.loc j4), some d, some (.loc j5), z11, z12, z13, z14] X6 = .next [z0, some (.loc L), some (.int a), some (.int b), some (.int n), some (.int (Int.gcd a b : Int)), some (.int x), some (.int y), some (.loc j4), some d, some (.loc j5), some (.int v4), some (.int 1), z13, z14] X7 := by
    unfold msPar
    have : (mCons (mCall 2 f__law_roll (mCons (mV 1) (mCons (mC (.int 12)) mNil))) (mCons (mC (.int 1)) mNil)) [z0, some (.loc L), some (.int a), some (.int b), some (.int n), some (.int (Int.gcd a b : Int)), some (.int x), some (.int y), some (.loc j4), some d, some (.loc j5), z11, z12, z13, z14] X6 = .ok [.int v4, .int 1] X7 := by
      rw [mCons, r4]
      rfl
    rw [this]
    rfl
  refine wn_seq s8 ?_
  clear s8 r4 k7 A6 g6
  obtain ⟨w13, e9⟩ := pw_try X7 (none, rangeD 0 v4.toNat) rfl a ha z0 (some (.loc L)) (some (.int b)) (some (.int n)) (some (.int (Int.gcd a b : Int))) (some (.int x)) (some (.int y)) (some (.loc j4)) (some d) (some (.loc j5)) (some (.int v4)) z14 v4.toNat 0 1 1 z13 (by decide) (by decide) (by omega)
  rw [Int.one_mul] at e9
  refine wn_seq ((msFor_ok (miRange1_eq (b := v4) rfl (inR_small (by omega)))).trans e9) ?_
  clear e9
  have pw : ∀ {w14 : Option Mx.D} {X : Store}, mCall 3 f_power (mCons (mV 2) (mCons (mV 11) (mCons (mV 4) mNil))) [z0, some (.loc L), some (.int a), some (.int b), some (.int n), some (.int (Int.gcd a b : Int)), some (.int x), some (.int y), some (.loc j4), some d, some (.loc j5), some (.int v4), some (.int (a ^ v4.toNat)), w13, w14] X = .ok (.int (a ^ v4.toNat % n)) X := fun {w14 X} => (mCall_ok (ds := [.int a, .int v4, .int n]) (S1 := X) rfl rfl).trans (power_eq n0 (by omega) p4 (by omega))
  obtain ⟨T8, n8⟩ := ne_nil (S := X7) (T := []) (S0 := X7) (a := mV 10) (ρ := [z0, some (.loc L), some (.int a), some (.int b), some (.int n), some (.int (Int.gcd a b : Int)), some (.int x), some (.int y), some (.loc j4), some d, some (.loc j5), some (.int v4), some (.int (a ^ v4.toNat)), w13, z14]) (j := j5) (xs := dueL a n) (by rw [List.append_nil]; rfl) (by rw [List.append_nil]; exact g7)
  have A8 := A7.app (T := T8)
  have g8 : (X7 ++ T8)[j5]? = some (.lst ((dueL a n).map .int)) := getA g7
  clear A7 g7
  generalize hX8 : X7 ++ T8 = X8 at A8 g8 n8
  refine wn_seq (skip_ret (S1 := X8) ((mOr_f (S1 := X7) (ne_ints (S1 := X7) pw ((mBin_ok rfl rfl).trans (modM_pos n0)) rfl)).trans ?_)) ?_
  · rcases hd with ⟨hg, r, rest, rfl, hr⟩ | ⟨hg, rfl, hr⟩
    · rw [hr] at n8
      refine (mAnd_t (mTest_ok n8)).trans ?_
      have pm : ∃ u : Int, mCall 3 f_power (mCons (mV 2) (mCons (mBin subM (mC (.int 0)) (mV 11)) (mCons (mV 4) mNil))) [z0, some (.loc L), some (.int a), some (.int b), some (.int n), some (.int (Int.gcd a b : Int)), some (.int x), some (.int y), some (.loc j4), some (.int r), some (.loc j5), some (.int v4), some (.int (a ^ v4.toNat)), w13, z14] X8 = .ok (.int u) X8 ∧ u * (a ^ v4.toNat % n) % n = 1 % n ∧ 0 ≤ u ∧ u < n := by
        by_cases q : v4 = 0
        · subst q
          refine ⟨a ^ (0 : Int).toNat % n, (mCall_ok (ds := [.int a, .int (0 - 0), .int n]) (S1 := X8) rfl rfl).trans (power_eq n0 (by omega) (by decide) (by decide)), ?_, Int.emod_nonneg _ (by omega), Int.emod_lt_of_pos _ n0⟩
          rw [← Int.mul_emod]
          simp
        · obtain ⟨r', br, b0, b1, b2⟩ := back_ok (a := a) (n := n) (S := X8) n0 (by omega) hg
          refine ⟨r' ^ v4.toNat % n, ?_, back_pow _ b2, Int.emod_nonneg _ (by omega), Int.emod_lt_of_pos _ n0⟩
          have h := power_neg (a := a) (m := 0 - v4) (n := n) (r := r') (S := X8) n0 (by omega) (by omega) (by omega) br
          rw [show -(0 - v4) = v4 by omega] at h
          exact (mCall_ok (ds := [.int a, .int (0 - v4), .int n]) (S1 := X8) rfl rfl).trans h
      obtain ⟨u, pu, hu, u0, u1⟩ := pm
      have t0 := Int.emod_nonneg (a ^ v4.toNat) (show n ≠ 0 by omega)
      have t1 := Int.emod_lt_of_pos (a ^ v4.toNat) n0
      have c : CMulM u (a ^ v4.toNat % n) := cmul (k := 8) (l := 8) (by omega) (by omega) (by decide)
      exact ne_ints (S1 := X8) (((mBin_ok ((mBin_ok pu pw).trans (mulM_int c)) rfl)).trans (modM_pos n0)) ((mBin_ok rfl rfl).trans (modM_pos n0)) hu
    · rw [hr] at n8
      exact mAnd_f (mTest_ok n8)
  clear n8
  -- turns
  obtain ⟨T9, n9⟩ := ne_nil (S := X8) (T := []) (S0 := X8) (a := mV 10) (ρ := [z0, some (.loc L), some (.int a), some (.int b), some (.int n), some (.int (Int.gcd a b : Int)), some (.int x), some (.int y), some (.loc j4), some d, some (.loc j5), some (.int v4), some (.int (a ^ v4.toNat)), w13, z14]) (j := j5) (xs := dueL a n) (by rw [List.append_nil]; rfl) (by rw [List.append_nil]; exact g8)
  have s11 : ∃ T10, msIf (mTest (mBin neM (mV 10) (mLst mNil))) (msIf (mTest (mBin neM (mCall 2 f_turns (mCons (mV 2) (mCons (mV 4) mNil))) (mBin ixM tryE (mC (.int 0))))) (msRet (mC (.bl false))) msNil) (msIf (mTest (mBin neM (mToldN toldN (mCall 2 f_turns (mCons (mV 2) (mCons (mV 4) mNil)))) (mC (.str "no way")))) (msRet (mC (.bl false))) msNil) [z0, some (.loc L), some (.int a), some (.int b), some (.int n), some (.int (Int.gcd a b : Int)), some (.int x), some (.int y), some (.loc j4), some d, some (.loc j5), some (.int v4), some (.int (a ^ v4.toNat)), w13, z14] X8 = .next [z0, some (.loc L), some (.int a), some (.int b), some (.int n), some (.int (Int.gcd a b : Int)), some (.int x), some (.int y), some (.loc j4), some d, some (.loc j5), some (.int v4), some (.int (a ^ v4.toNat)), w13, z14] (X8 ++ T10) := by
    rcases hd with ⟨hg, r, rest, rfl, hr⟩ | ⟨hg, rfl, hr⟩
    · rw [hr] at n9
      obtain ⟨T10, j10, e10, l10, g10⟩ := try_eq (S := X8 ++ T9) (a := a) (n := n) n0 n1 (z0 := z0) (z1 := some (.loc L)) (z3 := some (.int b)) (z5 := some (.int (Int.gcd a b : Int))) (z6 := some (.int x)) (z7 := some (.int y)) (z8 := some (.loc j4)) (z9 := some (.int r)) (z10 := some (.loc j5)) (z11 := some (.int v4)) (z12 := some (.int (a ^ v4.toNat))) (z13 := w13) (z14 := z14)
      have ht := turns_law n0 n1 hg
      obtain ⟨rest2, h2⟩ : ∃ rest2, tryT a n = trL a n :: rest2 := by
        generalize tryT a n = l at ht
        cases l with
        | nil => cases ht
        | cons k l => injection ht with z; exact ⟨l, by rw [z]⟩
      rw [h2] at g10
      refine ⟨T9 ++ T10, ?_⟩
      rw [msIf_t (mTest_ok n9), ← List.append_assoc]
      refine skip_ret (ne_ints (S1 := X8 ++ T9) ((mCall_ok (ds := [.int a, .int n]) (S1 := X8 ++ T9) rfl rfl).trans (turns_eq n0 (by omega) hg)) ((mBin_ok2 e10 rfl).trans (ixI (i := 0) g10 rfl)) rfl)
    · rw [hr] at n9
      refine ⟨T9, ?_⟩
      rw [msIf_f (mTest_ok n9)]
      exact skip_ret (mTest_ok ((mBin_ok2 (mTold_no ((mCall_ok (ds := [.int a, .int n]) (S1 := X8 ++ T9) rfl rfl).trans (turns_no n0 (by omega) hg))) rfl).trans neM_self))
  obtain ⟨T10, s11⟩ := s11
  refine wn_seq s11 ?_
  have A9 := A8.app (T := T10)
  clear s11 n9 A8 g8 hX8 X7
  generalize X8 ++ T10 = X9 at A9
  -- the three small laws
  obtain ⟨y0, y1, y2, h9, D9⟩ := A9.get hL
  obtain ⟨u0, u1, u2, T11, e11, D11⟩ := together_law_eq h9 D9 (by omega)
  refine wn_seq (not_lit (mTest_ok ((mCall_ok (ds := [.loc L]) (S1 := X9) rfl rfl).trans e11))) ?_
  have A11 := (A9.put hL D11).app (T := T11)
  clear e11 A9 h9 D9
  generalize X9.set L (.lst [.int u0, .int u1, .int u2]) ++ T11 = X11 at A11
  obtain ⟨y0, y1, y2, h9, D9⟩ := A11.get hL
  obtain ⟨u0, u1, u2, T12, e12, D12⟩ := parts_law_eq h9 D9 (by omega)
  refine wn_seq (not_lit (mTest_ok ((mCall_ok (ds := [.loc L]) (S1 := X11) rfl rfl).trans e12))) ?_
  have A12 := (A11.put hL D12).app (T := T12)
  clear e12 A11 h9 D9
  generalize X11.set L (.lst [.int u0, .int u1, .int u2]) ++ T12 = X12 at A12
  obtain ⟨y0, y1, y2, h9, D9⟩ := A12.get hL
  obtain ⟨u0, u1, u2, T13, e13, D13⟩ := signs_eq (a := a) h9 D9 (by omega) (by omega)
  refine wn_seq (not_lit (mTest_ok ((mCall_ok (ds := [.loc L, .int a]) (S1 := X12) rfl rfl).trans e13))) ?_
  have A13 := (A12.put hL D13).app (T := T13)
  clear e13 A12 h9 D9
  generalize X12.set L (.lst [.int u0, .int u1, .int u2]) ++ T13 = X13 at A13
  -- the end
  obtain ⟨v5, X14, r5, p5, q5, A14, -⟩ := A13.roll hL (ρ := [z0, some (.loc L), some (.int a), some (.int b), some (.int n), some (.int (Int.gcd a b : Int)), some (.int x), some (.int y), some (.loc j4), some d, some (.loc j5), some (.int v4), some (.int (a ^ v4.toNat)), w13, z14]) (i := 1) rfl (many := 300) (by omega) (by decide) (by decide)
  refine wn_seq (msAsgT_ok r5 rfl) ?_
  clear r5 A13
  show WN _ [z0, some (.loc L), some (.int a), some (.int b), some (.int n), some (.int (Int.gcd a b : Int)), some (.int x), some (.int y), some (.loc j4), some d, some (.loc j5), some (.int v4), some (.int (a ^ v4.toNat)), w13, some (.int v5)] X14 _
  obtain ⟨f, ef, f0, f1, f2, f3⟩ := root_floor_eq (x := v5) (S := X14) p5 (by omega)
  have rf : mCall 1 f_root_floor (mCons (mV 14) mNil) [z0, some (.loc L), some (.int a), some (.int b), some (.int n), some (.int (Int.gcd a b : Int)), some (.int x), some (.int y), some (.loc j4), some d, some (.loc j5), some (.int v4), some (.int (a ^ v4.toNat)), w13, some (.int v5)] X14 = .ok (.int f) X14 := (mCall_ok (ds := [.int v5]) (S1 := X14) rfl rfl).trans ef
  have cf : CMulM f f := cmul (k := 42) (l := 42) (by omega) (by omega) (by decide)
  have cf1 : CMulM (f + 1) (f + 1) := cmul (k := 43) (l := 43) (by omega) (by omega) (by decide)
  refine wn_seq (not_lit (mTest_ok (S1 := X14) ?_)) ?_
  · have p1 : mBin addM (mCall 1 f_root_floor (mCons (mV 14) mNil)) (mC (.int 1)) [z0, some (.loc L), some (.int a), some (.int b), some (.int n), some (.int (Int.gcd a b : Int)), some (.int x), some (.int y), some (.loc j4), some d, some (.loc j5), some (.int v4), some (.int (a ^ v4.toNat)), w13, some (.int v5)] X14 = .ok (.int (f + 1)) X14 := (mBin_ok2 rf rfl).trans addM_int
    refine (mChain_t (y := .int v5) (S2 := X14) (S3 := X14) ((mBin_ok rf rf).trans (mulM_int cf)) rfl ?_ ((mBin_ok p1 p1).trans (mulM_int cf1))).trans ?_
    · exact (cmpM_int (p := fun i j => decide (i ≤ j))).trans (by rw [show decide (f * f ≤ v5) = true from decide_eq_true f1])
    · exact (cmpM_int (p := fun i j => decide (i < j))).trans (by rw [show decide (v5 < (f + 1) * (f + 1)) = true from decide_eq_true f2])
  have c2 : CMulM 2 n := cmul (k := 2) (l := 8) (by decide) (by omega) (by decide)
  have dbl : mBin mulM (mC (.int 2)) (mV 4) [z0, some (.loc L), some (.int a), some (.int b), some (.int n), some (.int (Int.gcd a b : Int)), some (.int x), some (.int y), some (.loc j4), some d, some (.loc j5), some (.int v4), some (.int (a ^ v4.toNat)), w13, some (.int v5)] X14 = .ok (.int (2 * n)) X14 := (mBin_ok rfl rfl).trans (mulM_int c2)
  have args : mCons (mV 2) (mCons (mBin mulM (mC (.int 2)) (mV 4)) mNil) [z0, some (.loc L), some (.int a), some (.int b), some (.int n), some (.int (Int.gcd a b : Int)), some (.int x), some (.int y), some (.loc j4), some d, some (.loc j5), some (.int v4), some (.int (a ^ v4.toNat)), w13, some (.int v5)] X14 = .ok [.int a, .int (2 * n)] X14 := by
    show Out.bind (mV 2 _ X14) _ = _
    rw [show mV 2 [z0, some (.loc L), some (.int a), some (.int b), some (.int n), some (.int (Int.gcd a b : Int)), some (.int x), some (.int y), some (.loc j4), some d, some (.loc j5), some (.int v4), some (.int (a ^ v4.toNat)), w13, some (.int v5)] X14 = .ok (.int a) X14 from rfl, ok_bind]
    unfold mCons
    rw [dbl]
    rfl
  refine wn_seq (skip_ret (mTest_ok ((mBin_ok2 (mTold_num ((mCall_ok args rfl).trans (sign_no (.inr (by omega))))) rfl).trans neM_self))) ?_
  refine wn_seq (skip_ret (mTest_ok ((mBin_ok2 (mTold_num ((mCall_ok (ds := [.int 0]) (S1 := X14) rfl rfl).trans (parts_no (by decide)))) rfl).trans neM_self))) ?_
  refine wn_one (skip_ret (mTest_ok ((mBin_ok2 (mTold_num ((mCall_ok (ds := [.int (0 - n)]) (S1 := X14) rfl rfl).trans (root_floor_no (by omega)))) rfl).trans neM_self))) ?_
  refine ⟨?_, some (.int a), some (.int b), some (.int n), some (.int (Int.gcd a b : Int)), some (.int x), some (.int y), some (.loc j4), some d, some (.loc j5), some (.int v4), some (.int (a ^ v4.toNat)), w13, some (.int v5), rfl⟩
  obtain ⟨y0, y1, y2, T, e, D⟩ := A14
  exact ⟨y0, y1, y2, T, e, D.mono (by omega)⟩
end K01
set_option Elab.async false
set_option linter.all false
set_option maxRecDepth 100000
set_option maxHeartbeats 4000000
/-! k01: law, whole. -/
namespace K01
open PySem Mx
theorem law_loop (j : Nat) (ds0 : List Mx.D) (z0 : Option Mx.D) : ∀ (ds : List Mx.D) (B : Nat) (S : Store) (z1 z2 z3 z4 z5 z6 z7 z8 z9 z10 z11 z12 z13 z14 : Option Mx.D), (∀ d ∈ ds, d ∈ ds0) → S[j]? = some (.lst ds0) → (∀ d ∈ ds0, Die B S d) → B + 20 * ds.length < 700000 →
    ∃ ρ' S', forL (some j, ds0) (.one 1) lawB ds [z0, z1, z2, z3, z4, z5, z6, z7, z8, z9, z10, z11, z12, z13, z14] S = .next ρ' S' := by
  intro ds
  induction ds with
  | nil => intro B S z1 z2 z3 z4 z5 z6 z7 z8 z9 z10 z11 z12 z13 z14 _ hj _ _; exact ⟨_, S, for_nil (by unfold okSrc; exact decide_eq_true hj)⟩
  | cons d ds ih =>
    intro B S z1 z2 z3 z4 z5 z6 z7 z8 z9 z10 z11 z12 z13 z14 hsub hj hd hB
    rw [List.length_cons] at hB
    have hd0 := hsub d List.mem_cons_self
    obtain ⟨L, x0, x1, x2, rfl, g, D⟩ := hd d hd0
    have hL : L < S.length := (List.getElem?_eq_some_iff.mp g).1
    have hS : S.set L (.lst [.int x0, .int x1, .int x2]) = S := by
      obtain ⟨_, e⟩ := List.getElem?_eq_some_iff.mp g
      rw [← e]
      exact List.set_getElem_self hL
    have hA : At S L B S := ⟨x0, x1, x2, [], by rw [hS, List.append_nil], D⟩
    obtain ⟨ρ', X, e, A', w2, w3, w4, w5, w6, w7, w8, w9, w10, w11, w12, w13, w14, rfl⟩ := body_eq hA hL (by omega) z0 z2 z3 z4 z5 z6 z7 z8 z9 z10 z11 z12 z13 z14
    have hLj : L ≠ j := fun z => by
      subst z
      rw [g] at hj
      injection hj with z1
      injection z1 with z2
      rw [← z2] at hd0
      simp at hd0
    obtain ⟨y0, y1, y2, T, eX, D'⟩ := A'
    have at_ : ∀ {i : Nat} {o : SO}, i ≠ L → S[i]? = some o → X[i]? = some o := fun {i o} hi h => by
      rw [eX]
      refine getA ?_
      rw [List.getElem?_set_ne (fun z => hi z.symm)]
      exact h
    have hj2 : X[j]? = some (.lst ds0) := at_ (fun z => hLj z.symm) hj
    have hd2 : ∀ d ∈ ds0, Die (B + 20) X d := fun d' h' => by
      obtain ⟨L', x0, x1, x2, rfl, g', D2⟩ := hd d' h'
      by_cases q : L' = L
      · subst q
        exact ⟨L', y0, y1, y2, rfl, by rw [eX]; exact getA (List.getElem?_set_self hL), D'⟩
      · exact ⟨L', x0, x1, x2, rfl, at_ q g', D2.mono (by omega)⟩
    obtain ⟨ρ2, S2, e2⟩ := ih (B + 20) X (some (.loc L)) w2 w3 w4 w5 w6 w7 w8 w9 w10 w11 w12 w13 w14 (fun d' h' => hsub d' (List.mem_cons_of_mem _ h')) hj2 hd2 (by omega)
    exact ⟨ρ2, S2, (for_cons (by unfold okSrc; exact decide_eq_true hj) rfl e).trans e2⟩
theorem cut_mem {xs : List Int} {lo hi : Option Int} : (∀ x ∈ cutD xs lo hi, x ∈ xs) ∧ (cutD xs lo hi).length ≤ xs.length := by
  unfold cutD
  refine ⟨fun x hx => List.mem_of_mem_drop (List.mem_of_mem_take hx), ?_⟩
  rw [List.length_take, List.length_drop]
  omega
theorem cut_map (ns : List Int) (lo hi : Option Int) : cutD (ns.map Mx.D.int) lo hi = (cutD ns lo hi).map .int := by
  unfold cutD
  rw [List.length_map, List.map_take, List.map_drop]
theorem bits_lt {z : Int} (h : Builtin.Int.intBits z ≤ 1048576) : z.natAbs < 2 ^ 1100000 := by
  by_cases h0 : z.natAbs = 0
  · rw [h0]; exact Nat.two_pow_pos _
  · have e : z.natAbs.log2 + 1 ≤ 1048576 := by
      unfold Builtin.Int.intBits at h
      split at h
      · rename_i q
        have : z = 0 := by simpa using q
        omega
      · exact h
    exact Nat.lt_of_lt_of_le (Nat.lt_log2_self (n := z.natAbs)) (Nat.pow_le_pow_right (by decide) (by omega))
theorem law_ok : LawM f_law 63 := by
  intro ns d S hl hz hS
  have sl : slM d none (some 5) S = .ok (.loc S.length) (S ++ [.lst ((cutD ns none (some 5)).map .int)]) := by
    rcases hS with ⟨rfl, rfl⟩ | ⟨rfl, rfl⟩
    · rfl
    · show (Out.ok (Mx.D.loc 1) ([SO.lst (ns.map .int)] ++ [.lst (cutD (ns.map .int) none (some 5))])) = _
      rw [cut_map]
      rfl
  obtain ⟨hm, hn⟩ := cut_mem (xs := ns) (lo := none) (hi := some 5)
  obtain ⟨j, ds, T, er, hj, g, hlen, hd⟩ := rounds_eq sl (fun c hc => bits_lt (hz c (hm c hc))) (by omega)
  have ms : miSeq (mCall 2 f__law_rounds (mCons (mV 0) (mCons (mC (.int 5)) mNil))) (startM 15 [d]) S = .ok (some j, ds) (S ++ T) := by
    have hc : mCall 2 f__law_rounds (mCons (mV 0) (mCons (mC (.int 5)) mNil)) (startM 15 [d]) S = .ok (.loc j) (S ++ T) := (mCall_ok (ds := [d, .int 5]) (S1 := S) rfl rfl).trans er
    unfold miSeq
    rw [hc, ok_bind]
    dsimp only
    rw [g]
  obtain ⟨ρ', S', e⟩ := law_loop j ds (some d) ds 1100 (S ++ T) none none none none none none none none none none none none none none (fun d h => h) g hd (by omega)
  have key : m_law (startM 15 [d]) S = .ret (.bl true) S' := by
    rw [law_is]
    refine (msSeq_next ((msFor_ok ms).trans e)).trans ?_
    rfl
  unfold f_law fnM
  rw [key]
  show ∃ S'', fin S (.ok (.bl true) S') = _
  unfold fin
  dsimp only
  split
  · exact ⟨_, rfl⟩
  · exact ⟨_, rfl⟩
end K01
set_option maxRecDepth 100000 in
set_option maxHeartbeats 8000000 in
theorem PySem.Challenge.cw_idealhall_k01_clocks_holds : PySem.Challenge.rw_idealhall_k01_clocks.Holds := by
  exact K01.holds K01.law_ok
