import PyProof.Rows.All
import Wide.All
import OpenK.AllK
import Wide.FinOn
import HandS.ForMost
import HandS.Style
import HandS.IsInst
import HandS.FStr
import HandS.TupAny
import HandS.Wide
import KE.GoesNew
import KE.GoesMore
import KE.GoesEnumKw
import HandS.Zip
import PyProof.ReprBulk
import HandS.TupMul
import HandS.WordsDict
import KE.KTupSum
import PySem.Challenge.RW_serialhouse_k41_whole_rows_rounds_and_me
set_option Elab.async false
set_option linter.all false
set_option autoImplicit false
set_option maxRecDepth 100000
set_option maxHeartbeats 4000000
/-! PL: a pure layer over the hand layer. Data D, cells, the relation Ok, and lifted readings. -/
namespace PL
open PySem PySem.Spec L2

inductive D where
  | non | bl (b : Bool) | int (i : Int) | str (s : Str)
  | lst (ds : List D) | tup (ds : List D) | dic (ks : List Key) (ds : List D) | dit (ks : List (List Key)) (ds : List D)
  | obj (k : Nat) (fs : List D) | res

/-- what is fixed through a law: the written part, the classes, the deck (its dict, its list) -/
structure Cfg where
  K : PySem.W.Frag
  cls : Nat → Option (Addr × List Str)
  dd : Addr
  de : Addr

mutual
inductive Rep (c : Cfg) (F : Hp) : V → D → Prop
  | non : Rep c F .non .non
  | bl (b : Bool) : Rep c F (.bl b) (.bl b)
  | int (i : Int) : Rep c F (.int i) (.int i)
  | str (x : Str) : Rep c F (.str x) (.str x)
  | lst {a : Addr} {xs : List V} {ds : List D} : F a = some (.lst xs) → Reps c F xs ds → Rep c F (.ref a) (.lst ds)
  | tup {a : Addr} {xs : List V} {ds : List D} : SqT c.K F a xs → Reps c F xs ds → Rep c F (.ref a) (.tup ds)
  | dic {a : Addr} {ks : List Key} {xs : List V} {ds : List D} : F a = some (.dK (ks.zip xs)) → ks.length = xs.length → Reps c F xs ds → Rep c F (.ref a) (.dic ks ds)
  | dit {a : Addr} {ks : List (List Key)} {xs : List V} {ds : List D} : F a = some (.dT (ks.zip xs)) → ks.length = xs.length → Reps c F xs ds → Rep c F (.ref a) (.dit ks ds)
  | obj {a C dx : Addr} {k : Nat} {ns : List Str} {xs : List V} {ds : List D} : c.cls k = some (C, ns) → F a = some (.ins C dx (ns.zip xs)) → ns.length = xs.length → Reps c F xs ds → Rep c F (.ref a) (.obj k ds)
  | res : Rep c F (.ref c.dd) .res
inductive Reps (c : Cfg) (F : Hp) : List V → List D → Prop
  | nil : Reps c F [] []
  | cons {v : V} {vs : List V} {d : D} {ds : List D} : Rep c F v d → Reps c F vs ds → Reps c F (v :: vs) (d :: ds)
end

theorem Same.seqT {K : PySem.W.Frag} {H H' : Hp} {a : Addr} {xs : List V} (e : Same H H') (h : SqT K H a xs) : SqT K H' a xs := by
  rcases h with h | h
  · rcases h with h | ⟨o, h⟩
    · exact .inl (.inl (e _ _ h))
    · exact .inl (.inr ⟨o, e _ _ h⟩)
  · exact .inr h

mutual
theorem Rep.mono {c : Cfg} {F F' : Hp} (s : Same F F') : ∀ {v : V} {d : D}, Rep c F v d → Rep c F' v d
  | _, _, .non => .non
  | _, _, .bl b => .bl b
  | _, _, .int i => .int i
  | _, _, .str x => .str x
  | _, _, .lst h r => .lst (s _ _ h) (Reps.mono s r)
  | _, _, .tup h r => .tup (Same.seqT s h) (Reps.mono s r)
  | _, _, .dic h l r => .dic (s _ _ h) l (Reps.mono s r)
  | _, _, .dit h l r => .dit (s _ _ h) l (Reps.mono s r)
  | _, _, .obj e h l r => .obj e (s _ _ h) l (Reps.mono s r)
  | _, _, .res => .res
theorem Reps.mono {c : Cfg} {F F' : Hp} (s : Same F F') : ∀ {vs : List V} {ds : List D}, Reps c F vs ds → Reps c F' vs ds
  | _, _, .nil => .nil
  | _, _, .cons h t => .cons (Rep.mono s h) (Reps.mono s t)
end
section
variable {c : Cfg} {F : Hp}
theorem Reps.length : ∀ {vs : List V} {ds : List D}, Reps c F vs ds → vs.length = ds.length
  | _, _, .nil => rfl
  | _, _, .cons _ t => congrArg (· + 1) (Reps.length t)
theorem Reps.get : ∀ {vs : List V} {ds : List D} {i : Nat} {d : D}, Reps c F vs ds → ds[i]? = some d → ∃ v, vs[i]? = some v ∧ Rep c F v d
  | _, _, _, _, .nil, e => by simp at e
  | _, _, 0, _, .cons r _, e => by simp at e; subst e; exact ⟨_, rfl, r⟩
  | _, _, i + 1, d, .cons _ t, e => by
    obtain ⟨u, h1, h2⟩ := Reps.get (i := i) (d := d) t (by simpa using e)
    exact ⟨u, by simpa using h1, h2⟩
theorem Reps.getV : ∀ {vs : List V} {ds : List D} {i : Nat} {v : V}, Reps c F vs ds → vs[i]? = some v → ∃ d, ds[i]? = some d ∧ Rep c F v d
  | _, _, _, _, .nil, e => by simp at e
  | _, _, 0, _, .cons r _, e => by simp at e; subst e; exact ⟨_, rfl, r⟩
  | _, _, i + 1, v, .cons _ t, e => by
    obtain ⟨u, h1, h2⟩ := Reps.getV (i := i) (v := v) t (by simpa using e)
    exact ⟨u, by simpa using h1, h2⟩
theorem Reps.append : ∀ {xs ys : List V} {ds es : List D}, Reps c F xs ds → Reps c F ys es → Reps c F (xs ++ ys) (ds ++ es)
  | _, _, _, _, .nil, s => s
  | _, _, _, _, .cons r t, s => .cons r (Reps.append t s)
theorem Reps.take : ∀ {xs : List V} {ds : List D} (n : Nat), Reps c F xs ds → Reps c F (xs.take n) (ds.take n)
  | _, _, 0, _ => .nil
  | _, _, _ + 1, .nil => .nil
  | _, _, n + 1, .cons r t => .cons r (Reps.take n t)
theorem Reps.drop : ∀ {xs : List V} {ds : List D} (n : Nat), Reps c F xs ds → Reps c F (xs.drop n) (ds.drop n)
  | _, _, 0, r => r
  | _, _, _ + 1, .nil => .nil
  | _, _, n + 1, .cons _ t => Reps.drop n t
theorem Reps.set {v : V} {d : D} (r : Rep c F v d) : ∀ {xs : List V} {ds : List D} (i : Nat), Reps c F xs ds → Reps c F (xs.set i v) (ds.set i d)
  | _, _, _, .nil => .nil
  | _, _, 0, .cons _ t => .cons r t
  | _, _, i + 1, .cons q t => .cons q (Reps.set r i t)
theorem Reps.reverse : ∀ {xs : List V} {ds : List D}, Reps c F xs ds → Reps c F xs.reverse ds.reverse
  | _, _, .nil => .nil
  | _, _, .cons r t => by
    rw [List.reverse_cons, List.reverse_cons]
    exact (Reps.reverse t).append (.cons r .nil)
theorem Reps.dropLast {xs : List V} {ds : List D} (r : Reps c F xs ds) : Reps c F xs.dropLast ds.dropLast := by
  rw [List.dropLast_eq_take, List.dropLast_eq_take, r.length]
  exact r.take _
theorem Reps.rep {xs : List V} {ds : List D} (r : Reps c F xs ds) : ∀ k : Nat, Reps c F (List.replicate k xs).flatten (List.replicate k ds).flatten
  | 0 => .nil
  | k + 1 => by
    rw [List.replicate_succ, List.replicate_succ, List.flatten_cons, List.flatten_cons]
    exact r.append (Reps.rep r k)
theorem Reps.ints : ∀ {ns : List Int}, Reps c F (ns.map V.int) (ns.map D.int)
  | [] => .nil
  | _ :: _ => .cons (.int _) Reps.ints
end

/-- a local name: nothing is known of it; shared data; a container of one's own (a list, a dict) -/
inductive Cell where
  | any | sh (d : D) | own (d : D)

/-- the contents of a container -/
inductive Cont (c : Cfg) (F : Hp) : HO → D → Prop
  | lst {xs : List V} {ds : List D} : Reps c F xs ds → Cont c F (.lst xs) (.lst ds)
  | dic {ks : List Key} {xs : List V} {ds : List D} : ks.length = xs.length → Reps c F xs ds → Cont c F (.dK (ks.zip xs)) (.dic ks ds)
  | dit {ks : List (List Key)} {xs : List V} {ds : List D} : ks.length = xs.length → Reps c F xs ds → Cont c F (.dT (ks.zip xs)) (.dit ks ds)
theorem Cont.mono {c : Cfg} {F F' : Hp} (s : Same F F') {o : HO} {d : D} (h : Cont c F o d) : Cont c F' o d := by
  cases h with
  | lst r => exact .lst (r.mono s)
  | dic l r => exact .dic l (r.mono s)
  | dit l r => exact .dit l (r.mono s)
theorem Cont.rep {c : Cfg} {F : Hp} {o : HO} {d : D} {a : Addr} (h : Cont c F o d) (e : F a = some o) : Rep c F (.ref a) d := by
  cases h with
  | lst r => exact .lst e r
  | dic l r => exact .dic e l r
  | dit l r => exact .dit e l r

/-- the deck's keys: they hang on the law -/
def NM : Str × Str × Str := ("cells", "mixed", "draws")
/-- the most draws that are let -/
def lim : Nat := 2 ^ 40
def DeckAt (c : Cfg) (n : Nat) (H : Hp) : Prop := c.dd ≠ c.de ∧ ∃ (cs : List Int) (m k : Int),
  H c.dd = some (.dK [(.inr NM.1, .ref c.de), (.inr NM.2.1, .int m), (.inr NM.2.2, .int k)]) ∧ H c.de = some (.lst (cs.map V.int)) ∧ cs.length ≤ 63 ∧ 0 ≤ k ∧ k ≤ n ∧ n ≤ lim
def Cfg.fp (c : Cfg) (b : Addr) : Prop := b = c.dd ∨ b = c.de
theorem DeckAt.keep {c : Cfg} {n : Nat} {H H' : Hp} (h : DeckAt c n H) (k : ∀ b, c.fp b → H' b = H b) : DeckAt c n H' := by
  obtain ⟨ne, cs, m, j, h1, h2, h3⟩ := h
  exact ⟨ne, cs, m, j, (k _ (.inl rfl)).trans h1, (k _ (.inr rfl)).trans h2, h3⟩
theorem DeckAt.there {c : Cfg} {n : Nat} {H : Hp} {b : Addr} (h : DeckAt c n H) (q : c.fp b) : H b ≠ none := by
  obtain ⟨ne, cs, m, j, h1, h2, h3⟩ := h
  rcases q with rfl | rfl
  · rw [h1]; exact fun z => nomatch z
  · rw [h2]; exact fun z => nomatch z
structure G where
  c : Cfg
  H0 : Hp
  F0 : Hp
  pin : Hp

def CellOk (g : G) (F H : Hp) (ov : Option (Option V)) : Cell → Prop
  | .any => True
  | .sh d => ∃ v, ov = some (some v) ∧ Rep g.c F v d
  | .own d => ∃ o x, ov = some (some (.ref o)) ∧ H o = some x ∧ F o = none ∧ g.H0 o = none ∧ (¬ g.c.fp o ∧ g.pin o = none) ∧ Cont g.c F x d

/-- the pure state (F, ρ) of the def's entry g speaks of σ, H -/
structure Ok (g : G) (n : Nat) (F H : Hp) (σ : St) (ρ : List Cell) : Prop where
  keep : ∀ b x, g.H0 b = some x → ¬ g.c.fp b → H b = some x
  sub : Same F H
  ffp : ∀ b, g.c.fp b → F b = none
  new : ∀ b, g.H0 b ≠ none → g.F0 b = none → F b = none
  dk : DeckAt g.c n H
  pin : ∀ b x, g.pin b = some x → H b = some x ∧ F b = none ∧ ¬ g.c.fp b
  len : σ.length = ρ.length
  cells : ∀ (i : Nat) (k : Cell), ρ[i]? = some k → CellOk g F H σ[i]? k
  disj : ∀ (i j : Nat) (d e : D) (o : Addr), ρ[i]? = some (.own d) → ρ[j]? = some (.own e) → σ[i]? = some (some (.ref o)) → σ[j]? = some (some (.ref o)) → i = j

section
variable {g : G} {n : Nat} {F H : Hp} {σ : St} {ρ : List Cell}
theorem same_upd {H : Hp} {p : Addr} {o : HO} (h : H p = none) : Same H (upd H p o) := fun b x e => by
  rw [upd_ne (ne_of_none e h)]
  exact e
theorem Same.updBoth {F H : Hp} {p : Addr} {o : HO} (s : Same F H) : Same (upd F p o) (upd H p o) := fun b x e => by
  by_cases hb : b = p
  · subst hb; rw [upd_same] at e ⊢; exact e
  · rw [upd_ne hb] at e ⊢; exact s _ _ e
theorem Ok.more (k : Ok g n F H σ ρ) {m : Nat} (h : n ≤ m) (hl : m ≤ lim) : Ok g m F H σ ρ := { k with
  dk := by
    obtain ⟨ne, cs, a, j, h1, h2, h3, h4, h5, h6⟩ := k.dk
    exact ⟨ne, cs, a, j, h1, h2, h3, h4, by omega, hl⟩ }
theorem Ok.lim (k : Ok g n F H σ ρ) : n ≤ lim := by
  obtain ⟨ne, cs, a, j, h1, h2, h3, h4, h5, h6⟩ := k.dk
  exact h6
theorem Ok.freeP (k : Ok g n F H σ ρ) {p : Addr} (h : H p = none) : g.pin p = none := by
  cases q : g.pin p with
  | none => rfl
  | some x => rw [(k.pin p x q).1] at h; cases h
theorem Ok.freeF (k : Ok g n F H σ ρ) {p : Addr} (h : H p = none) : F p = none := k.sub.free h
theorem Ok.nofp (k : Ok g n F H σ ρ) {p : Addr} (h : H p = none) : ¬ g.c.fp p := fun q => k.dk.there q h
theorem Ok.freeH0 (k : Ok g n F H σ ρ) {p : Addr} (h : H p = none) : g.H0 p = none := by
  cases q : g.H0 p with
  | none => rfl
  | some x => rw [k.keep p x q (k.nofp h)] at h; cases h
theorem CellOk.alloc {ov : Option (Option V)} {k : Cell} {p : Addr} {o : HO} (hp : H p = none) (hF : F p = none) (h : CellOk g F H ov k) : CellOk g (upd F p o) (upd H p o) ov k := by
  cases k with
  | any => trivial
  | sh d =>
    obtain ⟨v, e, r⟩ := h
    exact ⟨v, e, r.mono (same_upd hF)⟩
  | own d =>
    obtain ⟨a, x, e, h1, h2, h3, h4, h5⟩ := h
    have ne : a ≠ p := ne_of_none h1 hp
    exact ⟨a, x, e, by rw [upd_ne ne]; exact h1, by rw [upd_ne ne]; exact h2, h3, h4, h5.mono (same_upd hF)⟩
/-- a new object that never changes -/
theorem Ok.alloc (k : Ok g n F H σ ρ) {p : Addr} (o : HO) (hp : H p = none) : Ok g n (upd F p o) (upd H p o) σ ρ where
  keep := fun b x e n => by rw [upd_ne (ne_of_none (k.keep b x e n) hp)]; exact k.keep b x e n
  sub := Same.updBoth k.sub
  ffp := fun b q => by
    have ne : b ≠ p := fun z => by subst z; exact k.nofp hp q
    rw [upd_ne ne]; exact k.ffp b q
  new := fun b q n => by
    have ne : b ≠ p := fun z => by subst z; exact q (k.freeH0 hp)
    rw [upd_ne ne]; exact k.new b q n
  dk := k.dk.keep fun b q => by
    have ne : b ≠ p := fun z => by subst z; exact k.nofp hp q
    rw [upd_ne ne]
  pin := fun b x q => by
    obtain ⟨h1, h2, h3⟩ := k.pin b x q
    have ne : b ≠ p := ne_of_none h1 hp
    rw [upd_ne ne, upd_ne ne]; exact ⟨h1, h2, h3⟩
  len := k.len
  cells := fun i c e => (k.cells i c e).alloc hp (k.freeF hp)
  disj := k.disj
theorem Ok.sameF (k : Ok g n F H σ ρ) {p : Addr} (o : HO) (hp : H p = none) : Same F (upd F p o) := same_upd (k.freeF hp)
/-- a new object that is not frozen yet -/
theorem Ok.allocH (k : Ok g n F H σ ρ) {p : Addr} (o : HO) (hp : H p = none) : Ok g n F (upd H p o) σ ρ where
  keep := fun b x e n => by rw [upd_ne (ne_of_none (k.keep b x e n) hp)]; exact k.keep b x e n
  sub := fun b x e => by rw [upd_ne (ne_of_none (k.sub b x e) hp)]; exact k.sub b x e
  ffp := k.ffp
  new := k.new
  dk := k.dk.keep fun b q => by
    have ne : b ≠ p := fun z => by subst z; exact k.nofp hp q
    rw [upd_ne ne]
  pin := fun b x q => by
    obtain ⟨h1, h2, h3⟩ := k.pin b x q
    rw [upd_ne (ne_of_none h1 hp)]; exact ⟨h1, h2, h3⟩
  len := k.len
  cells := fun i c e => by
    have h := k.cells i c e
    cases c with
    | any => trivial
    | sh d => exact h
    | own d =>
      obtain ⟨a, x, e, h1, h2, h3, h4, h5⟩ := h
      exact ⟨a, x, e, by rw [upd_ne (ne_of_none h1 hp)]; exact h1, h2, h3, h4, h5⟩
  disj := k.disj
theorem getD_set {α : Type} {l : List α} {i j : Nat} {a b : α} (h : (l.set i a)[j]? = some b) : (i = j ∧ b = a) ∨ (i ≠ j ∧ l[j]? = some b) := by
  rw [List.getElem?_set] at h
  by_cases e : i = j
  · subst e
    rw [if_pos rfl] at h
    split at h
    · exact .inl ⟨rfl, (Option.some.inj h).symm⟩
    · cases h
  · rw [if_neg e] at h
    exact .inr ⟨e, h⟩
theorem set_same {α : Type} {l : List α} {i : Nat} {a : α} (h : i < l.length) : (l.set i a)[i]? = some a := by
  rw [List.getElem?_set, if_pos rfl, if_pos h]
theorem lt_of_get {α : Type} {l : List α} {i : Nat} {a : α} (h : l[i]? = some a) : i < l.length := by
  obtain ⟨h, _⟩ := List.getElem?_eq_some_iff.mp h
  exact h
theorem lt_of_set {α : Type} {l : List α} {i j : Nat} {a b : α} (h : (l.set i a)[j]? = some b) : j < l.length := by
  have := lt_of_get h
  rwa [List.length_set] at this
/-- a name gets shared data -/
theorem Ok.set (k : Ok g n F H σ ρ) (i : Nat) {v : V} {d : D} (r : Rep g.c F v d) : Ok g n F H (σ.set i (some v)) (ρ.set i (.sh d)) where
  keep := k.keep
  sub := k.sub
  ffp := k.ffp
  new := k.new
  dk := k.dk
  pin := k.pin
  len := by rw [List.length_set, List.length_set]; exact k.len
  cells := fun j c e => by
    rcases getD_set e with ⟨rfl, rfl⟩ | ⟨ne, e'⟩
    · exact ⟨v, set_same (by rw [k.len]; exact lt_of_set e), r⟩
    · have h := k.cells j c e'
      have es : (σ.set i (some v))[j]? = σ[j]? := by rw [List.getElem?_set, if_neg ne]
      rw [es]
      exact h
  disj := fun a b d' e' o h1 h2 h3 h4 => by
    rcases getD_set h1 with ⟨_, z⟩ | ⟨n1, h1⟩
    · cases z
    · rcases getD_set h2 with ⟨_, z⟩ | ⟨n2, h2⟩
      · cases z
      · rw [List.getElem?_set, if_neg n1] at h3
        rw [List.getElem?_set, if_neg n2] at h4
        exact k.disj a b d' e' o h1 h2 h3 h4
/-- a name gets a container of one's own -/
theorem Ok.setOwn (k : Ok g n F H σ ρ) (i : Nat) {a : Addr} {x : HO} {d : D} (hH : H a = some x) (hF : F a = none) (h0 : g.H0 a = none) (hf : ¬ g.c.fp a ∧ g.pin a = none) (hc : Cont g.c F x d)
    (hn : ∀ (j : Nat) (e : D), ρ[j]? = some (.own e) → j ≠ i → σ[j]? ≠ some (some (.ref a))) : Ok g n F H (σ.set i (some (.ref a))) (ρ.set i (.own d)) where
  keep := k.keep
  sub := k.sub
  ffp := k.ffp
  new := k.new
  dk := k.dk
  pin := k.pin
  len := by rw [List.length_set, List.length_set]; exact k.len
  cells := fun j c e => by
    rcases getD_set e with ⟨rfl, rfl⟩ | ⟨ne, e'⟩
    · exact ⟨a, x, set_same (by rw [k.len]; exact lt_of_set e), hH, hF, h0, hf, hc⟩
    · have h := k.cells j c e'
      have es : (σ.set i (some (.ref a)))[j]? = σ[j]? := by rw [List.getElem?_set, if_neg ne]
      rw [es]
      exact h
  disj := fun p q d' e' o h1 h2 h3 h4 => by
    rcases getD_set h1 with ⟨r1, z⟩ | ⟨n1, h1⟩
    · rcases getD_set h2 with ⟨r2, z⟩ | ⟨n2, h2⟩
      · rw [← r1, ← r2]
      · exfalso
        subst r1
        have l1 : i < σ.length := lt_of_set h3
        rw [set_same l1] at h3
        cases h3
        rw [List.getElem?_set, if_neg n2] at h4
        exact hn q e' h2 (Ne.symm n2) h4
    · rcases getD_set h2 with ⟨r2, z⟩ | ⟨n2, h2⟩
      · exfalso
        subst r2
        have l1 : i < σ.length := lt_of_set h4
        rw [set_same l1] at h4
        cases h4
        rw [List.getElem?_set, if_neg n1] at h3
        exact hn p d' h1 (Ne.symm n1) h3
      · rw [List.getElem?_set, if_neg n1] at h3
        rw [List.getElem?_set, if_neg n2] at h4
        exact k.disj p q d' e' o h1 h2 h3 h4
/-- a container of one's own changes -/
theorem Ok.write (k : Ok g n F H σ ρ) {i : Nat} {a : Addr} {x' : HO} {d d' : D} (hi : ρ[i]? = some (.own d)) (hs : σ[i]? = some (some (.ref a))) (hc : Cont g.c F x' d') : Ok g n F (upd H a x') σ (ρ.set i (.own d')) := by
  obtain ⟨a', x, e, h1, h2, h3, h4, h5⟩ := k.cells i _ hi
  rw [hs] at e
  cases e
  refine ⟨fun b y e n => ?_, fun b y e => ?_, k.ffp, k.new, k.dk.keep fun b q => ?_, fun b x q => ?_, by rw [List.length_set]; exact k.len, fun j c e => ?_, fun p q d1 e1 o h1' h2' h3' h4' => ?_⟩
  · have ne : b ≠ a := fun z => by subst z; rw [h3] at e; cases e
    rw [upd_ne ne]; exact k.keep b y e n
  · have ne : b ≠ a := fun z => by subst z; rw [h2] at e; cases e
    rw [upd_ne ne]; exact k.sub b y e
  · have ne : b ≠ a := fun z => by subst z; exact h4.1 q
    rw [upd_ne ne]
  · obtain ⟨p1, p2, p3⟩ := k.pin b x q
    have ne : b ≠ a := fun z => by subst z; rw [h4.2] at q; cases q
    rw [upd_ne ne]; exact ⟨p1, p2, p3⟩
  · rcases getD_set e with ⟨rfl, rfl⟩ | ⟨ne, e'⟩
    · exact ⟨a, x', hs, upd_same, h2, h3, h4, hc⟩
    · have h := k.cells j c e'
      cases c with
      | any => trivial
      | sh d => exact h
      | own d =>
        obtain ⟨b, y, q1, q2, q3, q4, q5, q6⟩ := h
        have nb : b ≠ a := fun z => by
          subst z
          exact ne (k.disj i j _ _ b hi e' hs q1)
        exact ⟨b, y, q1, by rw [upd_ne nb]; exact q2, q3, q4, q5, q6⟩
  · have back : ∀ {p : Nat} {d1 : D}, (ρ.set i (.own d'))[p]? = some (.own d1) → ∃ d2, ρ[p]? = some (.own d2) := fun {p d1} h => by
      rcases getD_set h with ⟨rfl, _⟩ | ⟨_, h⟩
      · exact ⟨_, hi⟩
      · exact ⟨_, h⟩
    obtain ⟨d2, g1⟩ := back h1'
    obtain ⟨d3, g2⟩ := back h2'
    exact k.disj p q d2 d3 o g1 g2 h3' h4'
/-- a container of one's own is changed no more -/
theorem Ok.freeze (k : Ok g n F H σ ρ) {i : Nat} {d : D} (hi : ρ[i]? = some (.own d)) : ∃ F', Same F F' ∧ Ok g n F' H σ (ρ.set i (.sh d)) := by
  obtain ⟨a, x, e, h1, h2, h3, h4, h5⟩ := k.cells i _ hi
  refine ⟨upd F a x, same_upd h2, k.keep, fun b y q => ?_, fun b q => ?_, fun b q n => ?_, k.dk, fun b y q => ?_, by rw [List.length_set]; exact k.len, fun j c ej => ?_, fun p q d1 e1 o h1' h2' h3' h4' => ?_⟩
  · by_cases hb : b = a
    · subst hb; rw [upd_same] at q; cases q; exact h1
    · rw [upd_ne hb] at q; exact k.sub b y q
  · have ne : b ≠ a := fun z => by subst z; exact h4.1 q
    rw [upd_ne ne]; exact k.ffp b q
  · have ne : b ≠ a := fun z => by subst z; exact q h3
    rw [upd_ne ne]; exact k.new b q n
  · obtain ⟨p1, p2, p3⟩ := k.pin b y q
    have ne : b ≠ a := fun z => by subst z; rw [h4.2] at q; cases q
    rw [upd_ne ne]; exact ⟨p1, p2, p3⟩
  · rcases getD_set ej with ⟨rfl, rfl⟩ | ⟨ne, e'⟩
    · exact ⟨_, e, (h5.mono (same_upd h2)).rep upd_same⟩
    · have h := k.cells j c e'
      cases c with
      | any => trivial
      | sh d =>
        obtain ⟨v, q1, q2⟩ := h
        exact ⟨v, q1, q2.mono (same_upd h2)⟩
      | own d' =>
        obtain ⟨b, y, q1, q2, q3, q4, q5, q6⟩ := h
        have nb : b ≠ a := fun z => by
          subst z
          exact ne (k.disj i j _ _ b hi e' e q1)
        exact ⟨b, y, q1, q2, by rw [upd_ne nb]; exact q3, q4, q5, q6.mono (same_upd h2)⟩
  · have back : ∀ {p : Nat} {d1 : D}, (ρ.set i (.sh d))[p]? = some (.own d1) → ρ[p]? = some (.own d1) := fun {p d1} h => by
      rcases getD_set h with ⟨_, z⟩ | ⟨_, h⟩
      · cases z
      · exact h
    exact k.disj p q d1 e1 o (back h1') (back h2') h3' h4'
/-- of a name nothing is known any more -/
theorem Ok.forget (k : Ok g n F H σ ρ) (i : Nat) (ov : Option V) : Ok g n F H (σ.set i ov) (ρ.set i .any) where
  keep := k.keep
  sub := k.sub
  ffp := k.ffp
  new := k.new
  dk := k.dk
  pin := k.pin
  len := by rw [List.length_set, List.length_set]; exact k.len
  cells := fun j c e => by
    rcases getD_set e with ⟨rfl, rfl⟩ | ⟨ne, e'⟩
    · trivial
    · have h := k.cells j c e'
      have es : (σ.set i ov)[j]? = σ[j]? := by rw [List.getElem?_set, if_neg ne]
      rw [es]
      exact h
  disj := fun a b d' e' o h1 h2 h3 h4 => by
    rcases getD_set h1 with ⟨_, z⟩ | ⟨n1, h1⟩
    · cases z
    · rcases getD_set h2 with ⟨_, z⟩ | ⟨n2, h2⟩
      · cases z
      · rw [List.getElem?_set, if_neg n1] at h3
        rw [List.getElem?_set, if_neg n2] at h4
        exact k.disj a b d' e' o h1 h2 h3 h4
end
end PL

/-! PL: lifted readings, expressions. -/
namespace PL
open PySem PySem.Spec L2

/-! ### weakening -/
theorem _root_.L2.PE.imp {X : Cx} {e : Expr} {t t' : TE} (h : PE X e t) (w : ∀ σ H Q, t' σ H Q → t σ H Q) : PE X e t' := ⟨fun pins s σ H Q I q => h.run pins s σ H Q I (w σ H Q q)⟩
theorem _root_.L2.PT.imp {X : Cx} {e : Expr} {t t' : TT} (h : PT X e t) (w : ∀ σ H Q, t' σ H Q → t σ H Q) : PT X e t' := ⟨fun pins s σ H Q I q => h.run pins s σ H Q I (w σ H Q q)⟩
theorem _root_.L2.PW.imp {X : Cx} {e : Expr} {t t' : TT} (h : PW X e t) (w : ∀ σ H Q, t' σ H Q → t σ H Q) : PW X e t' := ⟨fun wh pins s σ H Q I q => h.run wh pins s σ H Q I (w σ H Q q)⟩
theorem _root_.L2.PA.imp {X : Cx} {e : List Expr} {t t' : TA} (h : PA X e t) (w : ∀ σ H Q, t' σ H Q → t σ H Q) : PA X e t' := ⟨fun pos pins s σ H Q I q => h.run pos pins s σ H Q I (w σ H Q q)⟩
theorem _root_.L2.PS.imp {X : Cx} {e : Stmt} {t t' : TS} (h : PS X e t) (w : ∀ D σ H, t' D σ H → t D σ H) : PS X e t' := ⟨fun pins s σ H Q I q => h.run pins s σ H Q I (w Q σ H q)⟩
theorem _root_.L2.PSs.imp {X : Cx} {e : List Stmt} {t t' : TS} (h : PSs X e t) (w : ∀ D σ H, t' D σ H → t D σ H) : PSs X e t' := ⟨fun pins s σ H Q I q => h.run pins s σ H Q I (w Q σ H q)⟩
theorem _root_.L2.PG.imp {X : Cx} {e : Expr} {t t' : TG} (h : PG X e t) (w : ∀ v σ H Q, t' v σ H Q → t v σ H Q) : PG X e t' := ⟨fun pins s σ H v u Q I r q => h.run pins s σ H v u Q I r (w v σ H Q q)⟩
theorem _root_.L2.PGs.imp {X : Cx} {e : List Expr} {t t' : TGs} (h : PGs X e t) (w : ∀ v σ H Q, t' v σ H Q → t v σ H Q) : PGs X e t' := ⟨fun pins s σ H v u Q I r q => h.run pins s σ H v u Q I r (w v σ H Q q)⟩
theorem _root_.L2.PI.imp {X : Cx} {tg e : Expr} {t t' : TI} (h : PI X tg e t) (w : ∀ σ H R, t' σ H R → t σ H R) : PI X tg e t' := ⟨fun pins s σ H Q I q => h.run pins s σ H Q I (w σ H Q q)⟩
theorem _root_.L2.PTs.imp {X : Cx} {e : List Expr} {t t' : TT} (h : PTs X e t) (w : ∀ σ H Q, t' σ H Q → t σ H Q) : PTs X e t' := ⟨fun pins s σ H Q I q => h.run pins s σ H Q I (w σ H Q q)⟩

/-! ### pure readings: the cells, the count of draws, what is wanted -/
abbrev PEnv := List Cell
abbrev TPE := PEnv → Nat → (D → Nat → Prop) → Prop
abbrev TPT := PEnv → Nat → (Bool → Nat → Prop) → Prop
abbrev TPA := PEnv → Nat → (List D → Nat → Prop) → Prop
structure Post where
  nx : PEnv → Nat → Prop
  rt : D → Nat → Prop
  bk : PEnv → Nat → Prop := fun _ _ => False
  ct : PEnv → Nat → Prop := fun _ _ => False
abbrev TPS := Post → PEnv → Nat → Prop

/-- what may be read: shared data, or a container of one's own -/
def RR (g : G) (F : Hp) (σ : L2.St) (ρ : PEnv) (x : V) (d : D) : Prop := Rep g.c F x d ∨ ∃ i : Nat, ρ[i]? = some (.own d) ∧ σ[i]? = some (some x)
theorem RR.mono {g : G} {F F' : Hp} {σ : L2.St} {ρ : PEnv} {x : V} {d : D} (s : Same F F') (h : RR g F σ ρ x d) : RR g F' σ ρ x d := h.elim (fun r => .inl (r.mono s)) .inr

def LE (g : G) (p : TPE) : TE := fun σ H Q => ∃ n F ρ R, Ok g n F H σ ρ ∧ p ρ n R ∧ ∀ n' F' H' v d, Same F F' → Ok g n' F' H' σ ρ → Rep g.c F' v d → R d n' → Q v H'
def LQ (g : G) (p : TPE) : TE := fun σ H Q => ∃ n F ρ R, Ok g n F H σ ρ ∧ p ρ n R ∧ ∀ n' F' H' v d, Same F F' → Ok g n' F' H' σ ρ → RR g F' σ ρ v d → R d n' → Q v H'
/-- a new container at a -/
def LF (g : G) (p : TPE) : TE := fun σ H Q => ∃ n F ρ R, Ok g n F H σ ρ ∧ p ρ n R ∧ ∀ n' F' H' a x d, Same F F' → Ok g n' F' H' σ ρ → H' a = none → Cont g.c F' x d → R d n' → Q (.ref a) (upd H' a x)
def LT (g : G) (p : TPT) : TT := fun σ H Q => ∃ n F ρ R, Ok g n F H σ ρ ∧ p ρ n R ∧ ∀ n' F' H' b, Same F F' → Ok g n' F' H' σ ρ → R b n' → Q b H'
def LA (g : G) (p : TPA) : TA := fun σ H Q => ∃ n F ρ R, Ok g n F H σ ρ ∧ p ρ n R ∧ ∀ n' F' H' vs ds, Same F F' → Ok g n' F' H' σ ρ → Reps g.c F' vs ds → R ds n' → Q vs H'
inductive RRs (g : G) (F : Hp) (σ : L2.St) (ρ : PEnv) : List V → List D → Prop
  | nil : RRs g F σ ρ [] []
  | cons {v : V} {vs : List V} {d : D} {ds : List D} : RR g F σ ρ v d → RRs g F σ ρ vs ds → RRs g F σ ρ (v :: vs) (d :: ds)
theorem RRs.mono {g : G} {F F' : Hp} {σ : L2.St} {ρ : PEnv} (s : Same F F') : ∀ {x : List V} {d : List D}, RRs g F σ ρ x d → RRs g F' σ ρ x d
  | _, _, .nil => .nil
  | _, _, .cons h t => .cons (h.mono s) (RRs.mono s t)
def LB (g : G) (p : TPA) : TA := fun σ H Q => ∃ n F ρ R, Ok g n F H σ ρ ∧ p ρ n R ∧ ∀ n' F' H' vs ds, Same F F' → Ok g n' F' H' σ ρ → RRs g F' σ ρ vs ds → R ds n' → Q vs H'

def DE (X : Cx) (e : Expr) (p : TPE) : Prop := ∀ g : G, g.c.K = X.K → PE X e (LE g p)
def SE (X : Cx) (e : Expr) (p : TPE) : Prop := ∀ g : G, g.c.K = X.K → PE X e (LQ g p)
def FE (X : Cx) (e : Expr) (p : TPE) : Prop := ∀ g : G, g.c.K = X.K → PE X e (LF g p)
def DT (X : Cx) (e : Expr) (p : TPT) : Prop := ∀ g : G, g.c.K = X.K → PT X e (LT g p)
def DW (X : Cx) (e : Expr) (p : TPT) : Prop := ∀ g : G, g.c.K = X.K → PW X e (LT g p)
def DA (X : Cx) (e : List Expr) (p : TPA) : Prop := ∀ g : G, g.c.K = X.K → PA X e (LA g p)
def SA (X : Cx) (e : List Expr) (p : TPA) : Prop := ∀ g : G, g.c.K = X.K → PA X e (LB g p)

section
variable {X : Cx} {e a b : Expr} {p pa pb : TPE}
theorem SE.of (h : DE X e p) : SE X e p := fun g hK => (h g hK).imp fun σ H Q ⟨n, F, ρ, R, ok, hp, k⟩ => ⟨n, F, ρ, R, ok, hp, fun n' F' H' v d s ok' r => k n' F' H' v d s ok' (.inl r)⟩
/-- a new container, frozen at once -/
theorem DE.of (h : FE X e p) : DE X e p := fun g hK => (h g hK).imp fun σ H Q ⟨n, F, ρ, R, ok, hp, k⟩ => ⟨n, F, ρ, R, ok, hp, fun n' F' H' a x d s ok' hn hc hR =>
  k n' (upd F' a x) (upd H' a x) _ d (s.trans (ok'.sameF x hn)) (ok'.alloc x hn) ((hc.mono (ok'.sameF x hn)).rep upd_same) hR⟩

/-! ### names and constants -/
def pVar (i : Nat) : TPE := fun ρ n R => match ρ[i]? with | some (.sh d) => R d n | _ => False
def pRd (i : Nat) : TPE := fun ρ n R => match ρ[i]? with | some (.sh d) => R d n | some (.own d) => R d n | _ => False
def pC (d : D) : TPE := fun _ n R => R d n
theorem de_var {i : Nat} (h : PE X e (tVar i)) : DE X e (pVar i) := fun g hK => h.imp fun σ H Q ⟨n, F, ρ, R, ok, hp, k⟩ => by
  have hp : pVar i ρ n R := hp
  unfold pVar at hp
  split at hp
  · rename_i d hd
    obtain ⟨v, e, r⟩ := ok.cells i _ hd
    exact ⟨v, e, k n F H v d (Same.refl F) ok r hp⟩
  · exact hp.elim
theorem se_var {i : Nat} (h : PE X e (tVar i)) : SE X e (pRd i) := fun g hK => h.imp fun σ H Q ⟨n, F, ρ, R, ok, hp, k⟩ => by
  have hp : pRd i ρ n R := hp
  unfold pRd at hp
  split at hp
  · rename_i d hd
    obtain ⟨v, e, r⟩ := ok.cells i _ hd
    exact ⟨v, e, k n F H v d (Same.refl F) ok (.inl r) hp⟩
  · rename_i d hd
    obtain ⟨a, x, e, _⟩ := ok.cells i _ hd
    exact ⟨.ref a, e, k n F H _ d (Same.refl F) ok (.inr ⟨i, hd, e⟩) hp⟩
  · exact hp.elim
theorem de_tC {v : V} {d : D} (h : PE X e (tC v)) (r : ∀ c F, Rep c F v d) : DE X e (pC d) := fun g hK => h.imp fun σ H Q ⟨n, F, ρ, R, ok, hp, k⟩ => k n F H v d (Same.refl F) ok (r _ _) hp
theorem de_int {i j pos} : DE X (.Constant (.int i) j pos) (pC (.int i)) := de_tC pe_int fun _ _ => .int i
theorem de_bl {b j pos} : DE X (.Constant (.bool b) j pos) (pC (.bl b)) := de_tC pe_bl fun _ _ => .bl b
theorem de_non {j pos} : DE X (.Constant .none j pos) (pC .non) := de_tC pe_non fun _ _ => .non
theorem de_str {x j pos} : DE X (.Constant (.str x) j pos) (pC (.str x)) := de_tC pe_str fun _ _ => .str x
theorem de_gint {x : Str} {i : Int} {t : Tok} {pos : Pos} (hg : Gl X x) (hm : X.mg x = some (.int i t)) (hd : (x == ("__debug__" : Str)) = false := by decide) : DE X (.Name x pos) (pC (.int i)) := de_tC (pe_glob (v := .int i) hg hm ⟨t, rfl⟩ hd) fun _ _ => .int i
theorem de_gstr {x : Str} {i : Str} {t : Tok} {pos : Pos} (hg : Gl X x) (hm : X.mg x = some (.str i t)) (hd : (x == ("__debug__" : Str)) = false := by decide) : DE X (.Name x pos) (pC (.str i)) := de_tC (pe_glob (v := .str i) hg hm ⟨t, rfl⟩ hd) fun _ _ => .str i

/-! ### operators -/
/-- a pure operator -/
abbrev O2 := D → D → (D → Prop) → Prop
def OpP (K : PySem.W.Frag) (r : R2) (o : O2) : Prop := ∀ (g : G) (n : Nat) (F H : Hp) (σ : L2.St) (ρ : PEnv) (x y : V) (d e : D) (R : D → Prop) (Q : VK), g.c.K = K → Ok g n F H σ ρ → RR g F σ ρ x d → RR g F σ ρ y e → o d e R →
  (∀ F' H' v z, Same F F' → Ok g n F' H' σ ρ → Rep g.c F' v z → R z → Q v H') → r x y H Q
def pBin (o : O2) (a b : TPE) : TPE := fun ρ n R => a ρ n fun d n1 => b ρ n1 fun e n2 => o d e fun z => R z n2
theorem LQ.two {g : G} {r : R2} {o : O2} (hp : OpP g.c.K r o) {σ : L2.St} {H : Hp} {Q : VK} (h : LE g (pBin o pa pb) σ H Q) : tOp r (LQ g pa) (LQ g pb) σ H Q := by
  obtain ⟨n, F, ρ, R, ok, hq, k⟩ := h
  refine ⟨n, F, ρ, _, ok, hq, fun n1 F1 H1 x d s1 ok1 r1 h1 => ⟨n1, F1, ρ, _, ok1, h1, fun n2 F2 H2 y e s2 ok2 r2 h2 => ?_⟩⟩
  exact hp g n2 F2 H2 σ ρ x y d e _ Q rfl ok2 (r1.mono s2) r2 h2 fun F3 H3 v z s3 ok3 r3 h3 => k n2 F3 H3 v z (s1.trans (s2.trans s3)) ok3 r3 h3
theorem de_bin {op : Operator} {r : R2} {o : O2} {pos : Pos} (ho : OpR X (binaryOp op) r) (hp : OpP X.K r o) (ha : SE X a pa) (hb : SE X b pb) : DE X (.BinOp a op b pos) (pBin o pa pb) := fun g hK =>
  (pe_op ho (ha g hK) (hb g hK)).imp fun σ H Q h => LQ.two (by rw [hK]; exact hp) h
theorem de_cmp {op : CmpOp} {r : R2} {o : O2} {pos : Pos} (ho : OpR X (compareOp op) r) (hp : OpP X.K r o) (ha : SE X a pa) (hb : SE X b pb) (hm : behindInMarks op b = false) : DE X (.Compare a [op] [b] pos) (pBin o pa pb) := fun g hK =>
  (pe_cmpR ho (ha g hK) (hb g hK) hm).imp fun σ H Q h => LQ.two (by rw [hK]; exact hp) h
theorem de_ix {r : R2} {o : O2} {pos : Pos} (ho : IxR X r) (hp : OpP X.K r o) (ha : SE X a pa) (hb : SE X b pb) (hs : PlainIx b) : DE X (.Subscript a b pos) (pBin o pa pb) := fun g hK =>
  (pe_ix ho (ha g hK) (hb g hK) hs).imp fun σ H Q h => LQ.two (by rw [hK]; exact hp) h
theorem OpP.or {K : PySem.W.Frag} {r r' : R2} {o o' : O2} (h : OpP K r o) (h' : OpP K r' o') : OpP K (fun x y H Q => r x y H Q ∨ r' x y H Q) (fun d e R => o d e R ∨ o' d e R) := fun g n F H σ ρ x y d e R Q hK ok r1 r2 q k =>
  q.elim (fun q => .inl (h g n F H σ ρ x y d e R Q hK ok r1 r2 q k)) fun q => .inr (h' g n F H σ ρ x y d e R Q hK ok r1 r2 q k)
theorem OpP.imp {K : PySem.W.Frag} {r : R2} {o o' : O2} (h : OpP K r o) (w : ∀ d e R, o' d e R → o d e R) : OpP K r o' := fun g n F H σ ρ x y d e R Q hK ok r1 r2 q k => h g n F H σ ρ x y d e R Q hK ok r1 r2 (w d e R q) k

/-- from what is read: scalars -/
theorem RR.int {g : G} {F : Hp} {σ : L2.St} {ρ : PEnv} {x : V} {i : Int} {n : Nat} {H : Hp} (ok : Ok g n F H σ ρ) (h : RR g F σ ρ x (.int i)) : x = .int i := by
  rcases h with h | ⟨j, h, _⟩
  · cases h; rfl
  · obtain ⟨a, o, _, _, _, _, _, z⟩ := ok.cells j _ h
    cases z
theorem RR.str {g : G} {F : Hp} {σ : L2.St} {ρ : PEnv} {x : V} {i : Str} {n : Nat} {H : Hp} (ok : Ok g n F H σ ρ) (h : RR g F σ ρ x (.str i)) : x = .str i := by
  rcases h with h | ⟨j, h, _⟩
  · cases h; rfl
  · obtain ⟨a, o, _, _, _, _, _, z⟩ := ok.cells j _ h
    cases z
theorem RR.bl {g : G} {F : Hp} {σ : L2.St} {ρ : PEnv} {x : V} {i : Bool} {n : Nat} {H : Hp} (ok : Ok g n F H σ ρ) (h : RR g F σ ρ x (.bl i)) : x = .bl i := by
  rcases h with h | ⟨j, h, _⟩
  · cases h; rfl
  · obtain ⟨a, o, _, _, _, _, _, z⟩ := ok.cells j _ h
    cases z
theorem RR.non {g : G} {F : Hp} {σ : L2.St} {ρ : PEnv} {x : V} {n : Nat} {H : Hp} (ok : Ok g n F H σ ρ) (h : RR g F σ ρ x .non) : x = .non := by
  rcases h with h | ⟨j, h, _⟩
  · cases h; rfl
  · obtain ⟨a, o, _, _, _, _, _, z⟩ := ok.cells j _ h
    cases z
theorem RR.lst {g : G} {F : Hp} {σ : L2.St} {ρ : PEnv} {x : V} {ds : List D} {n : Nat} {H : Hp} (ok : Ok g n F H σ ρ) (h : RR g F σ ρ x (.lst ds)) : ∃ a xs, x = .ref a ∧ H a = some (.lst xs) ∧ Reps g.c F xs ds := by
  rcases h with h | ⟨j, h, e⟩
  · cases h with
    | lst h r => exact ⟨_, _, rfl, ok.sub _ _ h, r⟩
  · obtain ⟨a, o, e', h1, _, _, _, z⟩ := ok.cells j _ h
    rw [e] at e'
    cases e'
    cases z with
    | lst r => exact ⟨_, _, rfl, h1, r⟩
theorem RR.tup {g : G} {F : Hp} {σ : L2.St} {ρ : PEnv} {x : V} {ds : List D} {n : Nat} {H : Hp} (ok : Ok g n F H σ ρ) (h : RR g F σ ρ x (.tup ds)) : ∃ a xs, x = .ref a ∧ SqT g.c.K H a xs ∧ Reps g.c F xs ds ∧ Rep g.c F x (.tup ds) := by
  rcases h with h | ⟨j, h, _⟩
  · cases h with
    | tup h r => exact ⟨_, _, rfl, Same.seqT ok.sub h, r, .tup h r⟩
  · obtain ⟨a, o, _, _, _, _, _, z⟩ := ok.cells j _ h
    cases z
theorem RR.dic {g : G} {F : Hp} {σ : L2.St} {ρ : PEnv} {x : V} {ks : List Key} {ds : List D} {n : Nat} {H : Hp} (ok : Ok g n F H σ ρ) (h : RR g F σ ρ x (.dic ks ds)) : ∃ a xs, x = .ref a ∧ H a = some (.dK (ks.zip xs)) ∧ ks.length = xs.length ∧ Reps g.c F xs ds := by
  rcases h with h | ⟨j, h, e⟩
  · cases h with
    | dic h l r => exact ⟨_, _, rfl, ok.sub _ _ h, l, r⟩
  · obtain ⟨a, o, e', h1, _, _, _, z⟩ := ok.cells j _ h
    rw [e] at e'
    cases e'
    cases z with
    | dic l r => exact ⟨_, _, rfl, h1, l, r⟩
theorem RR.dit {g : G} {F : Hp} {σ : L2.St} {ρ : PEnv} {x : V} {ks : List (List Key)} {ds : List D} {n : Nat} {H : Hp} (ok : Ok g n F H σ ρ) (h : RR g F σ ρ x (.dit ks ds)) : ∃ a xs, x = .ref a ∧ H a = some (.dT (ks.zip xs)) ∧ ks.length = xs.length ∧ Reps g.c F xs ds := by
  rcases h with h | ⟨j, h, e⟩
  · cases h with
    | dit h l r => exact ⟨_, _, rfl, ok.sub _ _ h, l, r⟩
  · obtain ⟨a, o, e', h1, _, _, _, z⟩ := ok.cells j _ h
    rw [e] at e'
    cases e'
    cases z with
    | dit l r => exact ⟨_, _, rfl, h1, l, r⟩

/-- an operator on two ints -/
def oI (f : Int → Int → (D → Prop) → Prop) : O2 := fun d e R => match d, e with | .int i, .int j => f i j R | _, _ => False
theorem op_rI {K : PySem.W.Frag} {C : Int → Int → Prop} {z : Int → Int → V} {zd : Int → Int → D} (hz : ∀ c F i j, Rep c F (z i j) (zd i j)) : OpP K (rI C z) (oI fun i j R => C i j ∧ R (zd i j)) := fun g n F H σ ρ x y d e R Q hK ok r1 r2 q k => by
  have q : oI (fun i j R => C i j ∧ R (zd i j)) d e R := q
  unfold oI at q
  split at q
  · exact ⟨_, _, r1.int ok, r2.int ok, q.1, k F H _ _ (Same.refl F) ok (hz _ _ _ _) q.2⟩
  · exact q.elim
theorem op_rI0 {K : PySem.W.Frag} {z : Int → Int → V} {zd : Int → Int → D} (hz : ∀ c F i j, Rep c F (z i j) (zd i j)) : OpP K (rI0 z) (oI fun i j R => R (zd i j)) := fun g n F H σ ρ x y d e R Q hK ok r1 r2 q k => by
  have q : oI (fun i j R => R (zd i j)) d e R := q
  unfold oI at q
  split at q
  · exact ⟨_, _, r1.int ok, r2.int ok, k F H _ _ (Same.refl F) ok (hz _ _ _ _) q⟩
  · exact q.elim

/-- + -/
def oAdd : O2 := fun d e R => match d, e with
  | .int i, .int j => R (.int (i + j))
  | .str s, .str t => s.length + t.length ≤ sizeLine ∧ R (.str (s ++ t))
  | .lst ds, .lst es => ds.length + es.length ≤ sizeLine ∧ R (.lst (ds ++ es))
  | .tup ds, .tup es => ds.length + es.length ≤ sizeLine ∧ R (.tup (ds ++ es))
  | _, _ => False
theorem de_add {pos : Pos} (ha : SE X a pa) (hb : SE X b pb) : DE X (.BinOp a .Add b pos) (pBin oAdd pa pb) := by
  refine de_bin (op_add.or (op_add_str.or (op_cat.or op_catA))) (fun g n F H σ ρ x y d e R Q hK ok r1 r2 q k => ?_) ha hb
  have q : oAdd d e R := q
  unfold oAdd at q
  split at q
  · exact .inl ⟨_, _, r1.int ok, r2.int ok, k F H _ _ (Same.refl F) ok (.int _) q⟩
  · exact .inr (.inl ⟨_, _, r1.str ok, r2.str ok, q.1, k F H _ _ (Same.refl F) ok (.str _) q.2⟩)
  · obtain ⟨a, xs, rfl, h1, s1⟩ := r1.lst ok
    obtain ⟨b, ys, rfl, h2, s2⟩ := r2.lst ok
    refine .inr (.inr (.inl ⟨a, b, xs, ys, rfl, rfl, h1, h2, by rw [s1.length, s2.length]; exact q.1, fun p hp => ?_⟩))
    exact k (upd F p _) _ _ _ (ok.sameF _ hp) (ok.alloc _ hp) (.lst upd_same ((s1.append s2).mono (ok.sameF _ hp))) q.2
  · obtain ⟨a, xs, rfl, h1, s1, t1⟩ := r1.tup ok
    obtain ⟨b, ys, rfl, h2, s2, t2⟩ := r2.tup ok
    rw [hK] at h1 h2
    refine .inr (.inr (.inr ⟨a, b, xs, ys, rfl, rfl, h1, h2, by rw [s1.length, s2.length]; exact q.1, fun ex => ?_, fun ex ey => ?_, fun ex ey p hp => ?_⟩))
    · subst ex
      cases s1
      exact k F H _ _ (Same.refl F) ok t2 q.2
    · subst ey
      cases s2
      rw [List.append_nil] at q
      exact k F H _ _ (Same.refl F) ok t1 q.2
    · exact k (upd F p _) _ _ _ (ok.sameF _ hp) (ok.alloc _ hp) (.tup (SqT.of upd_same) ((s1.append s2).mono (ok.sameF _ hp))) q.2
  · exact q.elim
def oSub : O2 := oI fun i j R => R (.int (i - j))
theorem de_sub {pos : Pos} (ha : SE X a pa) (hb : SE X b pb) : DE X (.BinOp a .Sub b pos) (pBin oSub pa pb) := de_bin op_sub (op_rI0 fun _ _ _ _ => .int _) ha hb
def MulOk (i j : Int) : Prop := IntMulOk i j
theorem MulOk.small {i j : Int} (h : (-(2 ^ 64) < i ∧ i < 2 ^ 64) ∨ (-(2 ^ 64) < j ∧ j < 2 ^ 64)) : MulOk i j := CMul.ok h
theorem MulOk.wide {i j : Int} {a b : Nat} (ha : i.natAbs < 2 ^ a) (hb : j.natAbs < 2 ^ b) (h0 : 0 < a := by omega) (h1 : 0 < b := by omega) (h : a + b ≤ 1000000 := by omega) : MulOk i j := CMulW.ok (wide_mul ha hb h0 h1 h)
/-- * -/
def oMul : O2 := fun d e R => match d, e with
  | .int i, .int j => MulOk i j ∧ R (.int (i * j))
  | .lst ds, .int k => -(2 ^ 63) ≤ k ∧ k < 2 ^ 63 ∧ ds.length * k.toNat ≤ sizeLine ∧ R (.lst (List.replicate k.toNat ds).flatten)
  | _, _ => False
theorem op_mulA : OpR X (binaryOp .Mult) (rI MulOk fun i j => .int (i * j)) := opI fun _ _ _ _ _ _ _ hc q => PyProof.Rows.mul_int q hc
theorem de_mul {pos : Pos} (ha : SE X a pa) (hb : SE X b pb) : DE X (.BinOp a .Mult b pos) (pBin oMul pa pb) := by
  refine de_bin (op_mulA.or op_rep) (fun g n F H σ ρ x y d e R Q hK ok r1 r2 q k => ?_) ha hb
  have q : oMul d e R := q
  unfold oMul at q
  split at q
  · exact .inl ⟨_, _, r1.int ok, r2.int ok, q.1, k F H _ _ (Same.refl F) ok (.int _) q.2⟩
  · obtain ⟨a, xs, rfl, h1, s1⟩ := r1.lst ok
    obtain ⟨q1, q2, q3, q4⟩ := q
    refine .inr ⟨a, _, xs, rfl, r2.int ok, h1, q1, q2, by rw [s1.length]; exact q3, fun p hp => ?_⟩
    exact k (upd F p _) _ _ _ (ok.sameF _ hp) (ok.alloc _ hp) (.lst upd_same ((s1.rep _).mono (ok.sameF _ hp))) q4
  · exact q.elim
def oMod : O2 := oI fun i j R => j ≠ 0 ∧ R (.int (i.fmod j))
theorem de_mod {pos : Pos} (ha : SE X a pa) (hb : SE X b pb) : DE X (.BinOp a .Mod b pos) (pBin oMod pa pb) := de_bin op_modN (op_rI fun _ _ _ _ => .int _) ha hb
def DivOk (_ j : Int) : Prop := j ≠ 0 ∧ j.natAbs.log2 < 9000
theorem op_fdivA : OpR X (binaryOp .FloorDiv) (rI DivOk fun i j => .int (i.fdiv j)) := opI fun i j _ _ _ _ _ hc q => PyProof.Rows.floordiv_int hc.1 q (.inl (PyProof.noPylong_of_log2 hc.2))
def oDiv : O2 := oI fun i j R => DivOk i j ∧ R (.int (i.fdiv j))
theorem de_fdiv {pos : Pos} (ha : SE X a pa) (hb : SE X b pb) : DE X (.BinOp a .FloorDiv b pos) (pBin oDiv pa pb) := de_bin op_fdivA (op_rI fun _ _ _ _ => .int _) ha hb
def oPow : O2 := oI fun i j R => CPow i j ∧ R (.int (i ^ j.toNat))
theorem de_pow {pos : Pos} (ha : SE X a pa) (hb : SE X b pb) : DE X (.BinOp a .Pow b pos) (pBin oPow pa pb) := de_bin op_pow (op_rI fun _ _ _ _ => .int _) ha hb
def pUn (f : Int → D) (a : TPE) : TPE := fun ρ n R => a ρ n fun d n1 => match d with | .int i => R (f i) n1 | _ => False
theorem de_neg {pos : Pos} (ha : SE X a pa) : DE X (.UnaryOp .USub a pos) (pUn (fun i => .int (-i)) pa) := fun g hK => (pe_un un_neg (ha g hK)).imp fun σ H Q ⟨n, F, ρ, R, ok, hq, k⟩ => by
  refine ⟨n, F, ρ, _, ok, hq, fun n1 F1 H1 x d s1 ok1 r1 h1 => ?_⟩
  revert h1
  cases d <;> intro h1 <;> first | exact False.elim h1 | skip
  exact ⟨_, r1.int ok1, k n1 F1 H1 _ _ s1 ok1 (.int _) h1⟩

/-! ### comparisons of ints, of texts -/
def oLt : O2 := fun d e R => match d, e with
  | .int i, .int j => R (.bl (decide (i < j)))
  | .str s, .str t => R (.bl (decide (s.cps.toList < t.cps.toList)))
  | _, _ => False
theorem opp_lt {K : PySem.W.Frag} : OpP K (fun x y H Q => rI0 (fun i j => V.bl (decide (i < j))) x y H Q ∨ ∃ i j, x = .str i ∧ y = .str j ∧ Q (.bl (decide (i.cps.toList < j.cps.toList))) H) oLt := fun g n F H σ ρ x y d e R Q hK ok r1 r2 q k => by
  have q : oLt d e R := q
  unfold oLt at q
  split at q
  · exact .inl ⟨_, _, r1.int ok, r2.int ok, k F H _ _ (Same.refl F) ok (.bl _) q⟩
  · exact .inr ⟨_, _, r1.str ok, r2.str ok, k F H _ _ (Same.refl F) ok (.bl _) q⟩
  · exact q.elim
theorem de_lt {pos : Pos} (ha : SE X a pa) (hb : SE X b pb) : DE X (.Compare a [.Lt] [b] pos) (pBin oLt pa pb) := de_cmp (op_lt.or op_lt_str) opp_lt ha hb (nomark _)
def oLe : O2 := oI fun i j R => R (.bl (decide (i ≤ j)))
theorem de_le {pos : Pos} (ha : SE X a pa) (hb : SE X b pb) : DE X (.Compare a [.LtE] [b] pos) (pBin oLe pa pb) := de_cmp op_le (op_rI0 fun _ _ _ _ => .bl _) ha hb (nomark _)
def oGt : O2 := oI fun i j R => R (.bl (decide (j < i)))
theorem de_gt {pos : Pos} (ha : SE X a pa) (hb : SE X b pb) : DE X (.Compare a [.Gt] [b] pos) (pBin oGt pa pb) := de_cmp op_gt (op_rI0 fun _ _ _ _ => .bl _) ha hb (nomark _)
def oGe : O2 := oI fun i j R => R (.bl (decide (j ≤ i)))
theorem de_ge {pos : Pos} (ha : SE X a pa) (hb : SE X b pb) : DE X (.Compare a [.GtE] [b] pos) (pBin oGe pa pb) := de_cmp op_ge (op_rI0 fun _ _ _ _ => .bl _) ha hb (nomark _)
end
end PL

/-! PL: tests, displays, subscripts, slices, built-ins, calls. -/
namespace PL
open PySem PySem.Spec L2
section
variable {X : Cx} {e a b : Expr} {es rest : List Expr} {p pa pb : TPE} {pos : Pos}

/-! ### tests -/
def pB (p : TPE) : TPT := fun ρ n R => p ρ n fun d m => match d with | .bl b => R b m | _ => False
theorem LE.bool {g : G} {σ : L2.St} {H : Hp} {Q : Bool → Hp → Prop} (h : LT g (pB p) σ H Q) : LE g p σ H fun x H1 => ∃ c, x = .bl c ∧ Q c H1 := by
  obtain ⟨n, F, ρ, R, ok, hq, k⟩ := h
  refine ⟨n, F, ρ, _, ok, hq, fun n1 F1 H1 x d s1 ok1 r1 h1 => ?_⟩
  revert h1 r1
  cases d <;> intro r1 h1 <;> first | exact False.elim h1 | skip
  cases r1
  exact ⟨_, rfl, k n1 F1 H1 _ s1 ok1 h1⟩
theorem dt_val (h : DE X e p) (he : ∀ whole, isTrue e X.env whole = (do let v ← whole; standAt e.pos; holding [v] (truthy v)) := by intro _; rfl) : DT X e (pB p) := fun g hK =>
  (pt_val (h g hK) he).imp fun σ H Q q => LE.bool q
theorem dt_cmp {op : CmpOp} {r : R2} {o : O2} (ho : OpR X (compareOp op) r) (hp : OpP X.K r o) (ha : SE X a pa) (hb : SE X b pb) (hm : behindInMarks op b = false) : DT X (.Compare a [op] [b] pos) (pB (pBin o pa pb)) := fun g hK =>
  (pt_cmpR ho (ha g hK) (hb g hK) hm).imp fun σ H Q h => LQ.two (by rw [hK]; exact hp) (LE.bool h)
theorem dt_lt (ha : SE X a pa) (hb : SE X b pb) : DT X (.Compare a [.Lt] [b] pos) (pB (pBin oLt pa pb)) := dt_cmp (op_lt.or op_lt_str) opp_lt ha hb (nomark _)
theorem dt_le (ha : SE X a pa) (hb : SE X b pb) : DT X (.Compare a [.LtE] [b] pos) (pB (pBin oLe pa pb)) := dt_cmp op_le (op_rI0 fun _ _ _ _ => .bl _) ha hb (nomark _)
theorem dt_gt (ha : SE X a pa) (hb : SE X b pb) : DT X (.Compare a [.Gt] [b] pos) (pB (pBin oGt pa pb)) := dt_cmp op_gt (op_rI0 fun _ _ _ _ => .bl _) ha hb (nomark _)
theorem dt_ge (ha : SE X a pa) (hb : SE X b pb) : DT X (.Compare a [.GtE] [b] pos) (pB (pBin oGe pa pb)) := dt_cmp op_ge (op_rI0 fun _ _ _ _ => .bl _) ha hb (nomark _)
variable {qa qb : TPT}
def pNot (q : TPT) : TPT := fun ρ n R => q ρ n fun b m => R (!b) m
theorem dt_not (h : DT X a qa) : DT X (.UnaryOp .Not a pos) (pNot qa) := fun g hK => (pt_not (h g hK)).imp fun σ H Q ⟨n, F, ρ, R, ok, hq, k⟩ => ⟨n, F, ρ, _, ok, hq, fun n1 F1 H1 b s1 ok1 h1 => k n1 F1 H1 _ s1 ok1 h1⟩
def pAnd (q r : TPT) : TPT := fun ρ n R => q ρ n fun b m => if b = true then r ρ m R else R false m
def pOr (q r : TPT) : TPT := fun ρ n R => q ρ n fun b m => if b = true then R true m else r ρ m R
theorem dw_and1 (h : DT X a qa) : DW X (.BoolOp .And [a] pos) qa := fun g hK => pw_and1 (h g hK)
theorem dw_or1 (h : DT X a qa) : DW X (.BoolOp .Or [a] pos) qa := fun g hK => pw_or1 (h g hK)
theorem dw_and (h : DT X a qa) (h2 : DW X (.BoolOp .And (b :: rest) pos) qb) : DW X (.BoolOp .And (a :: b :: rest) pos) (pAnd qa qb) := fun g hK => (pw_and (h g hK) (h2 g hK)).imp fun σ H Q ⟨n, F, ρ, R, ok, hq, k⟩ => by
  refine ⟨n, F, ρ, _, ok, hq, fun n1 F1 H1 c s1 ok1 h1 => ?_⟩
  cases c with
  | true => exact ⟨n1, F1, ρ, R, ok1, h1, fun n2 F2 H2 c2 s2 ok2 h2 => k n2 F2 H2 c2 (s1.trans s2) ok2 h2⟩
  | false => exact k n1 F1 H1 false s1 ok1 h1
theorem dw_or (h : DT X a qa) (h2 : DW X (.BoolOp .Or (b :: rest) pos) qb) : DW X (.BoolOp .Or (a :: b :: rest) pos) (pOr qa qb) := fun g hK => (pw_or (h g hK) (h2 g hK)).imp fun σ H Q ⟨n, F, ρ, R, ok, hq, k⟩ => by
  refine ⟨n, F, ρ, _, ok, hq, fun n1 F1 H1 c s1 ok1 h1 => ?_⟩
  cases c with
  | false => exact ⟨n1, F1, ρ, R, ok1, h1, fun n2 F2 H2 c2 s2 ok2 h2 => k n2 F2 H2 c2 (s1.trans s2) ok2 h2⟩
  | true => exact k n1 F1 H1 true s1 ok1 h1
theorem dt_w (h : DW X a qa) : DT X a qa := fun g hK => (h g hK).pt
/-- and, or, not as values, of bools -/
def pAndV (q r : TPE) : TPE := fun ρ n R => q ρ n fun d m => match d with | .bl b => if b = true then r ρ m R else R (.bl false) m | _ => False
def pOrV (q r : TPE) : TPE := fun ρ n R => q ρ n fun d m => match d with | .bl b => if b = true then R (.bl true) m else r ρ m R | _ => False
def pNotV (q : TPE) : TPE := fun ρ n R => q ρ n fun d m => match d with | .bl b => R (.bl (!b)) m | _ => False
theorem de_one {op} (h : DE X a pa) : DE X (.BoolOp op [a] pos) pa := fun g hK => pe_one (h g hK)
theorem de_and (h : DE X a pa) (h2 : DE X (.BoolOp .And (b :: rest) pos) pb) : DE X (.BoolOp .And (a :: b :: rest) pos) (pAndV pa pb) := fun g hK => (pe_and (h g hK) (h2 g hK)).imp fun σ H Q ⟨n, F, ρ, R, ok, hq, k⟩ => by
  refine ⟨n, F, ρ, _, ok, hq, fun n1 F1 H1 x d s1 ok1 r1 h1 => ?_⟩
  revert h1 r1
  cases d <;> intro r1 h1 <;> first | exact False.elim h1 | skip
  cases r1
  rename_i c
  refine ⟨c, rfl, ?_⟩
  cases c with
  | true => exact ⟨n1, F1, ρ, R, ok1, h1, fun n2 F2 H2 v d s2 ok2 r2 h2 => k n2 F2 H2 v d (s1.trans s2) ok2 r2 h2⟩
  | false => exact k n1 F1 H1 _ _ s1 ok1 (.bl false) h1
theorem de_or (h : DE X a pa) (h2 : DE X (.BoolOp .Or (b :: rest) pos) pb) : DE X (.BoolOp .Or (a :: b :: rest) pos) (pOrV pa pb) := fun g hK => (pe_or (h g hK) (h2 g hK)).imp fun σ H Q ⟨n, F, ρ, R, ok, hq, k⟩ => by
  refine ⟨n, F, ρ, _, ok, hq, fun n1 F1 H1 x d s1 ok1 r1 h1 => ?_⟩
  revert h1 r1
  cases d <;> intro r1 h1 <;> first | exact False.elim h1 | skip
  cases r1
  rename_i c
  refine ⟨c, rfl, ?_⟩
  cases c with
  | false => exact ⟨n1, F1, ρ, R, ok1, h1, fun n2 F2 H2 v d s2 ok2 r2 h2 => k n2 F2 H2 v d (s1.trans s2) ok2 r2 h2⟩
  | true => exact k n1 F1 H1 _ _ s1 ok1 (.bl true) h1
theorem de_not (h : DE X a pa) : DE X (.UnaryOp .Not a pos) (pNotV pa) := fun g hK => (pe_not (h g hK)).imp fun σ H Q ⟨n, F, ρ, R, ok, hq, k⟩ => by
  refine ⟨n, F, ρ, _, ok, hq, fun n1 F1 H1 x d s1 ok1 r1 h1 => ?_⟩
  revert h1 r1
  cases d <;> intro r1 h1 <;> first | exact False.elim h1 | skip
  cases r1
  exact ⟨_, rfl, k n1 F1 H1 _ _ s1 ok1 (.bl _) h1⟩
def pIf (c : TPT) (p q : TPE) : TPE := fun ρ n R => c ρ n fun b m => if b = true then p ρ m R else q ρ m R
theorem de_ife {c : Expr} (hc : DT X c qa) (ha : DE X a pa) (hb : DE X b pb) : DE X (.IfExp c a b pos) (pIf qa pa pb) := fun g hK => (pe_ifExp (hc g hK) (ha g hK) (hb g hK)).imp fun σ H Q ⟨n, F, ρ, R, ok, hq, k⟩ => by
  refine ⟨n, F, ρ, _, ok, hq, fun n1 F1 H1 c s1 ok1 h1 => ?_⟩
  cases c with
  | true => exact ⟨n1, F1, ρ, R, ok1, h1, fun n2 F2 H2 v d s2 ok2 r2 h2 => k n2 F2 H2 v d (s1.trans s2) ok2 r2 h2⟩
  | false => exact ⟨n1, F1, ρ, R, ok1, h1, fun n2 F2 H2 v d s2 ok2 r2 h2 => k n2 F2 H2 v d (s1.trans s2) ok2 r2 h2⟩

/-! ### argument lists, displays -/
variable {ta : TPA}
def pNil : TPA := fun _ n R => R [] n
def pCons (p : TPE) (t : TPA) : TPA := fun ρ n R => p ρ n fun d m => t ρ m fun ds k => R (d :: ds) k
theorem da_nil : DA X [] pNil := fun g hK => pa_nil.imp fun σ H Q ⟨n, F, ρ, R, ok, hq, k⟩ => k n F H _ _ (Same.refl F) ok .nil hq
theorem da_cons (h : DE X e p) (hr : DA X es ta) (hs : starEach (e :: es) X.env = (false, eval e X.env) :: starEach es X.env := by rfl) : DA X (e :: es) (pCons p ta) := fun g hK => (pa_cons (h g hK) (hr g hK) hs).imp fun σ H Q ⟨n, F, ρ, R, ok, hq, k⟩ =>
  ⟨n, F, ρ, _, ok, hq, fun n1 F1 H1 x d s1 ok1 r1 h1 => ⟨n1, F1, ρ, _, ok1, h1, fun n2 F2 H2 vs ds s2 ok2 r2 h2 => k n2 F2 H2 _ _ (s1.trans s2) ok2 (.cons (r1.mono s2) r2) h2⟩⟩
theorem sa_nil : SA X [] pNil := fun g hK => pa_nil.imp fun σ H Q ⟨n, F, ρ, R, ok, hq, k⟩ => k n F H _ _ (Same.refl F) ok .nil hq
theorem sa_cons (h : SE X e p) (hr : SA X es ta) (hs : starEach (e :: es) X.env = (false, eval e X.env) :: starEach es X.env := by rfl) : SA X (e :: es) (pCons p ta) := fun g hK => (pa_cons (h g hK) (hr g hK) hs).imp fun σ H Q ⟨n, F, ρ, R, ok, hq, k⟩ =>
  ⟨n, F, ρ, _, ok, hq, fun n1 F1 H1 x d s1 ok1 r1 h1 => ⟨n1, F1, ρ, _, ok1, h1, fun n2 F2 H2 vs ds s2 ok2 r2 h2 => k n2 F2 H2 _ _ (s1.trans s2) ok2 (.cons (r1.mono s2) r2) h2⟩⟩
/-- a list of constants -/
def constE : Expr → Option D
  | .Constant (.int i) _ _ => some (.int i)
  | .Constant (.str x) _ _ => some (.str x)
  | .Constant (.bool b) _ _ => some (.bl b)
  | .Constant .none _ _ => some .non
  | _ => none
def constsA : List Expr → Option (List D)
  | [] => some []
  | e :: es => match constE e, constsA es with | some d, some ds => some (d :: ds) | _, _ => none
def pConsts (ds : List D) : TPA := fun _ n R => R ds n
theorem da_consts : ∀ {es : List Expr} {ds : List D}, constsA es = some ds → DA X es (pConsts ds)
  | [], ds, h => by cases h; exact fun g hK => da_nil g hK
  | e :: es, ds, h => by
    rw [constsA] at h
    cases h1 : constE e with
    | none => rw [h1] at h; cases h
    | some d =>
      cases h2 : constsA es with
      | none => rw [h1, h2] at h; cases h
      | some xs =>
        rw [h1, h2] at h
        cases h
        have ih := da_consts h2
        unfold constE at h1
        split at h1
        · cases h1; exact da_cons de_int ih
        · cases h1; exact da_cons de_str ih
        · cases h1; exact da_cons de_bl ih
        · cases h1; exact da_cons de_non ih
        · cases h1
def pTup (t : TPA) : TPE := fun ρ n R => t ρ n fun ds m => ds.length ≤ sizeLine ∧ R (.tup ds) m
theorem de_tup {x1} (h : DA X es ta) : DE X (.Tuple es x1 pos) (pTup ta) := fun g hK => (pe_tup (h g hK)).imp fun σ H Q ⟨n, F, ρ, R, ok, hq, k⟩ =>
  ⟨n, F, ρ, _, ok, hq, fun n1 F1 H1 vs ds s1 ok1 r1 h1 => ⟨by rw [r1.length]; exact h1.1, fun q hn => k n1 (upd F1 q _) _ _ _ (s1.trans (ok1.sameF _ hn)) (ok1.alloc _ hn) (.tup (SqT.of upd_same) (r1.mono (ok1.sameF _ hn))) h1.2⟩⟩
def pLst (t : TPA) : TPE := fun ρ n R => t ρ n fun ds m => ds.length ≤ sizeLine ∧ R (.lst ds) m
theorem fe_lst (h : DA X es ta) : FE X (.List es pos) (pLst ta) := fun g hK => (pe_lst (h g hK)).imp fun σ H Q ⟨n, F, ρ, R, ok, hq, k⟩ =>
  ⟨n, F, ρ, _, ok, hq, fun n1 F1 H1 vs ds s1 ok1 r1 h1 => ⟨by rw [r1.length]; exact h1.1, fun q hn => k n1 F1 H1 q _ _ s1 ok1 hn (.lst r1) h1.2⟩⟩
theorem fe_dnew : FE X (.Dict [] [] pos) (pC (.dic [] [])) := fun g hK => pe_dnewK.imp fun σ H Q ⟨n, F, ρ, R, ok, hq, k⟩ => fun q hn => k n F H q _ _ (Same.refl F) ok hn (.dic (ks := []) (xs := []) rfl .nil) hq

/-! ### subscripts -/
def oIx : O2 := fun d e R => match d, e with
  | .lst ds, .int i => match atI ds i with | some z => R z | none => False
  | .tup ds, .int i => match atI ds i with | some z => R z | none => False
  | .str s, .int i => s.length ≤ sizeLine ∧ match atI s.cps.toList i with | some c => R (.str ⟨#[c]⟩) | none => False
  | _, _ => False
theorem Reps.atI {c : Cfg} {F : Hp} {xs : List V} {ds : List D} {i : Int} {z : D} (r : Reps c F xs ds) (h : L2.atI ds i = some z) : ∃ v, L2.atI xs i = some v ∧ Rep c F v z := by
  unfold L2.atI at h ⊢
  rw [r.length]
  cases q : ixN ds.length i with
  | none => rw [q] at h; cases h
  | some j =>
    rw [q] at h
    exact r.get h
theorem de_sub_ix (ha : SE X a pa) (hb : SE X b pb) (hs : PlainIx b := by intro _ _; rfl) : DE X (.Subscript a b pos) (pBin oIx pa pb) := by
  refine de_ix ix_seq (fun g n F H σ ρ x y d e R Q hK ok r1 r2 q k => ?_) ha hb hs
  have q : oIx d e R := q
  unfold oIx at q
  split at q
  · obtain ⟨a, xs, rfl, h1, s1⟩ := r1.lst ok
    split at q
    · rename_i z hz
      obtain ⟨v, hv, r⟩ := s1.atI hz
      exact .inl ⟨a, xs, _, v, rfl, r2.int ok, SqL.of h1, hv, k F H v z (Same.refl F) ok r q⟩
    · exact q.elim
  · obtain ⟨a, xs, rfl, h1, s1, _⟩ := r1.tup ok
    rw [hK] at h1
    split at q
    · rename_i z hz
      obtain ⟨v, hv, r⟩ := s1.atI hz
      exact .inr (.inl ⟨a, xs, _, v, rfl, r2.int ok, h1, hv, k F H v z (Same.refl F) ok r q⟩)
    · exact q.elim
  · obtain ⟨hz, q⟩ := q
    split at q
    · rename_i c hc
      exact .inr (.inr ⟨_, _, c, r1.str ok, r2.int ok, hz, hc, k F H _ _ (Same.refl F) ok (.str _) q⟩)
    · exact q.elim
  · exact q.elim

/-! ### slices -/
def cutL {α : Type} (xs : List α) (lo hi : Option Int) : List α := (xs.drop (HT.sIx xs.length 0 lo)).take (HT.sIx xs.length xs.length hi - HT.sIx xs.length 0 lo)
theorem Reps.cut {c : Cfg} {F : Hp} {xs : List V} {ds : List D} (r : Reps c F xs ds) (lo hi : Option Int) : Reps c F (cutV xs lo hi) (cutL ds lo hi) := by
  unfold cutV cutL
  rw [r.length]
  exact (r.drop _).take _
abbrev TPO := PEnv → Nat → (Option Int → Nat → Prop) → Prop
def LO (g : G) (p : TPO) : TO := fun σ H Q => ∃ n F ρ R, Ok g n F H σ ρ ∧ p ρ n R ∧ ∀ n' F' H' o, Same F F' → Ok g n' F' H' σ ρ → R o n' → Q o H'
def DO (X : Cx) (e : Option Expr) (p : TPO) : Prop := ∀ g : G, g.c.K = X.K → PO X e (LO g p)
theorem _root_.L2.PO.imp {X : Cx} {e : Option Expr} {t t' : TO} (h : PO X e t) (w : ∀ σ H Q, t' σ H Q → t σ H Q) : PO X e t' := by
  constructor
  intro pins s σ H Q I q
  exact h.run pins s σ H Q I (w σ H Q q)
def pNo : TPO := fun _ n R => R none n
def pPart (p : TPE) : TPO := fun ρ n R => p ρ n fun d m => match d with | .int i => R (some i) m | _ => False
theorem do_none : DO X none pNo := fun g hK => po_none.imp fun σ H Q ⟨n, F, ρ, R, ok, hq, k⟩ => k n F H _ (Same.refl F) ok hq
theorem do_some (h : SE X e p) : DO X (some e) (pPart p) := fun g hK => (po_some (h g hK)).imp fun σ H Q ⟨n, F, ρ, R, ok, hq, k⟩ => by
  refine ⟨n, F, ρ, _, ok, hq, fun n1 F1 H1 x d s1 ok1 r1 h1 => ?_⟩
  revert h1 r1
  cases d <;> intro r1 h1 <;> first | exact False.elim h1 | skip
  exact ⟨_, r1.int ok1, k n1 F1 H1 _ s1 ok1 h1⟩
def oSl (d : D) (lo hi : Option Int) (R : D → Prop) : Prop := match d with
  | .lst ds => R (.lst (cutL ds lo hi))
  | .tup ds => R (.tup (cutL ds lo hi))
  | .str s => s.length ≤ sizeLine ∧ R (.str (cutS s lo hi))
  | _ => False
def pSl (p : TPE) (l h : TPO) : TPE := fun ρ n R => p ρ n fun d n1 => l ρ n1 fun lo n2 => h ρ n2 fun hi n3 => oSl d lo hi fun z => R z n3
theorem cutL_whole {α : Type} {xs : List α} {lo hi : Option Int} (h : HT.sIx xs.length 0 lo = 0 ∧ HT.sIx xs.length xs.length hi = xs.length) : cutL xs lo hi = xs := by
  unfold cutL
  rw [h.1, h.2]
  simp
theorem de_slice {lo hi : Option Expr} {p2 : Pos} {pl ph : TPO} (h : SE X e p) (hl : DO X lo pl) (hh : DO X hi ph) : DE X (.Subscript e (.Slice lo hi none p2) pos) (pSl p pl ph) := fun g hK =>
  (pe_slice (sl_list.or (sl_tupA.or sl_str)) (h g hK) (hl g hK) (hh g hK)).imp fun σ H Q ⟨n, F, ρ, R, ok, hq, k⟩ => by
  refine ⟨n, F, ρ, _, ok, hq, fun n1 F1 H1 x d s1 ok1 r1 h1 => ⟨n1, F1, ρ, _, ok1, h1, fun n2 F2 H2 lo s2 ok2 h2 => ⟨n2, F2, ρ, _, ok2, h2, fun n3 F3 H3 hi s3 ok3 h3 => ?_⟩⟩⟩
  have r1 := (r1.mono s2).mono s3
  have s13 := s1.trans (s2.trans s3)
  have h3 : oSl d lo hi fun z => R z n3 := h3
  unfold oSl at h3
  split at h3
  · obtain ⟨a, xs, rfl, e1, t1⟩ := r1.lst ok3
    exact .inl ⟨a, xs, rfl, SqL.of e1, fun q hn => k n3 (upd F3 q _) _ _ _ (s13.trans (ok3.sameF _ hn)) (ok3.alloc _ hn) (.lst upd_same ((t1.cut lo hi).mono (ok3.sameF _ hn))) h3⟩
  · obtain ⟨a, xs, rfl, e1, t1, t2⟩ := r1.tup ok3
    rw [hK] at e1
    refine .inr (.inl ⟨a, xs, rfl, e1, fun hw => ?_, fun _ q hn => ?_⟩)
    · rw [t1.length] at hw
      rw [cutL_whole hw] at h3
      exact k n3 F3 H3 _ _ s13 ok3 t2 h3
    · exact k n3 (upd F3 q _) _ _ _ (s13.trans (ok3.sameF _ hn)) (ok3.alloc _ hn) (.tup (SqT.of upd_same) ((t1.cut lo hi).mono (ok3.sameF _ hn))) h3
  · exact .inr (.inr ⟨_, r1.str ok3, h3.1, k n3 F3 H3 _ _ s13 ok3 (.str _) h3.2⟩)
  · exact h3.elim

/-! ### built-in functions -/
abbrev OL := List D → (D → Prop) → Prop
def CaP (K : PySem.W.Frag) (r : List V → Hp → VK → Prop) (o : OL) : Prop := ∀ (g : G) (n : Nat) (F H : Hp) (σ : L2.St) (ρ : PEnv) (xs : List V) (ds : List D) (R : D → Prop) (Q : VK), g.c.K = K → Ok g n F H σ ρ → RRs g F σ ρ xs ds → o ds R →
  (∀ F' H' v z, Same F F' → Ok g n F' H' σ ρ → Rep g.c F' v z → R z → Q v H') → r xs H Q
def pCall (o : OL) (t : TPA) : TPE := fun ρ n R => t ρ n fun ds m => o ds fun z => R z m
theorem LB.call {g : G} {r : List V → Hp → VK → Prop} {o : OL} (hp : CaP g.c.K r o) {σ : L2.St} {H : Hp} {Q : VK} (h : LE g (pCall o ta) σ H Q) : tCB r (LB g ta) σ H Q := by
  obtain ⟨n, F, ρ, R, ok, hq, k⟩ := h
  exact ⟨n, F, ρ, _, ok, hq, fun n1 F1 H1 vs ds s1 ok1 r1 h1 => hp g n1 F1 H1 σ ρ vs ds _ Q rfl ok1 r1 h1 fun F3 H3 v z s3 ok3 r3 h3 => k n1 F3 H3 v z (s1.trans s3) ok3 r3 h3⟩
theorem de_callB {x : Str} {pf : Pos} {id : String} {r : List V → Hp → VK → Prop} {o : OL} (hc : CallR X (.builtin id) r) (hp : CaP X.K r o) (hg : Gl X x) (hm : X.mg x = none) (hv : bootBuiltins x = some (.builtin id)) (ha : SA X (e :: es) ta)
    (hn : x ≠ "__name__" := by decide) (hdb : (x == ("__debug__" : Str)) = false := by decide)
    (he : starEach (e :: es) X.env = (false, eval e X.env) :: starEach es X.env := by rfl) (hpl : (backTo pos (starEach es X.env)).any (·.1) = false := by rfl) : DE X (.Call (.Name x pf) (e :: es) [] pos) (pCall o ta) := fun g hK =>
  (pe_callB hc hg hm hv (ha g hK) hn hdb he hpl).imp fun σ H Q h => LB.call (by rw [hK]; exact hp) h
theorem de_callTy {x : Str} {pf : Pos} {id : String} {r : List V → Hp → VK → Prop} {o : OL} (hc : CallR X (.type id) r) (hp : CaP X.K r o) (hg : Gl X x) (hm : X.mg x = none) (hv : bootBuiltins x = some (.type id)) (ha : SA X (e :: es) ta)
    (hn : x ≠ "__name__" := by decide) (hdb : (x == ("__debug__" : Str)) = false := by decide)
    (he : starEach (e :: es) X.env = (false, eval e X.env) :: starEach es X.env := by rfl) (hpl : (backTo pos (starEach es X.env)).any (·.1) = false := by rfl) : DE X (.Call (.Name x pf) (e :: es) [] pos) (pCall o ta) := fun g hK =>
  (pe_callTy hc hg hm hv (ha g hK) hn hdb he hpl).imp fun σ H Q h => LB.call (by rw [hK]; exact hp) h
/-- len -/
def oLen : OL := fun ds R => match ds with
  | [.lst xs] => R (.int xs.length)
  | [.tup xs] => R (.int xs.length)
  | [.str s] => s.length ≤ sizeLine ∧ R (.int s.length)
  | _ => False
theorem cp_len : CaP X.K (fun xs H Q => ∃ x n, xs = [x] ∧ LenV X.K x H n ∧ Q (.int n) H) oLen := fun g n F H σ ρ xs ds R Q hK ok r q k => by
  have q : oLen ds R := q
  unfold oLen at q
  split at q
  · cases r with
    | cons r t =>
      cases t
      obtain ⟨a, xs, rfl, h1, s1⟩ := r.lst ok
      exact ⟨_, _, rfl, .inl ⟨xs, SqL.of h1, rfl⟩, k F H _ _ (Same.refl F) ok (by rw [s1.length]; exact .int _) q⟩
  · cases r with
    | cons r t =>
      cases t
      obtain ⟨a, xs, rfl, h1, s1, _⟩ := r.tup ok
      rw [hK] at h1
      exact ⟨_, _, rfl, .inr ⟨xs, h1, rfl⟩, k F H _ _ (Same.refl F) ok (by rw [s1.length]; exact .int _) q⟩
  · cases r with
    | cons r t =>
      cases t
      cases r.str ok
      exact ⟨_, _, rfl, ⟨q.1, rfl⟩, k F H _ _ (Same.refl F) ok (.int _) q.2⟩
  · exact q.elim
theorem de_len {pf : Pos} (hm : X.mg "len" = none) (hg : Gl X "len") (ha : SA X [e] ta) (he : starEach [e] X.env = (false, eval e X.env) :: starEach [] X.env := by rfl) : DE X (.Call (.Name "len" pf) [e] [] pos) (pCall oLen ta) :=
  de_callB call_len cp_len hg hm PySem.boot_len ha (he := he) (hpl := rfl)
/-- int, of an int or a bool -/
def oInt : OL := fun ds R => match ds with
  | [.int i] => R (.int i)
  | [.bl b] => R (.int (if b then 1 else 0))
  | _ => False
theorem cp_int {K : PySem.W.Frag} : CaP K (fun xs H Q => (∃ i, xs = [.int i] ∧ Q (.int i) H) ∨ ∃ k, xs = [.bl k] ∧ Q (.int (if k then 1 else 0)) H) oInt := fun g n F H σ ρ xs ds R Q hK ok r q k => by
  have q : oInt ds R := q
  unfold oInt at q
  split at q
  · cases r with
    | cons r t =>
      cases t
      cases r.int ok
      exact .inl ⟨_, rfl, k F H _ _ (Same.refl F) ok (.int _) q⟩
  · cases r with
    | cons r t =>
      cases t
      cases r.bl ok
      exact .inr ⟨_, rfl, k F H _ _ (Same.refl F) ok (.int _) q⟩
  · exact q.elim
end
end PL

/-! PL: statements, loops, comprehensions, calls of defs. -/
namespace PL
open PySem PySem.Spec L2
structure Conts (g : G) (F : Hp) (P : Post) (D : Ends) : Prop where
  nx : ∀ n F' H σ ρ, Same F F' → Ok g n F' H σ ρ → P.nx ρ n → D.nx σ H
  rt : ∀ n F' H σ ρ v d, Same F F' → Ok g n F' H σ ρ → Rep g.c F' v d → P.rt d n → D.rt v H
  bk : ∀ n F' H σ ρ, Same F F' → Ok g n F' H σ ρ → P.bk ρ n → D.bk σ H
  ct : ∀ n F' H σ ρ, Same F F' → Ok g n F' H σ ρ → P.ct ρ n → D.ct σ H
theorem Conts.mono {g : G} {F F' : Hp} {P : Post} {D : Ends} (h : Conts g F P D) (s : Same F F') : Conts g F' P D :=
  ⟨fun n F2 H σ ρ s2 => h.nx n F2 H σ ρ (s.trans s2), fun n F2 H σ ρ v d s2 => h.rt n F2 H σ ρ v d (s.trans s2), fun n F2 H σ ρ s2 => h.bk n F2 H σ ρ (s.trans s2), fun n F2 H σ ρ s2 => h.ct n F2 H σ ρ (s.trans s2)⟩
def LS (g : G) (p : TPS) : TS := fun D σ H => ∃ n F ρ P, Ok g n F H σ ρ ∧ p P ρ n ∧ Conts g F P D
def DS (X : Cx) (st : Stmt) (p : TPS) : Prop := ∀ g : G, g.c.K = X.K → PS X st (LS g p)
def DSs (X : Cx) (st : List Stmt) (p : TPS) : Prop := ∀ g : G, g.c.K = X.K → PSs X st (LS g p)
section
variable {X : Cx} {st : Stmt} {rest : List Stmt} {e a b : Expr} {p pa pb : TPE} {q q2 : TPS} {pos : Pos}
def pNext : TPS := fun P ρ n => P.nx ρ n
def pSeq (p q : TPS) : TPS := fun P ρ n => p { P with nx := q P } ρ n
theorem dss_nil : DSs X [] pNext := fun g hK => pss_nil.imp fun D σ H ⟨n, F, ρ, P, ok, h, k⟩ => k.nx n F H σ ρ (Same.refl F) ok h
theorem dss_cons (h1 : DS X st q) (h2 : DSs X rest q2) : DSs X (st :: rest) (pSeq q q2) := fun g hK => (pss_cons (h1 g hK) (h2 g hK)).imp fun D σ H ⟨n, F, ρ, P, ok, h, k⟩ =>
  ⟨n, F, ρ, _, ok, h, ⟨fun n1 F1 H1 σ1 ρ1 s1 ok1 h1 => ⟨n1, F1, ρ1, P, ok1, h1, k.mono s1⟩, k.rt, k.bk, k.ct⟩⟩
theorem dss_one (h1 : DS X st q) : DSs X [st] q := fun g hK => pss_one (h1 g hK)
theorem ds_pass : DS X (.Pass pos) pNext := fun g hK => ps_pass.imp fun D σ H ⟨n, F, ρ, P, ok, h, k⟩ => k.nx n F H σ ρ (Same.refl F) ok h
theorem ds_doc {x j pos pos'} : DS X (.Expr (.Constant (.str x) j pos) pos') pNext := fun g hK => ps_doc.imp fun D σ H ⟨n, F, ρ, P, ok, h, k⟩ => k.nx n F H σ ρ (Same.refl F) ok h
def pBrk : TPS := fun P ρ n => P.bk ρ n
def pCnt : TPS := fun P ρ n => P.ct ρ n
theorem ds_break : DS X (.Break pos) pBrk := fun g hK => ps_break.imp fun D σ H ⟨n, F, ρ, P, ok, h, k⟩ => k.bk n F H σ ρ (Same.refl F) ok h
theorem ds_continue : DS X (.Continue pos) pCnt := fun g hK => ps_continue.imp fun D σ H ⟨n, F, ρ, P, ok, h, k⟩ => k.ct n F H σ ρ (Same.refl F) ok h
/-- a name of one's own is read as a value: it is frozen -/
theorem RR.frozen {g : G} {n : Nat} {F H : Hp} {σ : L2.St} {ρ : PEnv} {x : V} {d : D} (ok : Ok g n F H σ ρ) (h : RR g F σ ρ x d) : ∃ F' ρ', Same F F' ∧ Ok g n F' H σ ρ' ∧ Rep g.c F' x d := by
  rcases h with h | ⟨i, hi, hs⟩
  · exact ⟨F, ρ, Same.refl F, ok, h⟩
  · obtain ⟨F', s, ok'⟩ := ok.freeze hi
    obtain ⟨v, e, r⟩ := ok'.cells i _ (set_same (lt_of_get hi))
    rw [hs] at e
    cases e
    exact ⟨F', _, s, ok', r⟩
def pRet (p : TPE) : TPS := fun P ρ n => p ρ n P.rt
theorem ds_ret (h : SE X e p) : DS X (.Return (some e) pos) (pRet p) := fun g hK => (ps_ret (h g hK)).imp fun D σ H ⟨n, F, ρ, P, ok, h, k⟩ =>
  ⟨n, F, ρ, _, ok, h, fun n1 F1 H1 v d s1 ok1 r1 h1 => by
    obtain ⟨F2, ρ2, s2, ok2, r2⟩ := r1.frozen ok1
    exact k.rt n1 F2 H1 σ ρ2 v d (s1.trans s2) ok2 r2 h1⟩
def pIfS (c : TPT) (p q : TPS) : TPS := fun P ρ n => c ρ n fun b m => if b = true then p P ρ m else q P ρ m
theorem ds_if {c : Expr} {as bs : List Stmt} {qc : TPT} (hc : DT X c qc) (ha : DSs X as q) (hb : DSs X bs q2) : DS X (.If c as bs pos) (pIfS qc q q2) := fun g hK => (ps_if (hc g hK) (ha g hK) (hb g hK)).imp fun D σ H ⟨n, F, ρ, P, ok, h, k⟩ =>
  ⟨n, F, ρ, _, ok, h, fun n1 F1 H1 b s1 ok1 h1 => by
    cases b with
    | true => exact ⟨n1, F1, ρ, P, ok1, h1, k.mono s1⟩
    | false => exact ⟨n1, F1, ρ, P, ok1, h1, k.mono s1⟩⟩
def pDrop (p : TPE) : TPS := fun P ρ n => p ρ n fun _ m => P.nx ρ m
theorem ds_expr (h : DE X e p) (hs : swapsWith e none pos.line X.env = pure false := by rfl) : DS X (.Expr e pos) (pDrop p) := fun g hK => (ps_expr (h g hK) hs).imp fun D σ H ⟨n, F, ρ, P, ok, h, k⟩ =>
  ⟨n, F, ρ, _, ok, h, fun n1 F1 H1 v d s1 ok1 r1 h1 => k.nx n1 F1 H1 σ ρ s1 ok1 h1⟩

/-! ### targets -/
def wipeC (ρ : PEnv) : List Nat → PEnv
  | [] => ρ
  | v :: vs => (wipeC ρ vs).set v .any
theorem set_set_ne {α : Type} (l : List α) {i j : Nat} (a b : α) (h : i ≠ j) : (l.set i a).set j b = (l.set j b).set i a := (List.set_comm a b h)
theorem wipe_set_out (σ : L2.St) (i : Nat) (x : Option V) : ∀ ws : List Nat, i ∈ ws → wipe (σ.set i x) ws = wipe σ ws
  | [], h => nomatch h
  | v :: vs, h => by
    unfold wipe
    by_cases e : i ∈ vs
    · rw [wipe_set_out σ i x vs e]
    · have e1 : i = v := (List.mem_cons.mp h).resolve_right e
      subst e1
      have : ∀ ws : List Nat, i ∉ ws → wipe (σ.set i x) ws = (wipe σ ws).set i x := fun ws => by
        induction ws with
        | nil => intro _; rfl
        | cons w ws ih =>
          intro hn
          rw [List.mem_cons, not_or] at hn
          show (wipe (σ.set i x) ws).set w none = ((wipe σ ws).set w none).set i x
          rw [ih hn.2, set_set_ne _ _ _ hn.1]
      rw [this vs e, List.set_set]
theorem wipeC_set_out (ρ : PEnv) (i : Nat) (x : Cell) : ∀ ws : List Nat, i ∈ ws → wipeC (ρ.set i x) ws = wipeC ρ ws
  | [], h => nomatch h
  | v :: vs, h => by
    unfold wipeC
    by_cases e : i ∈ vs
    · rw [wipeC_set_out ρ i x vs e]
    · have e1 : i = v := (List.mem_cons.mp h).resolve_right e
      subst e1
      have : ∀ ws : List Nat, i ∉ ws → wipeC (ρ.set i x) ws = (wipeC ρ ws).set i x := fun ws => by
        induction ws with
        | nil => intro _; rfl
        | cons w ws ih =>
          intro hn
          rw [List.mem_cons, not_or] at hn
          show (wipeC (ρ.set i x) ws).set w .any = ((wipeC ρ ws).set w .any).set i x
          rw [ih hn.2, set_set_ne _ _ _ hn.1]
      rw [this vs e, List.set_set]
/-- only the places is are changed -/
def Just (is : List Nat) (σ σ' : L2.St) (ρ ρ' : PEnv) : Prop := ∀ ws : List Nat, (∀ j ∈ is, j ∈ ws) → wipe σ' ws = wipe σ ws ∧ wipeC ρ' ws = wipeC ρ ws
abbrev TPG := D → PEnv → Nat → (PEnv → Nat → Prop) → Prop
def LG (g : G) (t : TPG) (is : List Nat) : TG := fun v σ H Q => ∃ n F ρ d S, Ok g n F H σ ρ ∧ Rep g.c F v d ∧ t d ρ n S ∧ ∀ n' F' H' σ' ρ', Same F F' → Ok g n' F' H' σ' ρ' → Just is σ σ' ρ ρ' → S ρ' n' → Q σ' H'
def DG (X : Cx) (tg : Expr) (t : TPG) (is : List Nat) : Prop := ∀ g : G, g.c.K = X.K → PG X tg (LG g t is)
abbrev TPGs := List D → PEnv → Nat → (PEnv → Nat → Prop) → Prop
def LGs (g : G) (t : TPGs) (is : List Nat) : TGs := fun vs σ H Q => ∃ n F ρ ds S, Ok g n F H σ ρ ∧ Reps g.c F vs ds ∧ t ds ρ n S ∧ ∀ n' F' H' σ' ρ', Same F F' → Ok g n' F' H' σ' ρ' → Just is σ σ' ρ ρ' → S ρ' n' → Q σ' H'
def DGs (X : Cx) (tg : List Expr) (t : TPGs) (is : List Nat) : Prop := ∀ g : G, g.c.K = X.K → PGs X tg (LGs g t is)
def gSet (i : Nat) : TPG := fun d ρ n S => S (ρ.set i (.sh d)) n
theorem dg_name {i : Nat} (h : PG X e (gName i)) : DG X e (gSet i) [i] := fun g hK => h.imp fun v σ H Q ⟨n, F, ρ, d, S, ok, r, h, k⟩ => k n F H _ _ (Same.refl F) (ok.set i r) (fun ws hw => ⟨wipe_set_out σ i _ ws (hw i List.mem_cons_self), wipeC_set_out ρ i _ ws (hw i List.mem_cons_self)⟩) h
def gNil' : TPGs := fun ds ρ n S => ds = [] ∧ S ρ n
def gCons' (t : TPG) (u : TPGs) : TPGs := fun ds ρ n S => match ds with | d :: r => t d ρ n fun ρ1 m => u r ρ1 m S | [] => False
def gTup' (k : Nat) (t : TPGs) : TPG := fun d ρ n S => match d with | .tup ds => ds.length = k ∧ t ds ρ n S | _ => False
theorem dgs_nil : DGs X [] gNil' [] := fun g hK => pgs_nil.imp fun v σ H Q ⟨n, F, ρ, d, S, ok, r, h, k⟩ => by
  obtain ⟨rfl, h⟩ := h
  cases r
  exact ⟨rfl, k n F H _ _ (Same.refl F) ok (fun _ _ => ⟨rfl, rfl⟩) h⟩
theorem dgs_cons {es : List Expr} {t : TPG} {u : TPGs} {is js : List Nat} (h1 : DG X e t is) (h2 : DGs X es u js) (hs : (assignEach (e :: es) X.env).map (·.2) = assign e X.env :: (assignEach es X.env).map (·.2) := by rfl) : DGs X (e :: es) (gCons' t u) (is ++ js) := fun g hK => (pgs_cons (h1 g hK) (h2 g hK) hs).imp fun v σ H Q ⟨n, F, ρ, d, S, ok, r, h, k⟩ => by
  cases r with
  | nil => exact False.elim h
  | cons r rs => exact ⟨_, _, rfl, n, F, ρ, _, _, ok, r, h, fun n1 F1 H1 σ1 ρ1 s1 ok1 j1 h1 => ⟨n1, F1, ρ1, _, S, ok1, rs.mono s1, h1, fun n2 F2 H2 σ2 ρ2 s2 ok2 j2 h2 => k n2 F2 H2 σ2 ρ2 (s1.trans s2) ok2 (fun ws hw => by
      obtain ⟨a1, b1⟩ := j1 ws fun j hj => hw j (List.mem_append_left _ hj)
      obtain ⟨a2, b2⟩ := j2 ws fun j hj => hw j (List.mem_append_right _ hj)
      exact ⟨a2.trans a1, b2.trans b1⟩) h2⟩⟩
theorem dg_tup {es : List Expr} {u : TPGs} {kk m : Nat} {is : List Nat} (h : DGs X es u is) (hc : X.calm = true := by rfl) (hn : (assignEach es X.env).length = m := by rfl) (hst : (assignEach es X.env).findIdx? (·.1) = none := by rfl) : DG X (.Tuple es kk pos) (gTup' m u) is := fun g hK => (pg_tup hc (h g hK) hn hst).imp fun v σ H Q ⟨n, F, ρ, d, S, ok, r, h, k⟩ => by
  revert h r
  cases d <;> intro r h <;> first | exact False.elim h | skip
  cases r with
  | tup hT rs =>
    refine ⟨_, _, rfl, ?_, by rw [rs.length]; exact h.1, n, F, ρ, _, S, ok, rs, h.2, k⟩
    rw [← hK]
    exact Same.seqT ok.sub hT
def pAsg (p : TPE) (t : TPG) : TPS := fun P ρ n => p ρ n fun d m => t d ρ m P.nx
theorem ds_asg {tg : Expr} {t : TPG} {is : List Nat} (h : DE X e p) (hg : DG X tg t is) (hs : swapsWithSole [tg] e pos.line X.env = pure false := by rfl) (hw : swappedStores [tg] e X.env = pure none := by rfl) (h1 : (assignEach [tg] X.env).map (·.2) = [assign tg X.env] := by rfl) : DS X (.Assign [tg] e pos) (pAsg p t) := fun g hK => (ps_asg (h g hK) (hg g hK) hs hw h1).imp fun D σ H ⟨n, F, ρ, P, ok, h, k⟩ =>
  ⟨n, F, ρ, _, ok, h, fun n1 F1 H1 v d s1 ok1 r1 h1 => ⟨n1, F1, ρ, d, _, ok1, r1, h1, fun n2 F2 H2 σ2 ρ2 s2 ok2 _ h2 => k.nx n2 F2 H2 σ2 ρ2 (s1.trans s2) ok2 h2⟩⟩
/-- x = a new container, one's own -/
def pOwnS (i : Nat) (p : TPE) : TPS := fun P ρ n => p ρ n fun d m => P.nx (ρ.set i (.own d)) m
theorem ds_own {tg : Expr} {i : Nat} (h : FE X e p) (hg : PG X tg (gName i)) (hs : swapsWithSole [tg] e pos.line X.env = pure false := by rfl) (hw : swappedStores [tg] e X.env = pure none := by rfl) (h1 : (assignEach [tg] X.env).map (·.2) = [assign tg X.env] := by rfl) : DS X (.Assign [tg] e pos) (pOwnS i p) := fun g hK => (ps_asg (h g hK) hg hs hw h1).imp fun D σ H ⟨n, F, ρ, P, ok, h, k⟩ =>
  ⟨n, F, ρ, _, ok, h, fun n1 F1 H1 a x d s1 ok1 hn hc h1 => by
    refine k.nx n1 F1 (upd H1 a x) _ _ s1 ((ok1.allocH x hn).setOwn i upd_same (ok1.freeF hn) (ok1.freeH0 hn) ⟨ok1.nofp hn, ok1.freeP hn⟩ hc fun j e hj _ hz => ?_) h1
    obtain ⟨o, y, e1, e2, _⟩ := ok1.cells j _ hj
    rw [hz] at e1
    cases e1
    rw [hn] at e2
    cases e2⟩
/-- a, b = e1, e2 -/
def pPar (i j : Nat) (t : TPA) : TPS := fun P ρ n => t ρ n fun ds m => match ds with | [d, e] => P.nx ((ρ.set i (.sh d)).set j (.sh e)) m | _ => False
theorem LA.par {g : G} {t : TPA} {i j : Nat} {D : Ends} {σ : L2.St} {H : Hp} (h : LS g (pPar i j t) D σ H) : tPar i j (LA g t) D σ H := by
  obtain ⟨n, F, ρ, P, ok, h, k⟩ := h
  refine ⟨n, F, ρ, _, ok, h, fun n1 F1 H1 vs ds s1 ok1 r1 h1 => ?_⟩
  match ds, r1, h1 with
  | [d, e], .cons r1 (.cons r2 .nil), h1 => exact ⟨_, _, rfl, k.nx n1 F1 H1 _ _ s1 ((ok1.set i r1).set j r2) h1⟩
def pPar3 (i j l : Nat) (t : TPA) : TPS := fun P ρ n => t ρ n fun ds m => match ds with | [d, e, f] => P.nx (((ρ.set i (.sh d)).set j (.sh e)).set l (.sh f)) m | _ => False

/-! ### the own list -/
def pAppend (i : Nat) (p : TPE) : TPS := fun P ρ n => match ρ[i]? with | some (.own (.lst ds)) => p ρ n fun d m => ds.length < sizeLine ∧ P.nx (ρ.set i (.own (.lst (ds ++ [d])))) m | _ => False

/-! ### for -/
def LI (g : G) (p : TPA) : TI := fun σ H R => ∃ n F ρ S, Ok g n F H σ ρ ∧ p ρ n S ∧ ∀ n' F' H' ds J, Same F F' → Ok g n' F' H' σ ρ → S ds n' →
  (∀ g' m F2 H2 σ2 ρ2, g'.c = g.c → Same F' F2 → Ok g' m F2 H2 σ2 ρ2 → J.stop ds.length H2 ∧
    ∀ i d, ds[i]? = some d → J.go i H2 ∧ ∀ x H3, J.yld i H2 x H3 → ∃ F3, Same F2 F3 ∧ Ok g' m F3 H3 σ2 ρ2 ∧ Rep g.c F3 x d) → R J H'
def DI (X : Cx) (tg iter : Expr) (p : TPA) : Prop := ∀ g : G, g.c.K = X.K → PI X tg iter (LI g p)
def forW (t : TPG) (b : TPS) : List D → Post → PEnv → Nat → Prop
  | [], P, ρ, n => P.nx ρ n
  | d :: ds, P, ρ, n => t d ρ n fun ρ1 n1 => b { nx := forW t b ds P, ct := forW t b ds P, bk := P.nx, rt := P.rt } ρ1 n1
def pFor (pi : TPA) (t : TPG) (b : TPS) : TPS := fun P ρ n => pi ρ n fun ds m => forW t b ds P ρ m
theorem drop_get {α : Type} {l : List α} {i : Nat} {d : α} {ds : List α} (h : l.drop i = d :: ds) : l[i]? = some d ∧ l.drop (i + 1) = ds := by
  have h1 : (l.drop i)[0]? = some d := by rw [h]; rfl
  rw [List.getElem?_drop] at h1
  refine ⟨by simpa using h1, ?_⟩
  rw [← List.drop_drop, h]
  rfl
theorem ds_for {tg iter : Expr} {body : List Stmt} {pi : TPA} {t : TPG} {b : TPS} {is : List Nat} (hp : PassesOwn (model X.prog X.w) X.A X.env X.xe) (hc : X.calm = true) (hi : DI X tg iter pi) (hg : DG X tg t is) (hb : DSs X body b)
    (hs : ∀ x, foldedSetIterable iter X.env x = pure x := by intro _; rfl) : DS X (.For tg iter body [] pos) (pFor pi t b) := fun g hK => (ps_for hp hc (hi g hK) (hg g hK) (hb g hK) hs).imp fun D σ H ⟨n, F, ρ, P, ok, h, k⟩ => by
  refine ⟨n, F, ρ, _, ok, h, fun n1 F1 H1 ds J s1 ok1 h1 hJ => ?_⟩
  refine ⟨fun i m σ H => m = ds.length - i ∧ i ≤ ds.length ∧ ∃ n F2 ρ, Same F1 F2 ∧ Ok g n F2 H σ ρ ∧ forW t b (ds.drop i) P ρ n, ⟨_, rfl, Nat.zero_le _, n1, F1, ρ, Same.refl _, ok1, h1⟩, ?_⟩
  rintro i m σ2 H2 ⟨rfl, hi, n2, F2, ρ2, s2, ok2, h2⟩
  obtain ⟨st, gg⟩ := hJ g n2 F2 H2 σ2 ρ2 rfl s2 ok2
  cases hd : ds.drop i with
  | nil =>
    have hl : i = ds.length := by
      have := List.drop_eq_nil_iff.mp hd
      omega
    subst hl
    rw [hd] at h2
    exact .inl ⟨st, k.nx n2 F2 H2 σ2 ρ2 (s1.trans s2) ok2 h2⟩
  | cons d r =>
    obtain ⟨gd, gr⟩ := drop_get hd
    rw [hd] at h2
    obtain ⟨go, yl⟩ := gg i d gd
    have hlt : i < ds.length := lt_of_get gd
    refine .inr ⟨go, fun σ H => ∃ n F2 ρ, Same F1 F2 ∧ Ok g n F2 H σ ρ ∧ forW t b (ds.drop (i + 1)) P ρ n, fun σ' H' q => ⟨_, by omega, rfl, hlt, q⟩, fun x H3 y => ?_⟩
    obtain ⟨F3, s3, ok3, r3⟩ := yl x H3 y
    refine ⟨n2, F3, ρ2, d, _, ok3, r3, h2, fun n4 F4 H4 σ4 ρ4 s4 ok4 _ h4 => ⟨n4, F4, ρ4, _, ok4, h4, ?_⟩⟩
    have s14 := s2.trans (s3.trans s4)
    refine ⟨fun n F' H σ ρ s ok h => ⟨n, F', ρ, s14.trans s, ok, by rw [gr]; exact h⟩, fun n F' H σ ρ v d s ok r h => k.rt n F' H σ ρ v d (s1.trans (s14.trans s)) ok r h, fun n F' H σ ρ s ok h => k.nx n F' H σ ρ (s1.trans (s14.trans s)) ok h, fun n F' H σ ρ s ok h => ⟨n, F', ρ, s14.trans s, ok, by rw [gr]; exact h⟩⟩

/-! ### while -/
def pWhile (c : TPT) (b : TPS) : TPS := fun P ρ n => ∃ W : Nat → PEnv → Nat → Prop, (∃ m, W m ρ n) ∧ ∀ m ρ n, W m ρ n → c ρ n fun t n1 => if t = true then b { nx := fun ρ' n' => ∃ m', m' < m ∧ W m' ρ' n', ct := fun ρ' n' => ∃ m', m' < m ∧ W m' ρ' n', bk := P.nx, rt := P.rt } ρ n1 else P.nx ρ n1
theorem ds_while {c : Expr} {body : List Stmt} {qc : TPT} {b : TPS} (hp : PassesOwn (model X.prog X.w) X.A X.env X.xe) (hc : DT X c qc) (hb : DSs X body b) : DS X (.While c body [] pos) (pWhile qc b) := fun g hK => (ps_while hp (hc g hK) (hb g hK)).imp fun D σ H ⟨n, F, ρ, P, ok, h, k⟩ => by
  obtain ⟨W, ⟨m0, w0⟩, turn⟩ := h
  refine ⟨fun m σ H => ∃ n F2 ρ, Same F F2 ∧ Ok g n F2 H σ ρ ∧ W m ρ n, ⟨m0, n, F, ρ, Same.refl _, ok, w0⟩, ?_⟩
  rintro m σ2 H2 ⟨n2, F2, ρ2, s2, ok2, w2⟩
  refine ⟨n2, F2, ρ2, _, ok2, turn m ρ2 n2 w2, fun n3 F3 H3 t s3 ok3 h3 => ?_⟩
  cases t with
  | false => exact k.nx n3 F3 H3 σ2 ρ2 (s2.trans s3) ok3 h3
  | true =>
    refine ⟨fun σ H => ∃ m', m' < m ∧ ∃ n F2 ρ, Same F F2 ∧ Ok g n F2 H σ ρ ∧ W m' ρ n, fun σ' H' ⟨m', hm, q⟩ => ⟨m', hm, q⟩, n3, F3, ρ2, _, ok3, h3, ?_⟩
    have s13 := s2.trans s3
    exact ⟨fun n F' H σ ρ s ok ⟨m', hm, h⟩ => ⟨m', hm, n, F', ρ, s13.trans s, ok, h⟩, fun n F' H σ ρ v d s ok r h => k.rt n F' H σ ρ v d (s13.trans s) ok r h, fun n F' H σ ρ s ok h => k.nx n F' H σ ρ (s13.trans s) ok h, fun n F' H σ ρ s ok ⟨m', hm, h⟩ => ⟨m', hm, n, F', ρ, s13.trans s, ok, h⟩⟩

/-! ### calls of defs -/
abbrev Spec := List D → Nat → (D → Nat → Prop) → Prop
def spP (K : PySem.W.Frag) (S : Spec) : Sp := fun vs H Q _ => ∃ (c : Cfg) (n : Nat) (F : Hp) (ds : List D) (R : D → Nat → Prop), c.K = K ∧ Same F H ∧ (∀ b, c.fp b → F b = none) ∧ DeckAt c n H ∧ Reps c F vs ds ∧ S ds n R ∧
  ∀ n' F' H' v d, Same F F' → (∀ b x, H b = some x → ¬ c.fp b → H' b = some x) → Same F' H' → (∀ b, c.fp b → F' b = none) → (∀ b, H b ≠ none → F b = none → F' b = none) → DeckAt c n' H' → Rep c F' v d → R d n' → Q v H'
theorem Ok.after {g : G} {n n' : Nat} {F F' H H' : Hp} {σ : L2.St} {ρ : PEnv} (ok : Ok g n F H σ ρ) (h1 : Same F F') (h2 : ∀ b x, H b = some x → ¬ g.c.fp b → H' b = some x) (h3 : Same F' H') (h4 : ∀ b, g.c.fp b → F' b = none) (h5 : ∀ b, H b ≠ none → F b = none → F' b = none) (h6 : DeckAt g.c n' H') : Ok g n' F' H' σ ρ where
  keep := fun b x e hn => h2 b x (ok.keep b x e hn) hn
  sub := h3
  ffp := h4
  new := fun b q hn => by
    by_cases hf : g.c.fp b
    · exact h4 b hf
    · refine h5 b ?_ (ok.new b q hn)
      cases z : g.H0 b with
      | none => exact absurd z q
      | some x => rw [ok.keep b x z hf]; exact fun z => nomatch z
  dk := h6
  pin := fun b x q => by
    obtain ⟨p1, p2, p3⟩ := ok.pin b x q
    exact ⟨h2 b x p1 p3, h5 b (by rw [p1]; exact fun z => nomatch z) p2, p3⟩
  len := ok.len
  cells := fun i c e => by
    have h := ok.cells i c e
    cases c with
    | any => trivial
    | sh d => obtain ⟨v, e, r⟩ := h; exact ⟨v, e, r.mono h1⟩
    | own d =>
      obtain ⟨o, x, e, q1, q2, q3, q4, q5⟩ := h
      exact ⟨o, x, e, h2 o x q1 q4.1, h5 o (by rw [q1]; exact fun z => nomatch z) q2, q3, q4, q5.mono h1⟩
  disj := ok.disj
/-- a call's wish; what is wanted behind it is not looked into -/
def Shut (_ : D → Nat → Prop) : Type := PUnit
def shut (R : D → Nat → Prop) : Shut R := PUnit.unit
def callZ (S : Spec) (ds : List D) (n : Nat) (R : D → Nat → Prop) (_ : Shut R) : Prop := S ds n R
abbrev callS (S : Spec) (ds : List D) (n : Nat) (R : D → Nat → Prop) : Prop := callZ S ds n R (shut R)
def pFn (S : Spec) (t : TPA) : TPE := fun ρ n R => t ρ n fun ds m => callZ S ds m R (shut R)
theorem LA.fn {g : G} {S : Spec} {t : TPA} {E : XK} {σ : L2.St} {H : Hp} {Q : VK} {vs : List V} {ds : List D} {n : Nat} {F : Hp} {ρ : PEnv} {R : D → Nat → Prop} (ok : Ok g n F H σ ρ) (r : Reps g.c F vs ds) (h : S ds n R)
    (k : ∀ n' F' H' v d, Same F F' → Ok g n' F' H' σ ρ → Rep g.c F' v d → R d n' → Q v H') : spP g.c.K S vs H Q E :=
  ⟨g.c, n, F, ds, R, rfl, ok.sub, ok.ffp, ok.dk, r, h, fun n' F' H' v d h1 h2 h3 h4 h5 h6 r' hR => k n' F' H' v d h1 (ok.after h1 h2 h3 h4 h5 h6) r' hR⟩
theorem de_call {S : Spec} {t : TPA} {CX : CXT} {k : Nat} {f : Addr} {fd : FuncData} {ps : List Str} {E : XK} {x : Str} {pf : Pos} {es : List Expr} (Fn : FnOk X.prog X.w X.K X.mg X.base CX k f fd ps (spP X.K S)) (hr : Room k X.A) (hg : Gl X x) (hm : X.mg x = some (.ref f)) (hk : PySem.W.keepIn X.K (.ref f) = true) (hb : Binds X.K fd ps []) (hx : Passes CX X E)
    (ha : DA X (e :: es) t) (hdb : (x == ("__debug__" : Str)) = false := by decide) (he : starEach (e :: es) X.env = (false, eval e X.env) :: starEach es X.env := by rfl) (hpl : (backTo pos (starEach es X.env)).any (·.1) = false := by rfl) :
    DE X (.Call (.Name x pf) (e :: es) [] pos) (pFn S t) := fun g hK => (pe_call (E := E) Fn hr hg hm hk hb .nil hx (ha g hK) hdb he hpl).imp fun σ H Q ⟨n, F, ρ, R, ok, hq, k⟩ =>
  ⟨n, F, ρ, _, ok, hq, fun n1 F1 H1 vs ds s1 ok1 r1 h1 => by
    show spP X.K S (vs ++ []) H1 Q E
    rw [List.append_nil, ← hK]
    exact LA.fn (t := t) ok1 r1 h1 fun n' F' H' v d s2 ok2 r2 h2 => k n' F' H' v d (s1.trans s2) ok2 r2 h2⟩
end
end PL

/-! PL: comprehensions, the rule for a def, iterables. -/
namespace PL
open PySem PySem.Spec L2
open PyProof.Rows (envOfC)
/-! ### pins -/
def erase (H : Hp) (a : Addr) : Hp := fun b => if b = a then none else H b
theorem erase_same (H : Hp) (a : Addr) : erase H a a = none := by unfold erase; rw [if_pos rfl]
theorem erase_ne {H : Hp} {a b : Addr} (h : b ≠ a) : erase H a b = H b := by unfold erase; rw [if_neg h]
theorem upd_erase {H : Hp} {a : Addr} {x : HO} (h : H a = some x) : upd (erase H a) a x = H := by
  funext b
  by_cases e : b = a
  · subst e; rw [upd_same, h]
  · rw [upd_ne e, erase_ne e]
abbrev G.pinned (g : G) (a : Addr) (x : HO) : G := { g with pin := upd g.pin a x }
section
variable {g : G} {n : Nat} {F H : Hp} {σ : L2.St} {ρ : PEnv} {a : Addr}
theorem Ok.pinNew (ok : Ok g n F H σ ρ) (x : HO) (h : H a = none) : Ok (g.pinned a x) n F (upd H a x) σ ρ := by
  have k := ok.allocH x h
  refine ⟨k.keep, k.sub, k.ffp, k.new, k.dk, fun b y q => ?_, k.len, fun i c e => ?_, k.disj⟩
  · by_cases e : b = a
    · subst e
      have q : upd g.pin b x b = some y := q
      rw [upd_same] at q
      cases q
      exact ⟨upd_same, ok.freeF h, ok.nofp h⟩
    · have q : upd g.pin a x b = some y := q
      rw [upd_ne e] at q
      exact k.pin b y q
  · have h1 := ok.cells i c e
    have h2 := k.cells i c e
    cases c with
    | any => trivial
    | sh d => exact h2
    | own d =>
      obtain ⟨o, y, e1, q1, q2, q3, q4, q5⟩ := h1
      have ne : o ≠ a := ne_of_none q1 h
      exact ⟨o, y, e1, by rw [upd_ne ne]; exact q1, q2, q3, ⟨q4.1, by show upd g.pin a x o = none; rw [upd_ne ne]; exact q4.2⟩, q5⟩
theorem Ok.pinAt {x : HO} (ok : Ok (g.pinned a x) n F H σ ρ) : H a = some x ∧ F a = none ∧ ¬ g.c.fp a := ok.pin a x upd_same
theorem Ok.pinWrite {x : HO} (ok : Ok (g.pinned a x) n F H σ ρ) (h0 : g.H0 a = none) (x' : HO) : Ok (g.pinned a x') n F (upd H a x') σ ρ := by
  obtain ⟨p1, p2, p3⟩ := ok.pinAt
  refine ⟨fun b y e q => ?_, fun b y e => ?_, ok.ffp, ok.new, ok.dk.keep fun b q => ?_, fun b y q => ?_, ok.len, fun i c e => ?_, ok.disj⟩
  · have ne : b ≠ a := fun z => by subst z; have e : g.H0 b = some y := e; rw [h0] at e; cases e
    rw [upd_ne ne]; exact ok.keep b y e q
  · have ne : b ≠ a := fun z => by subst z; rw [p2] at e; cases e
    rw [upd_ne ne]; exact ok.sub b y e
  · have ne : b ≠ a := fun z => by subst z; exact p3 q
    rw [upd_ne ne]
  · by_cases e : b = a
    · subst e
      have q : upd g.pin b x' b = some y := q
      rw [upd_same] at q
      cases q
      exact ⟨upd_same, p2, p3⟩
    · have q : upd g.pin a x' b = some y := q
      rw [upd_ne e] at q
      rw [upd_ne e]
      exact ok.pin b y (by show upd g.pin a x b = some y; rw [upd_ne e]; exact q)
  · have h1 := ok.cells i c e
    cases c with
    | any => trivial
    | sh d => exact h1
    | own d =>
      obtain ⟨o, y, e1, q1, q2, q3, q4, q5⟩ := h1
      have ne : o ≠ a := fun z => by
        subst z
        have q := q4.2
        have q : upd g.pin o x o = none := q
        rw [upd_same] at q
        cases q
      have q42 : upd g.pin a x o = none := q4.2
      rw [upd_ne ne] at q42
      exact ⟨o, y, e1, by rw [upd_ne ne]; exact q1, q2, q3, ⟨q4.1, by show upd g.pin a x' o = none; rw [upd_ne ne]; exact q42⟩, q5⟩
theorem Ok.unpin {x : HO} (ok : Ok (g.pinned a x) n F H σ ρ) (h0 : g.H0 a = none) (hp : g.pin a = none) : Ok g n F (erase H a) σ ρ := by
  obtain ⟨p1, p2, p3⟩ := ok.pinAt
  refine ⟨fun b y e q => ?_, fun b y e => ?_, ok.ffp, ok.new, ok.dk.keep fun b q => ?_, fun b y q => ?_, ok.len, fun i c e => ?_, ok.disj⟩
  · have ne : b ≠ a := fun z => by subst z; rw [h0] at e; cases e
    rw [erase_ne ne]; exact ok.keep b y e q
  · have ne : b ≠ a := fun z => by subst z; rw [p2] at e; cases e
    rw [erase_ne ne]; exact ok.sub b y e
  · have ne : b ≠ a := fun z => by subst z; exact p3 q
    rw [erase_ne ne]
  · have ne : b ≠ a := fun z => by subst z; rw [hp] at q; cases q
    rw [erase_ne ne]
    exact ok.pin b y (by show upd g.pin a x b = some y; rw [upd_ne ne]; exact q)
  · have h1 := ok.cells i c e
    cases c with
    | any => trivial
    | sh d => exact h1
    | own d =>
      obtain ⟨o, y, e1, q1, q2, q3, q4, q5⟩ := h1
      have ne : o ≠ a := fun z => by
        subst z
        have q : upd g.pin o x o = none := q4.2
        rw [upd_same] at q
        cases q
      have q42 : upd g.pin a x o = none := q4.2
      rw [upd_ne ne] at q42
      exact ⟨o, y, e1, by rw [erase_ne ne]; exact q1, q2, q3, ⟨q4.1, q42⟩, q5⟩
theorem Ok.wipe (ok : Ok g n F H σ ρ) : ∀ vs : List Nat, Ok g n F H (L2.wipe σ vs) (wipeC ρ vs)
  | [] => ok
  | v :: vs => (Ok.wipe ok vs).forget v none
def noOwn (ρ : PEnv) (vs : List Nat) : Bool := vs.all fun v => match ρ[v]? with | some (.own _) => false | _ => true
theorem wipe_get (σ : L2.St) {i : Nat} : ∀ {vs : List Nat}, i ∉ vs → (L2.wipe σ vs)[i]? = σ[i]?
  | [], _ => rfl
  | v :: vs, h => by
    rw [List.mem_cons, not_or] at h
    show ((L2.wipe σ vs).set v none)[i]? = _
    rw [List.getElem?_set_ne (Ne.symm h.1)]
    exact wipe_get σ h.2
theorem wipeC_get (ρ : PEnv) {i : Nat} : ∀ {vs : List Nat}, i ∉ vs → (wipeC ρ vs)[i]? = ρ[i]?
  | [], _ => rfl
  | v :: vs, h => by
    rw [List.mem_cons, not_or] at h
    show ((wipeC ρ vs).set v .any)[i]? = _
    rw [List.getElem?_set_ne (Ne.symm h.1)]
    exact wipeC_get ρ h.2
theorem Ok.restore {g' : G} {n' : Nat} {F' H' : Hp} {vs : List Nat} (ok : Ok g n F H σ ρ) (s : Same F F') (hc : g'.c = g.c) (ok' : Ok g' n' F' H' (L2.wipe σ vs) (wipeC ρ vs)) (hn : noOwn ρ vs = true) : Ok g' n' F' H' σ ρ := by
  have no : ∀ {i : Nat} {d : D}, ρ[i]? = some (.own d) → i ∉ vs := fun {i d} e z => by
    have q := List.all_eq_true.mp hn i z
    rw [e] at q
    cases q
  refine ⟨ok'.keep, ok'.sub, ok'.ffp, ok'.new, ok'.dk, ok'.pin, ok.len, fun i c e => ?_, fun i j d e' o h1 h2 h3 h4 => ?_⟩
  · by_cases hi : i ∈ vs
    · have h := ok.cells i c e
      cases c with
      | any => trivial
      | sh d => obtain ⟨v, e1, r⟩ := h; exact ⟨v, e1, by rw [hc]; exact r.mono s⟩
      | own d => exact absurd hi (no e)
    · have h := ok'.cells i c (by rw [wipeC_get ρ hi]; exact e)
      rw [wipe_get σ hi] at h
      exact h
  · have n1 := no h1
    have n2 := no h2
    exact ok'.disj i j d e' o (by rw [wipeC_get ρ n1]; exact h1) (by rw [wipeC_get ρ n2]; exact h2) (by rw [wipe_get σ n1]; exact h3) (by rw [wipe_get σ n2]; exact h4)
end

/-! ### list comprehensions -/
section
variable {X : Cx} {pos : Pos}
def pYes : TPT := fun _ n R => R true n
def DTs (X : Cx) (es : List Expr) (p : TPT) : Prop := ∀ g : G, g.c.K = X.K → PTs X es (LT g p)
theorem dts_nil : DTs X [] pYes := fun g hK => pts_nil.imp fun σ H Q ⟨n, F, ρ, R, ok, h, k⟩ => k n F H _ (Same.refl F) ok h
theorem dts_one {c : Expr} {q : TPT} (h : DT X c q) : DTs X [c] q := fun g hK => pts_one (h g hK)
def lcW (t : TPG) (tt : TPT) (te : TPE) : List D → List D → PEnv → Nat → (List D → Nat → Prop) → Prop
  | [], acc, _, n, R => R acc n
  | d :: ds, acc, ρ, n, R => t d ρ n fun ρ1 n1 => tt ρ1 n1 fun b n2 => if b = true then te ρ1 n2 fun y n3 => lcW t tt te ds (acc ++ [y]) ρ n3 R else lcW t tt te ds acc ρ n2 R
def pLc (pi : TPA) (t : TPG) (tt : TPT) (te : TPE) (vs : List Nat) : TPE := fun ρ n R => pi ρ n fun ds m => ds.length ≤ sizeLine ∧ noOwn ρ vs = true ∧ lcW t tt te ds [] (wipeC ρ vs) m fun acc k => R (.lst acc) k
def XG (K : PySem.W.Frag) (t : TPG) (is : List Nat) : TG := fun v σ H Q => ∃ g : G, g.c.K = K ∧ LG g t is v σ H Q
def XT (K : PySem.W.Frag) (t : TPT) : TT := fun σ H Q => ∃ g : G, g.c.K = K ∧ LT g t σ H Q
def XE (K : PySem.W.Frag) (t : TPE) : TE := fun σ H Q => ∃ g : G, g.c.K = K ∧ LE g t σ H Q
theorem lc_sound {g : G} {pi : TPA} {t : TPG} {is : List Nat} {tt : TPT} {te : TPE} {vs : List Nat} (his : ∀ j ∈ is, j ∈ vs) {σ : L2.St} {H : Hp} {Q : VK} (h : LF g (pLc pi t tt te vs) σ H Q) :
    tLc (LI g pi) (XG g.c.K t is) (XT g.c.K tt) (XE g.c.K te) vs σ H Q := by
  obtain ⟨n, F, ρ, R, ok, h, k⟩ := h
  refine ⟨n, F, ρ, _, ok, h, fun n1 F1 H1 ds J s1 ok1 h1 hJ a ha => ?_⟩
  obtain ⟨hz, hno, h1⟩ := h1
  have h0 := ok1.freeH0 ha
  have hp := ok1.freeP ha
  refine ⟨fun i m H => m = ds.length - i ∧ i ≤ ds.length ∧ ∃ n F2 acc accD, Same F1 F2 ∧ Ok (g.pinned a (.lst acc)) n F2 H (L2.wipe σ vs) (wipeC ρ vs) ∧ Reps g.c F2 acc accD ∧ accD.length ≤ i ∧ lcW t tt te (ds.drop i) accD (wipeC ρ vs) n (fun acc k => R (.lst acc) k),
    ⟨_, rfl, Nat.zero_le _, n1, F1, [], [], Same.refl _, (ok1.wipe _).pinNew (.lst []) ha, .nil, Nat.le_refl _, h1⟩, ?_⟩
  rintro i m H2 ⟨rfl, hi, n2, F2, acc, accD, s2, ok2, ra, la, h2⟩
  obtain ⟨st, gg⟩ := hJ _ n2 F2 H2 _ _ (by rfl) s2 ok2
  cases hd : ds.drop i with
  | nil =>
    have hl : i = ds.length := by
      have := List.drop_eq_nil_iff.mp hd
      omega
    subst hl
    rw [hd] at h2
    have p1 := ok2.pinAt.1
    refine .inl ⟨st, ?_⟩
    have ok3 := ok1.restore s2 rfl (ok2.unpin h0 hp) hno
    have := k n2 F2 (erase H2 a) a (.lst acc) (.lst accD) (s1.trans s2) ok3 (erase_same _ _) (.lst ra) h2
    rw [upd_erase p1] at this
    exact this
  | cons d r =>
    obtain ⟨gd, gr⟩ := drop_get hd
    rw [hd] at h2
    obtain ⟨go, yl⟩ := gg i d gd
    have hlt : i < ds.length := lt_of_get gd
    refine .inr ⟨go, fun H => ∃ n F2 acc accD, Same F1 F2 ∧ Ok (g.pinned a (.lst acc)) n F2 H (L2.wipe σ vs) (wipeC ρ vs) ∧ Reps g.c F2 acc accD ∧ accD.length ≤ i + 1 ∧ lcW t tt te (ds.drop (i + 1)) accD (wipeC ρ vs) n (fun acc k => R (.lst acc) k), fun H' q => ⟨_, by omega, rfl, hlt, q⟩, fun x H3 y => ?_⟩
    obtain ⟨F3, s3, ok3, r3⟩ := yl x H3 y
    refine ⟨g.pinned a (.lst acc), rfl, n2, F3, _, d, _, ok3, r3, h2, fun n4 F4 H4 σ4 ρ4 s4 ok4 j4 h4 => ?_⟩
    obtain ⟨w1, w2⟩ := j4 vs his
    have ww : wipe (wipe σ vs) vs = wipe σ vs := by
      have : ∀ (us vs : List Nat) (σ : L2.St), (∀ j ∈ us, j ∈ vs) → wipe (wipe σ us) vs = wipe σ vs := fun us => by
        induction us with
        | nil => intro vs σ _; rfl
        | cons u us ih =>
          intro vs σ hu
          show wipe ((wipe σ us).set u none) vs = _
          rw [wipe_set_out _ _ _ _ (hu u List.mem_cons_self), ih vs σ fun j hj => hu j (List.mem_cons_of_mem _ hj)]
      exact this _ _ _ fun j hj => hj
    have wc : wipeC (wipeC ρ vs) vs = wipeC ρ vs := by
      have : ∀ (us vs : List Nat) (ρ : PEnv), (∀ j ∈ us, j ∈ vs) → wipeC (wipeC ρ us) vs = wipeC ρ vs := fun us => by
        induction us with
        | nil => intro vs ρ _; rfl
        | cons u us ih =>
          intro vs ρ hu
          show wipeC ((wipeC ρ us).set u .any) vs = _
          rw [wipeC_set_out _ _ _ _ (hu u List.mem_cons_self), ih vs ρ fun j hj => hu j (List.mem_cons_of_mem _ hj)]
      exact this _ _ _ fun j hj => hj
    rw [ww] at w1
    rw [wc] at w2
    have back : ∀ {n' : Nat} {F' H' : Hp}, Ok (g.pinned a (.lst acc)) n' F' H' σ4 ρ4 → Ok (g.pinned a (.lst acc)) n' F' H' (wipe σ vs) (wipeC ρ vs) := fun {n' F' H'} o => by
      have := o.wipe vs
      rw [w1, w2] at this
      exact this
    refine ⟨w1, g.pinned a (.lst acc), rfl, n4, F4, ρ4, _, ok4, h4, fun n5 F5 H5 b s5 ok5 h5 => ?_⟩
    have s15 := s2.trans (s3.trans (s4.trans s5))
    cases b with
    | false => exact ⟨n5, F5, acc, accD, s15, back ok5, ra.mono (s3.trans (s4.trans s5)), by omega, by rw [gr]; exact h5⟩
    | true =>
      refine ⟨g.pinned a (.lst acc), rfl, n5, F5, ρ4, _, ok5, h5, fun n6 F6 H6 y d6 s6 ok6 r6 h6 => ?_⟩
      have ra6 := ra.mono (s3.trans (s4.trans (s5.trans s6)))
      refine ⟨acc, ok6.pinAt.1, ?_, n6, F6, acc ++ [y], accD ++ [d6], s15.trans s6, (back ok6).pinWrite h0 _, ra6.append (.cons r6 .nil), ?_, by rw [gr]; exact h6⟩
      · rw [ra6.length]; omega
      · rw [List.length_append]; simp; omega
theorem fe_lc {elt tg iter : Expr} {ifs : List Expr} {scope : Scope} {own : List (Str × Nat)} {pi : TPA} {t : TPG} {is : List Nat} {tt : TPT} {te : TPE} (hi : DI X tg iter pi) (hN : X.N.Nodup) (ok : BlkOk X.N X.env.scope scope own) (his : ∀ j ∈ is, j ∈ own.map (·.2))
    (hg : ∀ (s : Shared) (H : Hp) (C : Addr) (cl : List (Str × Addr)) (fp : List Addr), DG (X.blk s H scope (compEnvC scope cl C X.env) fp) tg t is) (ht : ∀ (s : Shared) (H : Hp) (C : Addr) (cl : List (Str × Addr)) (fp : List Addr), DTs (X.blk s H scope (compEnvC scope cl C X.env) fp) ifs tt)
    (he : ∀ (s : Shared) (H : Hp) (C : Addr) (cl : List (Str × Addr)) (fp : List Addr), DE (X.blk s H scope (compEnvC scope cl C X.env) fp) elt te) (hc : X.calm = true := by rfl) (hs : ∀ x, foldedSetIterable iter X.env x = pure x := by intro _; rfl) :
    FE X (.ListComp elt [⟨tg, iter, ifs, 0⟩] scope pos) (pLc pi t tt te (own.map (·.2))) := fun g hK =>
  (pe_lc hc hN (hi g hK) ok (fun s H C cl fp => (⟨fun pins s σ H v u Q I r ⟨g', hK', q⟩ => ((hg _ _ C cl fp) g' (hK'.trans hK)).run pins s σ H v u Q I r q⟩ : PG _ tg (XG g.c.K t is)))
    (fun s H C cl fp => (⟨fun pins s σ H Q I ⟨g', hK', q⟩ => ((ht _ _ C cl fp) g' (hK'.trans hK)).run pins s σ H Q I q⟩ : PTs _ ifs (XT g.c.K tt)))
    (fun s H C cl fp => (⟨fun pins s σ H Q I ⟨g', hK', q⟩ => ((he _ _ C cl fp) g' (hK'.trans hK)).run pins s σ H Q I q⟩ : PE _ elt (XE g.c.K te))) hs).imp fun σ H Q h => lc_sound his h
/-- y = [..], on one line, y a local -/
theorem ds_setLc {i : Nat} {y : Str} {py spos : Pos} {elt tg iter : Expr} {ifs : List Expr} {scope : Scope} {own : List (Str × Nat)} {pi : TPA} {t : TPG} {is : List Nat} {tt : TPT} {te : TPE} (hi : DI X tg iter pi) (hN : X.N.Nodup) (ok : BlkOk X.N X.env.scope scope own) (his : ∀ j ∈ is, j ∈ own.map (·.2))
    (hg : ∀ (s : Shared) (H : Hp) (C : Addr) (cl : List (Str × Addr)) (fp : List Addr), DG (X.blk s H scope (compEnvC scope cl C X.env) fp) tg t is) (ht : ∀ (s : Shared) (H : Hp) (C : Addr) (cl : List (Str × Addr)) (fp : List Addr), DTs (X.blk s H scope (compEnvC scope cl C X.env) fp) ifs tt)
    (he : ∀ (s : Shared) (H : Hp) (C : Addr) (cl : List (Str × Addr)) (fp : List Addr), DE (X.blk s H scope (compEnvC scope cl C X.env) fp) elt te)
    (hsw : swapsWith (.ListComp elt [⟨tg, iter, ifs, 0⟩] scope pos) (some (.Name y py)) spos.line X.env = pure true) (hy : X.N[i]? = some y := by rfl) (hyl : X.env.scope.names.lookup y = some .local := by rfl) (hc : X.calm = true := by rfl) (hs : ∀ x, foldedSetIterable iter X.env x = pure x := by intro _; rfl) :
    DS X (.Assign [.Name y py] (.ListComp elt [⟨tg, iter, ifs, 0⟩] scope pos) spos) (pOwnS i (pLc pi t tt te (own.map (·.2)))) := fun g hK =>
  (ps_setLc hc hN hy hyl hsw (hi g hK) ok (fun s H C cl fp => (⟨fun pins s σ H v u Q I r ⟨g', hK', q⟩ => ((hg _ _ C cl fp) g' (hK'.trans hK)).run pins s σ H v u Q I r q⟩ : PG _ tg (XG g.c.K t is)))
    (fun s H C cl fp => (⟨fun pins s σ H Q I ⟨g', hK', q⟩ => ((ht _ _ C cl fp) g' (hK'.trans hK)).run pins s σ H Q I q⟩ : PTs _ ifs (XT g.c.K tt)))
    (fun s H C cl fp => (⟨fun pins s σ H Q I ⟨g', hK', q⟩ => ((he _ _ C cl fp) g' (hK'.trans hK)).run pins s σ H Q I q⟩ : PE _ elt (XE g.c.K te))) hs).imp fun D σ H ⟨n, F, ρ, P, ok, h, k⟩ => by
  refine lc_sound his ⟨n, F, ρ, _, ok, h, fun n1 F1 H1 a x d s1 ok1 hn hc h1 => ?_⟩
  refine k.nx n1 F1 (upd H1 a x) _ _ s1 ((ok1.allocH x hn).setOwn i upd_same (ok1.freeF hn) (ok1.freeH0 hn) ⟨ok1.nofp hn, ok1.freeP hn⟩ hc fun j e hj _ hz => ?_) h1
  obtain ⟨o, y, e1, e2, _⟩ := ok1.cells j _ hj
  rw [hz] at e1
  cases e1
  rw [hn] at e2
  cases e2
end

/-! ### the rule for a def -/
def env0 (m : Nat) (ds : List D) : PEnv := ds.map Cell.sh ++ List.replicate (m - ds.length) .any
theorem reps_map_get {c : Cfg} {F : Hp} : ∀ {vs : List V} {ds : List D} (i : Nat), Reps c F vs ds → ∀ k, (ds.map Cell.sh)[i]? = some k → ∃ v d, k = .sh d ∧ (vs.map some)[i]? = some (some v) ∧ Rep c F v d
  | _, _, _, .nil, k, h => by simp at h
  | _, _, 0, .cons (v := v) (d := d) r _, k, h => by
    have h : some (Cell.sh d) = some k := h
    cases h
    exact ⟨v, d, rfl, rfl, r⟩
  | _, _, i + 1, .cons _ t, k, h => reps_map_get i t k h
theorem Ok.start {c : Cfg} {n : Nat} {F H : Hp} {vs : List V} {ds : List D} {N : List Str} (h1 : Same F H) (h2 : ∀ b, c.fp b → F b = none) (h3 : DeckAt c n H) (r : Reps c F vs ds) (hl : vs.length ≤ N.length) : Ok ⟨c, H, F, fun _ => none⟩ n F H (L2.start N vs) (env0 N.length ds) where
  keep := fun b x e _ => e
  sub := h1
  ffp := h2
  new := fun b _ e => e
  dk := h3
  pin := fun b x q => nomatch q
  len := by
    unfold L2.start env0
    rw [List.length_append, List.length_append, List.length_map, List.length_map, List.length_replicate, List.length_replicate, r.length]
  cells := fun i k e => by
    unfold env0 at e
    by_cases hi : i < ds.length
    · rw [List.getElem?_append_left (by simpa using hi)] at e
      obtain ⟨v, d, rfl, e1, e2⟩ := reps_map_get i r k e
      refine ⟨v, ?_, e2⟩
      unfold L2.start
      rw [List.getElem?_append_left (by rw [List.length_map, r.length]; exact hi)]
      exact e1
    · rw [List.getElem?_append_right (by simpa using hi), List.getElem?_replicate] at e
      split at e
      · cases e; trivial
      · cases e
  disj := fun i j d e' o h1 _ _ _ => by
    exfalso
    unfold env0 at h1
    by_cases hi : i < ds.length
    · rw [List.getElem?_append_left (by simpa using hi)] at h1
      obtain ⟨v, d, z, _⟩ := reps_map_get i r _ h1
      cases z
    · rw [List.getElem?_append_right (by simpa using hi), List.getElem?_replicate] at h1
      split at h1 <;> cases h1
section
variable {P : Program} {w : World} {K : PySem.W.Frag} {mg : Str → Option Value} {base : Heap}
theorem _root_.L2.Fun.okP {x qual : Str} {st : Stmt} {f : Addr} {fd : FuncData} {N ps : List Str} {k : Nat} {S : Spec} (Fu : Fun K x qual st f fd) (sc : FnScope N ps (defScope st)) (len : ∀ ds n R, S ds n R → ds.length = ps.length)
    (hbody : ∀ (cdv : Value) (A : Around) (outer : List Env) (s : Shared) (H : Hp) (E : XK), Room k (A.deeper (envOfC qual (defScope st) s.heap.objs.size f cdv)) →
      ∃ q, DSs (cxOf CX0 P w K mg base N qual (defScope st) f cdv A outer s H E).nox (defBody st) q ∧ ∀ ds n R, S ds n R → q { nx := fun _ m => R .non m, rt := R } (env0 N.length ds) n) : FnOk P w K mg base CX0 (k + 1) f fd ps (spP K S) := by
  have hpl : ps.length ≤ N.length := by have := congrArg List.length sc.pre; rw [List.length_take] at this; omega
  refine Fu.ok sc (fun vs H Q E h => ?_) (fun cdv A outer s H vs Q E hr h => ?_)
  · obtain ⟨c, n, F, ds, R, hK, h1, h2, h3, r, hS, _⟩ := h
    rw [r.length]
    exact len ds n R hS
  · obtain ⟨c, n, F, ds, R, hK, h1, h2, h3, r, hS, hq⟩ := h
    obtain ⟨q, hd, hb⟩ := hbody cdv A outer s H E hr
    refine ⟨LS ⟨c, H, F, fun _ => none⟩ q, hd _ hK, n, F, env0 N.length ds, _, Ok.start h1 h2 h3 r ?_, hb ds n R hS, ?_⟩
    · rw [r.length, len ds n R hS]; exact hpl
    · have fin : ∀ n' F' H' σ' ρ' v d, Same F F' → Ok ⟨c, H, F, fun _ => none⟩ n' F' H' σ' ρ' → Rep c F' v d → R d n' → Q v H' := fun n' F' H' σ' ρ' v d s ok r hR => hq n' F' H' v d s ok.keep ok.sub ok.ffp ok.new ok.dk r hR
      exact ⟨fun n' F' H' σ' ρ' s ok h => fin n' F' H' σ' ρ' _ _ s ok .non h, fun n' F' H' σ' ρ' v d s ok r h => fin n' F' H' σ' ρ' v d s ok r h, fun _ _ _ _ _ _ _ h => h.elim, fun _ _ _ _ _ _ _ h => h.elim⟩
end
end PL

/-! PL: enumerate of lists, tuples, texts, with a start; iterables. -/
namespace PL
open PySem PySem.Spec L2

/-! ### enumerate -/
def ItE (k0 : Int) (n : Nat) (Src : Hp → Prop) (Y : Nat → V → Prop) : It :=
  ⟨fun i H => i < n ∧ Src H, fun i H v H' => ∃ T x, v = .ref T ∧ H T = none ∧ H' = upd H T (.tup [.int (k0 + (i : Int)), x]) ∧ Y i x, fun i H => i = n ∧ Src H⟩
theorem turn_enumG {P : Program} {w : World} {K : PySem.W.Frag} {elts : List Expr} {kk : Nat} {tpos : Pos} {k0 : Int} {n : Nat} {e it : Addr} {Src : Hp → Prop} {Y : Nat → V → Prop} {ItS : Nat → Heap → Prop}
    (hne : e ≠ it) (objS : ∀ i h, ItS i h → ∃ o, h.get? it = some o ∧ ∀ v, o.data ≠ .cell v) (keepS : ∀ i h h', ItS i h → (∀ o, h.get? it = some o → h'.get? it = some o) → ItS i h')
    (W : ∀ (X : Cx), X.prog = P → X.w = w → X.K = K → X.calm = true → ∀ (i : Nat) (pins : List (Addr × Obj)) (s : Shared) (σ : L2.St) (H : Hp), Inv X pins σ H s → (∀ b ∈ [e, it], FpOk X pins H b) → Src H → ItS i s.heap → ∃ (fp : List Addr) (Pv : Nat → Value → Prop) (Sv : Nat → Heap → Prop),
      Draws P w X.A.in1 it fp n Pv Sv ∧ e ∉ fp ∧ it ∈ fp ∧ Sv i s.heap ∧ (∀ j h, Sv j h → ItS j h) ∧ ∀ j u, Pv j u → ∃ x, RelV x u ∧ Y j x) :
    Turn P w K (.Tuple elts kk tpos) (ItE k0 n Src Y) [e, it] e (fun i h => (∃ old, IsEnum h e it (k0 + (i : Int)) old) ∧ ItS i h) where
  mem := by simp
  obj := fun i h st b hb => by
    obtain ⟨⟨old, he⟩, hi⟩ := st
    have e' : b = e ∨ b = it := by simpa using hb
    rcases e' with z | z
    · rw [z]; exact ⟨_, he, fun v q => nomatch q⟩
    · rw [z]; exact objS i h hi
  keep := fun i h h' st k => let ⟨⟨old, he⟩, hi⟩ := st; ⟨⟨old, k e (by simp) _ he⟩, keepS i h h' hi fun o q => k it (by simp) o q⟩
  item := by
    intro X hP hw hK hc i pins s σ H E I hf st hg
    obtain ⟨⟨old, he⟩, hit⟩ := st
    obtain ⟨fp, Pv, Sv, D, h1, h2, h3, h4, h5⟩ := W X hP hw hK hc i pins s σ H I hf hg.2 hit
    have hel : e < s.heap.objs.size := Heap.lt_size he
    have hil : it < s.heap.objs.size := by obtain ⟨_, q, _⟩ := objS i _ hit; exact Heap.lt_size q
    refine (GoesN.enumFrom (elts := elts) (x1 := kk) (pos := tpos) k0 D e hne h1 h2).goes i s (fun u s2 => ∃ x H', Inv X pins σ H' s2 ∧ RelV x u ∧ (ItE k0 n Src Y).yld i H x H' ∧ ((∃ old, IsEnum s2.heap e it (k0 + ((i + 1 : Nat) : Int)) old) ∧ ItS (i + 1) s2.heap) ∧ ∀ b ∈ [e, it], H' b = none) E hg.1 ⟨⟨old, he⟩, h3⟩ ?_
    rintro v h' tk ⟨T, t, u, rfl, hT, hu, hTT⟩ st' hk htk
    obtain ⟨x, rx, hy⟩ := h5 i u hu
    have hn : H T = none := I.hok.fresh hT
    have new : ObjOk X.prog X.w (upd H T (.tup [.int (k0 + (i : Int)), x])) h' T (.tup [.int (k0 + (i : Int)), x]) :=
      ⟨by show 2 ≤ sizeLine; decide, [.int (k0 + (i : Int)) t, u], .cons ⟨_, rfl⟩ (.cons rx .nil), hTT⟩
    have I1 : Inv X pins σ (upd H T (.tup [.int (k0 + (i : Int)), x])) { s with heap := h', toks := tk } := I.turnedNew (ch := [e, it]) hk hf hT new
    refine ⟨.ref T, _, I1, rfl, ⟨T, x, rfl, hn, rfl, hy⟩, ⟨st'.1, h4 _ _ st'.2⟩, fun b hb => ?_⟩
    have hb' : b < s.heap.objs.size := by
      have e' : b = e ∨ b = it := by simpa using hb
      rcases e' with z | z
      · rw [z]; exact hel
      · rw [z]; exact hil
    rw [upd_ne (Nat.ne_of_lt (Nat.lt_of_lt_of_le hb' hT))]
    exact (hf b hb).1
  done := by
    intro X hP hw hK hc i pins s σ H E I hf st hg
    obtain ⟨⟨old, he⟩, hit⟩ := st
    obtain ⟨rfl, hs⟩ := hg
    obtain ⟨fp, Pv, Sv, D, h1, h2, h3, h4, h5⟩ := W X hP hw hK hc i pins s σ H I hf hs hit
    refine (GoesN.enumFrom (elts := elts) (x1 := kk) (pos := tpos) k0 D e hne h1 h2).stops s (fun s1 => Inv X pins σ H s1) E ⟨⟨old, he⟩, h3⟩ ?_
    intro h' tk hk htk
    have nit : ∀ b u, H b = some u → b ∉ [e, it] := fun b u q z => by rw [(hf b z).1] at q; cases q
    refine I.step (g' := s.gens) (d' := s.drawn) (t' := tk) (ch := [e, it]) (fun b hb => ?_) (fun b o _ _ hc q _ => hk b o hc q) (fun b o _ _ hc q _ => ⟨o.slots, hk b o hc q⟩) (fun _ _ _ _ n => n)
      (fun b o hc q => ⟨o, hk b o hc q⟩) (fun _ _ q => q) (fun _ _ _ q => q) (fun b ps q => ⟨#[], by rw [q]; simp⟩) (fun m hm => ?_) (fun b u q => ?_) I.bare
    · obtain ⟨_, f1, _, f3, f4, f5⟩ := hf b hb
      exact ⟨f3, f1, f4, f5⟩
    · obtain ⟨o, es, ep, ho, r⟩ := hm
      exact ⟨o, es, ep, hk _ o (fun z => (hf _ z).2.1 rfl) ho, r⟩
    · refine (I.hok b u q).stay (fun c v hc q' => hk c v ?_ q') (fun _ q => q) fun _ _ q => q
      rcases hc with z | z
      · rw [z]; exact nit b u q
      · exact nit c _ z
  self := fun A i s Q E st h => let ⟨⟨_, he⟩, _⟩ := st; wpAny_pyIter_enum he h
/-- the enumerate object stands; it is walked -/
theorem pie_enum {X : Cx} {pins : List (Addr × Obj)} {σ : L2.St} {H : Hp} {s : Shared} {h' : Heap} {k0 : Int} {n : Nat} {Src : Hp → Prop} {Y : Nat → V → Prop} {ItS : Nat → Heap → Prop} {R : It → Hp → Prop} {elts : List Expr} {kk : Nat} {tpos : Pos} {o : Obj} (I : Inv X pins σ H s)
    (he : IsEnum h' (s.heap.objs.size + 1) s.heap.objs.size k0 .none) (ho : h'.get? s.heap.objs.size = some o) (hk : ∀ b o, s.heap.get? b = some o → h'.get? b = some o)
    (hi : ItS 0 h') (objS : ∀ i h, ItS i h → ∃ o, h.get? s.heap.objs.size = some o ∧ ∀ v, o.data ≠ .cell v) (keepS : ∀ i h h', ItS i h → (∀ o, h.get? s.heap.objs.size = some o → h'.get? s.heap.objs.size = some o) → ItS i h')
    (W : ∀ (X' : Cx), X'.prog = X.prog → X'.w = X.w → X'.K = X.K → X'.calm = true → ∀ (i : Nat) (pins : List (Addr × Obj)) (s' : Shared) (σ : L2.St) (H : Hp), Inv X' pins σ H s' → (∀ b ∈ [s.heap.objs.size + 1, s.heap.objs.size], FpOk X' pins H b) → Src H → ItS i s'.heap → ∃ (fp : List Addr) (Pv : Nat → Value → Prop) (Sv : Nat → Heap → Prop),
      Draws X.prog X.w X'.A.in1 s.heap.objs.size fp n Pv Sv ∧ s.heap.objs.size + 1 ∉ fp ∧ s.heap.objs.size ∈ fp ∧ Sv i s'.heap ∧ (∀ j h, Sv j h → ItS j h) ∧ ∀ j u, Pv j u → ∃ x, RelV x u ∧ Y j x)
    (q : R (ItE k0 n Src Y) H) : PIE X pins σ (.Tuple elts kk tpos) R (.ref (s.heap.objs.size + 1)) { s with heap := h' } := by
  have I2 : Inv X pins σ H { s with heap := h' } := I.kept (t' := s.toks) hk
  refine ⟨s.heap.objs.size + 1, [s.heap.objs.size + 1, s.heap.objs.size], _, _, H, rfl, I2, turn_enumG (k0 := k0) (n := n) (Nat.succ_ne_self _) objS keepS W, ⟨⟨.none, by simpa using he⟩, hi⟩, fun b hb => ?_, q⟩
  have e' : b = s.heap.objs.size + 1 ∨ b = s.heap.objs.size := by simpa using hb
  have hle : s.heap.objs.size ≤ b := by
    rcases e' with z | z
    · rw [z]; exact Nat.le_add_right _ _
    · rw [z]; exact Nat.le_refl _
  exact I.fpOk hle (I.hok.fresh hle)
theorem vals_back : ∀ {xs : List V} {us : List Value} {i : Nat} {u : Value}, Vals xs us → us[i]? = some u → ∃ x, xs[i]? = some x ∧ RelV x u
  | _, _, _, _, .nil, e => by simp at e
  | _, _, 0, _, .cons r _, e => by simp at e; subst e; exact ⟨_, rfl, r⟩
  | _, _, i + 1, u, .cons _ t, e => by
    obtain ⟨x, h1, h2⟩ := vals_back (i := i) (u := u) t (by simpa using e)
    exact ⟨x, by simpa using h1, h2⟩
/-- a list, a tuple, a text -/
def iEnumV (K : PySem.W.Frag) (k0 : Int) (v : V) (H : Hp) (R : It → Hp → Prop) : Prop :=
  (∃ a xs, v = .ref a ∧ SqL K H a xs ∧ R (ItE k0 xs.length (fun H => SqL K H a xs) fun i x => xs[i]? = some x) H) ∨
  (∃ a xs, v = .ref a ∧ SqT K H a xs ∧ R (ItE k0 xs.length (fun H => SqT K H a xs) fun i x => xs[i]? = some x) H) ∨
  (∃ z, v = .str z ∧ R (ItE k0 z.cps.size (fun _ => True) fun i x => ∃ c, z.cps[i]? = some c ∧ x = .str ⟨#[c]⟩) H)
theorem enum_made {X : Cx} {pins : List (Addr × Obj)} {σ : L2.St} {H : Hp} {s : Shared} {k0 : Int} {v : V} {u : Value} {R : It → Hp → Prop} {elts : List Expr} {kk : Nat} {tpos : Pos} (hc : X.calm = true) (I : Inv X pins σ H s) (r : RelV v u) (q : iEnumV X.K k0 v H R)
    {f : Value → Sem Value} {Q : Value → Shared → Prop} {E : Value → Shared → Prop}
    (hf : ∀ (o : Obj) (Hh : Heap → Prop), Begins u o Hh → Hh s.heap → (∀ h', IsEnum h' (s.heap.objs.size + 1) s.heap.objs.size k0 .none → h'.get? s.heap.objs.size = some o → h'.objs.size = s.heap.objs.size + 2 → (∀ b o, s.heap.get? b = some o → h'.get? b = some o) → Q (.ref (s.heap.objs.size + 1)) { s with heap := h' }) → wpAny (model X.prog X.w) X.A (f u) Q E s)
    (hQ : ∀ h' e, IsEnum h' e s.heap.objs.size k0 .none → PIE X pins σ (.Tuple elts kk tpos) R (.ref e) { s with heap := h' } → Q (.ref e) { s with heap := h' }) : wpAny (model X.prog X.w) X.A (f u) Q E s := by
  rcases q with ⟨a, xs, rfl, hS, q⟩ | ⟨a, xs, rfl, hS, q⟩ | ⟨z, rfl, q⟩
  · cases r
    obtain ⟨its, rv, p, hz⟩ := I.list hS
    refine hf _ _ (begins_list a its.toArray) p.isList fun h' he ho hsz hk => hQ _ _ he (pie_enum I he ho hk (ItS := fun i h => h.IsListIter s.heap.objs.size a i) ⟨_, ho, rfl, by rfl⟩ (fun i h ⟨o, e, c, d⟩ => ⟨o, e, fun v z => by rw [d] at z; cases z⟩) (fun i h h' st k => st.at k) (fun X' hP hw hK hc' i pins' s' σ' H' I' hfp hS' hit => ?_) q)
    obtain ⟨its', rv', p', _⟩ := I'.list (by rw [hK]; exact hS')
    have na : a ≠ s.heap.objs.size := fun z => by
      obtain ⟨o, e, _⟩ := p.isList
      rw [z] at e
      exact absurd (Heap.lt_size e) (Nat.lt_irrefl _)
    have na1 : s.heap.objs.size + 1 ≠ a := fun z => by
      obtain ⟨o, e, _⟩ := p.isList
      rw [← z] at e
      exact absurd (Heap.lt_size e) (Nat.not_lt.mpr (Nat.le_succ _))
    refine ⟨[s.heap.objs.size, a], fun i v => its'.toArray[i]? = some v, fun i h => h.IsListIter s.heap.objs.size a i ∧ h.IsList a its'.toArray, (by rw [← hP, ← hw, rv'.length, ← List.size_toArray]; exact Draws.list (A := X'.A.in1) (I'.ok.hd hc') s.heap.objs.size a na its'.toArray), ?_, List.mem_cons_self, ⟨hit, p'.isList⟩, fun j h hh => hh.1, fun j u hu => ?_⟩
    · simp only [List.mem_cons, List.not_mem_nil, or_false, not_or]
      exact ⟨Nat.succ_ne_self _, na1⟩
    · obtain ⟨x, e, r⟩ := vals_back rv' (by simpa using hu)
      exact ⟨x, r, e⟩
  · cases r
    obtain ⟨its, rv, p, hz⟩ := I.tuple hS
    refine hf _ _ (begins_tuple a its.toArray) p fun h' he ho hsz hk => hQ _ _ he (pie_enum I he ho hk (ItS := fun i h => h.IsTupleIter s.heap.objs.size a i) ⟨_, ho, rfl, by rfl⟩ (fun i h ⟨o, e, c, d⟩ => ⟨o, e, fun v z => by rw [d] at z; cases z⟩) (fun i h h' st k => st.at k) (fun X' hP hw hK hc' i pins' s' σ' H' I' hfp hS' hit => ?_) q)
    obtain ⟨its', rv', p', _⟩ := I'.tuple (by rw [hK]; exact hS')
    have na : a ≠ s.heap.objs.size := fun z => by
      obtain ⟨o, e, _⟩ := id p
      rw [z] at e
      exact absurd (Heap.lt_size e) (Nat.lt_irrefl _)
    have na1 : s.heap.objs.size + 1 ≠ a := fun z => by
      obtain ⟨o, e, _⟩ := id p
      rw [← z] at e
      exact absurd (Heap.lt_size e) (Nat.not_lt.mpr (Nat.le_succ _))
    refine ⟨[s.heap.objs.size, a], fun i v => its'.toArray[i]? = some v, fun i h => h.IsTupleIter s.heap.objs.size a i ∧ h.IsTuple a its'.toArray, (by rw [← hP, ← hw, rv'.length, ← List.size_toArray]; exact Draws.tuple (A := X'.A.in1) (I'.ok.hd hc') s.heap.objs.size a na its'.toArray), ?_, List.mem_cons_self, ⟨hit, p'⟩, fun j h hh => hh.1, fun j u hu => ?_⟩
    · simp only [List.mem_cons, List.not_mem_nil, or_false, not_or]
      exact ⟨Nat.succ_ne_self _, na1⟩
    · obtain ⟨x, e, r⟩ := vals_back rv' (by simpa using hu)
      exact ⟨x, r, e⟩
  · obtain ⟨t, rfl⟩ := r
    refine hf _ _ (begins_text z t) trivial fun h' he ho hsz hk => hQ _ _ he (pie_enum I he ho hk (ItS := fun i h => h.IsStrIter s.heap.objs.size (strIterType z) z t i) ⟨_, ho, rfl, by rfl⟩ (fun i h ⟨o, e, c, d⟩ => ⟨o, e, fun v z => by rw [d] at z; cases z⟩) (fun i h h' ⟨o, e, c, d⟩ k => ⟨o, k o e, c, d⟩) (fun X' hP hw hK hc' i pins' s' σ' H' I' hfp hS' hit => ?_) q)
    refine ⟨_, _, _, (by rw [← hP, ← hw]; exact Draws.text (A := X'.A.in1) (I'.ok.hd hc') s.heap.objs.size z t), ?_, List.mem_cons_self, hit, fun j h hh => hh, fun j u hu => ?_⟩
    · simp only [List.mem_cons, List.not_mem_nil, or_false]
      exact Nat.succ_ne_self _
    · obtain ⟨c, v, e, rfl⟩ := hu
      exact ⟨.str ⟨#[c]⟩, ⟨_, rfl⟩, c, e, rfl⟩
set_option maxHeartbeats 1000000 in
/-- enumerate(v), whatever v begins with -/
theorem meets_enum1 {v : Value} {o : Obj} {Hh : Heap → Prop} (B : Begins v o Hh) :
    Meets (Builtin.«enumerate.__new__» ⟨[.type "enumerate", v], []⟩) (fun _ R s => Hh s.heap ∧
      R (.ok (.ret (.ref (s.heap.push o).objs.size))) { s with heap := (s.heap.push o).push { cls := .type "enumerate", data := .fields #[.none, .bool false, .ref s.heap.objs.size, rawInt 0, .none, .none] } }) :=
  .of_wp fun prog w A R s h => by
    obtain ⟨hp, gg, dd, tk, os⟩ := s
    obtain ⟨h1, h⟩ := h
    have hsub := sub_enumerate
    have beg : ∀ {A' : Around} {E : Value → Shared → Prop} {Q : Value → Shared → Prop}, Q (.ref hp.objs.size) ⟨hp.push o, gg, dd, tk, os⟩ → wpAny (model prog w) A' (pyIter v) Q E ⟨hp, gg, dd, tk, os⟩ :=
      fun q => B.iter prog w _ _ ⟨hp, gg, dd, tk, os⟩ _ h1 q
    wp_walk using beg
    refine wpAny_stack_any fun st => wpAny_pure ?_
    split
    · rename_i c _ _ _ _ _
      cases (c == Value.type "enumerate") <;> (wp_walk using beg; exact ⟨_, rfl, h⟩)
    · wp_walk using beg
      exact ⟨_, rfl, h⟩
theorem enum_one {prog : Program} {w : World} {A : Around} {E : Value → Shared → Prop} {s : Shared} {v : Value} {o : Obj} {Hh : Heap → Prop} {Q : Value → Shared → Prop} (B : Begins v o Hh) (h1 : Hh s.heap)
    (h : ∀ h', IsEnum h' (s.heap.objs.size + 1) s.heap.objs.size 0 .none → h'.get? s.heap.objs.size = some o → h'.objs.size = s.heap.objs.size + 2 →
      (∀ b o, s.heap.get? b = some o → h'.get? b = some o) → Q (.ref (s.heap.objs.size + 1)) { s with heap := h' }) : wpAny (model prog w) A (call (.type "enumerate") [v]) Q E s := by
  refine callType_new F.called_enumerate (by decide) (F.typeCall_enumerate_1 _) (F.newCall_enumerate_1 _) (fun obj => F.args_object_init_2 obj _) F.entry_enumerate_new (meets_enum1 B) ⟨h1, ?_⟩
  have hz : (s.heap.push o).objs.size = s.heap.objs.size + 1 := Heap.size_push ..
  show _ ∧ _
  rw [hz]
  have he : IsEnum ((s.heap.push o).push { cls := .type "enumerate", data := .fields #[.none, .bool false, .ref s.heap.objs.size, rawInt 0, .none, .none] }) (s.heap.objs.size + 1) s.heap.objs.size 0 .none := by
    have q := Heap.get?_push_size (s.heap.push o) (o := { cls := .type "enumerate", data := .fields #[.none, .bool false, .ref s.heap.objs.size, rawInt 0, .none, .none] }) rfl
    rw [hz] at q; exact q
  exact ⟨⟨_, he, rfl⟩, h _ he (Heap.get?_push_of_some _ (Heap.get?_push_size _ B.free)) (by rw [Heap.size_push, hz]) fun b o x => Heap.get?_push_of_some _ (Heap.get?_push_of_some _ x)⟩
section
variable {X : Cx} {e : Expr} {p pos tpos : Pos} {elts : List Expr} {kk : Nat}
def iEnumG (K : PySem.W.Frag) (k0 : Int) (ta : TA) : TI := fun σ H R => ta σ H fun vs H1 => ∃ v, vs = [v] ∧ iEnumV K k0 v H1 R
theorem pi_enumG {ta : TA} (hg : Gl X "enumerate") (hm : X.mg "enumerate" = none) (ha : PA X [e] ta) (hc : X.calm = true := by rfl) (hs : starEach [e] X.env = [(false, eval e X.env)] := by rfl) :
    PI X (.Tuple elts kk tpos) (.Call (.Name "enumerate" p) [e] [] pos) (iEnumG X.K 0 ta) := by
  refine ⟨fun pins s σ H R I h => ?_⟩
  refine PyProof.Rows.Call_ (ld_blt I hg hm PyProof.Rows.boot_enumerate (PyProof.Rows.callWith_type1 (thn (ha.run pos pins s σ H _ I h) fun us s1 ⟨vs, H1, I1, r1, q1⟩ => ?_) hs rfl))
  obtain ⟨v, rfl, q⟩ := q1
  cases r1 with
  | cons r rr =>
    cases rr
    exact enum_made (f := fun u => call (.type "enumerate") [u]) hc I1 r q (fun o Hh B hH k => enum_one B hH k) fun h' e' he hp => wpAny_pyIter_enum he hp
theorem callWith_tyK {M : Model} {A : Around} {E : Value → Shared → Prop} {s : Shared} {env : Env} {T : String} {Q : Value → Shared → Prop} {rest : List Expr} {kws : List Keyword} (hall : (backToKw pos (keywordEach kws env)).all (·.1.isSome) = true)
    (h : wpAny M A (spliced (backTo pos (starEach (e :: rest) env))) (fun vs s₁ => wpAny M A (evalAll ((backToKw pos (keywordEach kws env)).map (·.2)))
      (fun ks s₂ => True ∧ wpAny M A (call (.type T) ([] ++ vs) (((backToKw pos (keywordEach kws env)).filterMap (·.1)).zip ks)) Q E s₂) E s₁) E s)
    (hplain : ((backTo pos (starEach (e :: rest) env)).any (·.1) || (backToKw pos (keywordEach kws env)).any (·.1.isNone)) = false) (he : starEach (e :: rest) env = (false, eval e env) :: starEach rest env) :
    wpAny M A (callWith pos (.type T) [] (backTo pos (starEach (e :: rest) env)) (backToKw pos (keywordEach kws env))) Q E s :=
  PySem.W.callWith_of (P := fun _ => True) hplain (fun _ _ => ⟨.machine, .inr (.inl rfl), fun A Q E s _ q => wpAny_pure q⟩) (PyProof.Rows.evalArgs_kw2 hall h he)
def iEnumK (K : PySem.W.Frag) (ta tk : TA) : TI := fun σ H R => ta σ H fun vs H1 => tk σ H1 fun ks H2 => ∃ v k0, vs = [v] ∧ ks = [.int k0] ∧ -(2 ^ 63) ≤ k0 ∧ k0 < 2 ^ 63 ∧ iEnumV K k0 v H2 R
theorem pi_enumK {ta tk : TA} {kws : List Keyword} (hg : Gl X "enumerate") (hm : X.mg "enumerate" = none) (ha : PA X [e] ta) (hk : PK X kws tk) (hc : X.calm = true := by rfl) (hs : starEach [e] X.env = (false, eval e X.env) :: starEach [] X.env := by rfl)
    (hall : (backToKw pos (keywordEach kws X.env)).all (·.1.isSome) = true := by rfl) (hks : (backToKw pos (keywordEach kws X.env)).filterMap (·.1) = [Str.ofString "start"] := by rfl)
    (hpl : ((backTo pos (starEach [e] X.env)).any (·.1) || (backToKw pos (keywordEach kws X.env)).any (·.1.isNone)) = false := by rfl) :
    PI X (.Tuple elts kk tpos) (.Call (.Name "enumerate" p) [e] kws pos) (iEnumK X.K ta tk) := by
  constructor
  intro pins s σ H R I h
  refine wpAny_Call_Name_kw (ld_blt I hg hm PyProof.Rows.boot_enumerate (callWith_tyK hall (thn (ha.run pos pins s σ H _ I h) fun us s1 ⟨vs, H1, I1, r1, q1⟩ => thn (hk.run pos pins s1 σ H1 _ I1 q1) fun ws s2 ⟨zs, H2, I2, r2, q2⟩ => ⟨trivial, ?_⟩) hpl hs))
  obtain ⟨v, k0, rfl, rfl, b1, b2, q⟩ := q2
  rw [hks]
  cases r1 with
  | cons r rr =>
    cases rr
    cases r2 with
    | cons r2 rr2 =>
      cases rr2
      obtain ⟨t, rfl⟩ := r2
      exact enum_made (f := fun u => call (.type "enumerate") [u] [(Str.ofString "start", .int k0 t)]) hc I2 r q (fun o Hh B hH k => enum_begins_start B hH b1 b2 k) fun h' e' he hp => wpAny_pyIter_enum he hp
end
end PL

/-! PL: defs that are called while no repr is under way. -/
namespace PL
open PySem PySem.Spec L2
open PyProof.Rows (envOfC)
/-- the def at f keeps its promise wherever no repr is under way -/
structure FnG (P : Program) (w : World) (K : PySem.W.Frag) (mg : Str → Option Value) (base : Heap) (k : Nat) (f : Addr) (fd : FuncData) (ps : List Str) (sp : Sp) : Prop where
  len : ∀ vs H Q E, sp vs H Q E → vs.length = ps.length
  run : ∀ (A : Around) (outer : List Env) (s : Shared) (H : Hp) (args : Args) (us : List Value) (vs : List V) (Q : VK) (E : XK), A.guards = some [] → Room k A →
    Env0 P w K mg base A outer s H → BindsTo s fd args (ps.zip us) → Vals vs us → sp vs H Q E → codeAny (model P w) A (.call (.ref f) args) (CR CX0 outer P w H s Q E) s
theorem FnG.mono {P : Program} {w : World} {K : PySem.W.Frag} {mg : Str → Option Value} {base : Heap} {j k : Nat} {f : Addr} {fd : FuncData} {ps : List Str} {sp : Sp} (F : FnG P w K mg base j f fd ps sp) (h : j ≤ k) : FnG P w K mg base k f fd ps sp :=
  ⟨F.len, fun A outer s H args us vs Q E hg hr => F.run A outer s H args us vs Q E hg (hr.mono h)⟩
theorem cr_end {P : Program} {w : World} {X : Cx} {pins : List (Addr × Obj)} {σ : L2.St} {H : Hp} {s : Shared} {Q : VK} {E : XK} (I : Inv X pins σ H s) {r : Result} {s' : Shared} (h : CR CX0 X.stack X.prog X.w H s Q E r s') :
    ∃ u, r = .ok (.ret u) ∧ EP X pins σ Q u s' := by
  match r, h with
  | .ok (.ret u), h => exact ⟨u, rfl, I.after h⟩
  | .ok .next, h => exact False.elim h
  | .ok .brk, h => exact False.elim h
  | .ok .cont, h => exact False.elim h
  | .error e, h => exact False.elim h
section
variable {X : Cx} {k : Nat} {f : Addr} {fd : FuncData} {ps : List Str} {sp : Sp}
theorem run_g {pins : List (Addr × Obj)} {σ : L2.St} {H : Hp} {s : Shared} {Q : VK} {us zs : List Value} {vs : List V} {E : XK} {kw : List (Str × Value)} (F : FnG X.prog X.w X.K X.mg X.base k f fd ps sp) (hg : X.A.guards = some []) (hr : Room k X.A)
    (I : Inv X pins σ H s) (hb : BindsTo s fd ⟨us, kw⟩ (ps.zip zs)) (r : Vals vs zs) (h : sp vs H Q E) : wpAny (model X.prog X.w) X.A (call (.ref f) us kw) (EP X pins σ Q) X.xe s := by
  refine wpAny_call (codeAny_mono (F.run X.A X.stack s H ⟨us, kw⟩ zs vs Q E hg hr I.env0 hb r h) ?_)
  intro r s' hq
  obtain ⟨u, rfl, he⟩ := cr_end (P := X.prog) (w := X.w) I hq
  exact he
theorem pe_callG {E : XK} {x : Str} {pf pos : Pos} {e : Expr} {es : List Expr} {t : TA} (F : FnG X.prog X.w X.K X.mg X.base k f fd ps sp) (hgd : X.A.guards = some []) (hr : Room k X.A) (hg : Gl X x) (hm : X.mg x = some (.ref f)) (hk : PySem.W.keepIn X.K (.ref f) = true)
    (hb : Binds X.K fd ps []) (ha : PA X (e :: es) t) (hdb : (x == ("__debug__" : Str)) = false := by decide) (he : starEach (e :: es) X.env = (false, eval e X.env) :: starEach es X.env := by rfl) (hpl : (backTo pos (starEach es X.env)).any (·.1) = false := by rfl) :
    PE X (.Call (.Name x pf) (e :: es) [] pos) (fun σ H Q => t σ H fun vs H1 => sp vs H1 Q E) := by
  constructor
  intro pins s σ H Q I h
  refine wpAny_Call_Name_kw (ld_glob I hg hm ?_ hdb)
  refine PySem.W.callWith_K (h₀ := X.base) I.ok.mod.kin hk (thn (ha.run pos pins s σ H _ I h) ?_) he hpl
  rintro us s1 ⟨vs, H1, I1, r, q⟩
  have hl : (us ++ []).length = ps.length := by rw [List.append_nil, ← r.length]; exact F.len _ _ _ _ q
  have b := hb s1 us I1.kIn hl
  rw [List.append_nil] at b
  exact ⟨I1.kIn, run_g F hgd hr I1 b r q⟩
theorem pe_callG0 {E : XK} {x : Str} {pf pos : Pos} (F : FnG X.prog X.w X.K X.mg X.base k f fd ps sp) (hgd : X.A.guards = some []) (hr : Room k X.A) (hg : Gl X x) (hm : X.mg x = some (.ref f)) (hk : PySem.W.keepIn X.K (.ref f) = true)
    (hb : Binds X.K fd ps []) (hdb : (x == ("__debug__" : Str)) = false := by decide) : PE X (.Call (.Name x pf) [] [] pos) (fun σ H Q => sp [] H Q E) := by
  constructor
  intro pins s σ H Q I q
  refine wpAny_Call_Name_kw (ld_glob I hg hm ?_ hdb)
  have hl : ([] ++ ([] : List Value)).length = ps.length := F.len _ _ _ _ q
  have b := hb s [] I.kIn hl
  exact PySem.W.callWith_K0 I.kIn hk (run_g (zs := []) F hgd hr I b .nil q)
/-- keywords, behind positional arguments or alone -/
theorem pe_callGK {E : XK} {x : Str} {pf pos : Pos} {e : Expr} {es : List Expr} {kws : List Keyword} {ks : List Str} {gL : List Value → List Value → List Value} {gV : List V → List V → List V} {t tk : TA} (F : FnG X.prog X.w X.K X.mg X.base k f fd ps sp) (hgd : X.A.guards = some []) (hr : Room k X.A) (hg : Gl X x) (hm : X.mg x = some (.ref f)) (hk : PySem.W.keepIn X.K (.ref f) = true)
    (hb : KBinds X.K fd ps ks gL gV) (ha : PA X (e :: es) t) (hkw : PK X kws tk) (hall : (backToKw pos (keywordEach kws X.env)).all (·.1.isSome) = true := by rfl) (hks : (backToKw pos (keywordEach kws X.env)).filterMap (·.1) = ks := by rfl)
    (hdb : (x == ("__debug__" : Str)) = false := by decide) (he : starEach (e :: es) X.env = (false, eval e X.env) :: starEach es X.env := by rfl)
    (hpl : ((backTo pos (starEach (e :: es) X.env)).any (·.1) || (backToKw pos (keywordEach kws X.env)).any (·.1.isNone)) = false := by rfl) :
    PE X (.Call (.Name x pf) (e :: es) kws pos) (fun σ H Q => t σ H fun vs H1 => tk σ H1 fun zs H2 => sp (gV vs zs) H2 Q E) := by
  constructor
  intro pins s σ H Q I h
  refine wpAny_Call_Name_kw (ld_glob I hg hm ?_ hdb)
  refine PySem.W.callWith_KW (h₀ := X.base) I.ok.mod.kin hk hall (thn (ha.run pos pins s σ H _ I h) ?_) hpl he
  rintro us s1 ⟨vs, H1, I1, r, q⟩
  refine thn (hkw.run pos pins s1 σ H1 _ I1 q) ?_
  rintro ws s2 ⟨zs, H2, I2, rz, q2⟩
  rw [hks]
  have r2 := hb.rel r rz
  exact ⟨I2.kIn, run_g F hgd hr I2 (hb.to s2 us ws I2.kIn (by rw [← r2.length]; exact F.len _ _ _ _ q2)) r2 q2⟩
/-- how a call by names alone binds: the i-th parameter is the keyword with the number ix i -/
def picks {α : Type} (ix : List Nat) (zs : List α) : List α := ix.filterMap fun i => zs[i]?
def NBinds (K : PySem.W.Frag) (fd : FuncData) (ps ks : List Str) (ix : List Nat) : Prop := ∀ (s : Shared) (ws : List Value), K.In s.heap → ws.length = ks.length → BindsTo s fd ⟨[], ks.zip ws⟩ (ps.zip (picks ix ws))
theorem vals_picks {vs : List V} {us : List Value} (r : Vals vs us) : ∀ ix : List Nat, Vals (picks ix vs) (picks ix us)
  | [] => .nil
  | i :: ix => by
    unfold picks
    rw [List.filterMap_cons, List.filterMap_cons]
    cases h : vs[i]? with
    | none =>
      rw [Vals.none_of r h]
      exact vals_picks r ix
    | some d =>
      obtain ⟨v, hv, rv⟩ := r.get h
      rw [hv]
      exact .cons rv (vals_picks r ix)
theorem pe_callGK0 {E : XK} {x : Str} {pf pos : Pos} {kws : List Keyword} {ks : List Str} {ix : List Nat} {tk : TA} (F : FnG X.prog X.w X.K X.mg X.base k f fd ps sp) (hgd : X.A.guards = some []) (hr : Room k X.A) (hg : Gl X x) (hm : X.mg x = some (.ref f)) (hk : PySem.W.keepIn X.K (.ref f) = true)
    (hb : NBinds X.K fd ps ks ix) (hkw : PK X kws tk) (hall : (backToKw pos (keywordEach kws X.env)).all (·.1.isSome) = true := by rfl) (hks : (backToKw pos (keywordEach kws X.env)).filterMap (·.1) = ks := by rfl)
    (hdb : (x == ("__debug__" : Str)) = false := by decide)
    (hpl : ((backTo pos (starEach [] X.env)).any (·.1) || (backToKw pos (keywordEach kws X.env)).any (·.1.isNone)) = false := by rfl) :
    PE X (.Call (.Name x pf) [] kws pos) (fun σ H Q => tk σ H fun zs H2 => zs.length = ks.length ∧ sp (picks ix zs) H2 Q E) := by
  constructor
  intro pins s σ H Q I h
  refine wpAny_Call_Name_kw (ld_glob I hg hm ?_ hdb)
  refine PySem.W.callWith_KW0 (h₀ := X.base) I.ok.mod.kin hk hall (thn (hkw.run pos pins s σ H _ I h) ?_) hpl
  rintro ws s2 ⟨zs, H2, I2, rz, hl, q2⟩
  rw [hks]
  exact ⟨I2.kIn, run_g F hgd hr I2 (hb s2 ws I2.kIn (by rw [← rz.length]; exact hl)) (vals_picks rz ix) q2⟩
end

/-! ### the rule for a def -/
section
variable {P : Program} {w : World} {K : PySem.W.Frag} {mg : Str → Option Value} {base : Heap}
theorem _root_.L2.Fun.okG {x qual : Str} {st : Stmt} {f : Addr} {fd : FuncData} {N ps : List Str} {k : Nat} {sp : Sp} (Fu : Fun K x qual st f fd) (S : FnScope N ps (defScope st)) (len : ∀ vs H Q E, sp vs H Q E → vs.length = ps.length)
    (hbody : ∀ (cdv : Value) (A : Around) (outer : List Env) (s : Shared) (H : Hp) (vs : List V) (Q : VK) (E : XK), A.guards = some [] → Room k (A.deeper (envOfC qual (defScope st) s.heap.objs.size f cdv)) → sp vs H Q E →
      ∃ t, PSs (cxOf CX0 P w K mg base N qual (defScope st) f cdv A outer s H E).nox (defBody st) t ∧ t { nx := fun _ H' => Q .non H', rt := Q } (L2.start N vs) H) : FnG P w K mg base (k + 1) f fd ps sp := by
  obtain ⟨oc, od, kV, doc, pm, an, cdv, ct, osl, rfl, lk, hcd⟩ := Fu.ex
  refine ⟨len, ?_⟩
  intro A outer s H args us vs Q E hgd hr e0 hb r hsp
  have KX : K.In s.heap := e0.mod.kin.keeps fun b o e => (e0.bs b o e).1
  have lim : s.heap.NoLimit := e0.mod.nolimit.keeps fun b o e => (e0.bs b o e).1
  have hkind : ∀ y ∈ ps.zip us, (defScope st).names.lookup y.1 = some .local ∨ ((defScope st).names.lookup y.1 = some .cell ∧ ((cellsFrom (s.heap.objs.size + 1) (defScope st).names []).lookup y.1).isSome = true) := by
    rintro ⟨m, v⟩ hy
    exact (S.par m (List.of_mem_zip hy).1).elim .inl fun q => .inr ⟨q, PySem.W.cellsFrom_some _ _ _ (.inl q)⟩
  refine codeAny_call_function hr.depth (KX _ _ lk) rfl S.co S.gen rfl (PySem.W.codeRec_of KX hcd) (hb _ _ _ _ ?_)
  refine wpAny_newFunctionEnv_cells S.kind hkind ?_
  rintro env rfl s1 x
  refine ⟨lim.keeps x.toInCall.keep, codeAny_func ?_⟩
  obtain ⟨t, ht, hq⟩ := hbody cdv A outer s H vs Q E hgd (hr.deeper _) hsp
  have I : Inv (cxOf CX0 P w K mg base N qual (defScope st) f cdv A outer s H E) [] (L2.start N vs) H s1 := inv_start S hr.hd e0 (len _ _ _ _ hsp) r x
  refine wpAny_mono (ht.nox.run [] s1 (L2.start N vs) H _ I hq) ?_ fun e s' hs => hs
  intro fl s' hs
  match fl, hs with
  | .ret u, ⟨v, σ', H', J, rv, q⟩ => exact ⟨v, H', J.os, J.bare, J.base, J.hok, rv, q⟩
  | .next, ⟨σ', H', J, q⟩ => exact ⟨V.non, H', J.os, J.bare, J.base, J.hok, rfl, q⟩
  | .brk, ⟨_, _, _, q⟩ => exact q.elim
  | .cont, ⟨_, _, _, q⟩ => exact q.elim
theorem _root_.L2.Fun.okPG {x qual : Str} {st : Stmt} {f : Addr} {fd : FuncData} {N ps : List Str} {k : Nat} {S : Spec} (Fu : Fun K x qual st f fd) (sc : FnScope N ps (defScope st)) (len : ∀ ds n R, S ds n R → ds.length = ps.length)
    (hbody : ∀ (cdv : Value) (A : Around) (outer : List Env) (s : Shared) (H : Hp) (E : XK), A.guards = some [] → Room k (A.deeper (envOfC qual (defScope st) s.heap.objs.size f cdv)) →
      ∃ q, DSs (cxOf CX0 P w K mg base N qual (defScope st) f cdv A outer s H E).nox (defBody st) q ∧ ∀ ds n R, S ds n R → q { nx := fun _ m => R .non m, rt := R } (env0 N.length ds) n) : FnG P w K mg base (k + 1) f fd ps (spP K S) := by
  have hpl : ps.length ≤ N.length := by have := congrArg List.length sc.pre; rw [List.length_take] at this; omega
  refine Fu.okG sc (fun vs H Q E h => ?_) (fun cdv A outer s H vs Q E hgd hr h => ?_)
  · obtain ⟨c, n, F, ds, R, hK, h1, h2, h3, r, hS, _⟩ := h
    rw [r.length]
    exact len ds n R hS
  · obtain ⟨c, n, F, ds, R, hK, h1, h2, h3, r, hS, hq⟩ := h
    obtain ⟨q, hd, hb⟩ := hbody cdv A outer s H E hgd hr
    refine ⟨LS ⟨c, H, F, fun _ => none⟩ q, hd _ hK, n, F, env0 N.length ds, _, Ok.start h1 h2 h3 r ?_, hb ds n R hS, ?_⟩
    · rw [r.length, len ds n R hS]; exact hpl
    · have fin : ∀ n' F' H' σ' ρ' v d, Same F F' → Ok ⟨c, H, F, fun _ => none⟩ n' F' H' σ' ρ' → Rep c F' v d → R d n' → Q v H' := fun n' F' H' σ' ρ' v d s ok r hR => hq n' F' H' v d s ok.keep ok.sub ok.ffp ok.new ok.dk r hR
      exact ⟨fun n' F' H' σ' ρ' s ok h => fin n' F' H' σ' ρ' _ _ s ok .non h, fun n' F' H' σ' ρ' v d s ok r h => fin n' F' H' σ' ρ' v d s ok r h, fun _ _ _ _ _ _ _ h => h.elim, fun _ _ _ _ _ _ _ h => h.elim⟩
end

/-! ### calls, lifted -/
section
variable {X : Cx} {k : Nat} {f : Addr} {fd : FuncData} {ps : List Str} {S : Spec} {x : Str} {pf pos : Pos} {e : Expr} {es : List Expr} {t tk : TPA} {kws : List Keyword}
theorem de_fn (Fn : FnG X.prog X.w X.K X.mg X.base k f fd ps (spP X.K S)) (hgd : X.A.guards = some []) (hr : Room k X.A) (hg : Gl X x) (hm : X.mg x = some (.ref f)) (hk : PySem.W.keepIn X.K (.ref f) = true) (hb : Binds X.K fd ps [])
    (ha : DA X (e :: es) t) (hdb : (x == ("__debug__" : Str)) = false := by decide) (he : starEach (e :: es) X.env = (false, eval e X.env) :: starEach es X.env := by rfl) (hpl : (backTo pos (starEach es X.env)).any (·.1) = false := by rfl) :
    DE X (.Call (.Name x pf) (e :: es) [] pos) (pFn S t) := fun g hK => (pe_callG (E := fun _ _ _ => False) Fn hgd hr hg hm hk hb (ha g hK) hdb he hpl).imp fun σ H Q ⟨n, F, ρ, R, ok, hq, k⟩ =>
  ⟨n, F, ρ, _, ok, hq, fun n1 F1 H1 vs ds s1 ok1 r1 h1 => by
    rw [← hK]
    exact LA.fn (t := t) ok1 r1 h1 fun n' F' H' v d s2 ok2 r2 h2 => k n' F' H' v d (s1.trans s2) ok2 r2 h2⟩
theorem de_fn0 (Fn : FnG X.prog X.w X.K X.mg X.base k f fd ps (spP X.K S)) (hgd : X.A.guards = some []) (hr : Room k X.A) (hg : Gl X x) (hm : X.mg x = some (.ref f)) (hk : PySem.W.keepIn X.K (.ref f) = true) (hb : Binds X.K fd ps [])
    (hdb : (x == ("__debug__" : Str)) = false := by decide) : DE X (.Call (.Name x pf) [] [] pos) (pFn S pNil) := fun g hK => (pe_callG0 (E := fun _ _ _ => False) Fn hgd hr hg hm hk hb hdb).imp fun σ H Q ⟨n, F, ρ, R, ok, hq, k⟩ => by
    rw [← hK]
    exact LA.fn (t := pNil) ok .nil hq fun n' F' H' v d s2 ok2 r2 h2 => k n' F' H' v d s2 ok2 r2 h2
/-- keywords' values -/
def DK (X : Cx) (kws : List Keyword) (p : TPA) : Prop := ∀ g : G, g.c.K = X.K → PK X kws (LA g p)
theorem _root_.L2.PK.imp {X : Cx} {e : List Keyword} {t t' : TA} (h : PK X e t) (w : ∀ σ H Q, t' σ H Q → t σ H Q) : PK X e t' := ⟨fun pos pins s σ H Q I q => h.run pos pins s σ H Q I (w σ H Q q)⟩
theorem dk_nil : DK X [] pNil := fun g hK => pk_nil.imp fun σ H Q ⟨n, F, ρ, R, ok, hq, k⟩ => k n F H _ _ (Same.refl F) ok .nil hq
theorem dk_cons {p : TPE} {nm : Option Str} {kpos : Pos} (h : DE X e p) (hr : DK X kws tk) : DK X (⟨nm, e, kpos⟩ :: kws) (pCons p tk) := fun g hK => (pk_cons (h g hK) (hr g hK)).imp fun σ H Q ⟨n, F, ρ, R, ok, hq, k⟩ =>
  ⟨n, F, ρ, _, ok, hq, fun n1 F1 H1 x d s1 ok1 r1 h1 => ⟨n1, F1, ρ, _, ok1, h1, fun n2 F2 H2 vs ds s2 ok2 r2 h2 => k n2 F2 H2 _ _ (s1.trans s2) ok2 (.cons (r1.mono s2) r2) h2⟩⟩
theorem Reps.picks {c : Cfg} {F : Hp} {vs : List V} {ds : List D} (r : Reps c F vs ds) : ∀ ix : List Nat, Reps c F (PL.picks ix vs) (PL.picks ix ds)
  | [] => .nil
  | i :: ix => by
    unfold PL.picks
    rw [List.filterMap_cons, List.filterMap_cons]
    cases h : ds[i]? with
    | none =>
      have : vs[i]? = none := by
        rw [List.getElem?_eq_none_iff] at h ⊢
        rw [r.length]; exact h
      rw [this]
      exact Reps.picks r ix
    | some d =>
      obtain ⟨v, hv, rv⟩ := r.get h
      rw [hv]
      exact .cons rv (Reps.picks r ix)
def pFnK (S : Spec) (m : Nat) (ix : List Nat) (t : TPA) : TPE := fun ρ n R => t ρ n fun ds n1 => ds.length = m ∧ callZ S (PL.picks ix ds) n1 R (shut R)
theorem de_fnK {ks : List Str} {ix : List Nat} (Fn : FnG X.prog X.w X.K X.mg X.base k f fd ps (spP X.K S)) (hgd : X.A.guards = some []) (hr : Room k X.A) (hg : Gl X x) (hm : X.mg x = some (.ref f)) (hk : PySem.W.keepIn X.K (.ref f) = true) (hb : NBinds X.K fd ps ks ix)
    (ha : DK X kws tk) (hall : (backToKw pos (keywordEach kws X.env)).all (·.1.isSome) = true := by rfl) (hks : (backToKw pos (keywordEach kws X.env)).filterMap (·.1) = ks := by rfl)
    (hdb : (x == ("__debug__" : Str)) = false := by decide) (hpl : ((backTo pos (starEach [] X.env)).any (·.1) || (backToKw pos (keywordEach kws X.env)).any (·.1.isNone)) = false := by rfl) :
    DE X (.Call (.Name x pf) [] kws pos) (pFnK S ks.length ix tk) := fun g hK => (pe_callGK0 (E := fun _ _ _ => False) Fn hgd hr hg hm hk hb (ha g hK) hall hks hdb hpl).imp fun σ H Q ⟨n, F, ρ, R, ok, hq, k⟩ =>
  ⟨n, F, ρ, _, ok, hq, fun n1 F1 H1 vs ds s1 ok1 r1 h1 => by
    refine ⟨by rw [r1.length]; exact h1.1, ?_⟩
    rw [← hK]
    exact LA.fn (t := tk) ok1 (r1.picks ix) h1.2 fun n' F' H' v d s2 ok2 r2 h2 => k n' F' H' v d (s1.trans s2) ok2 r2 h2⟩
end
end PL

/-! PL: the head of a law. -/
namespace PL
open PySem PySem.Spec L2
open PyProof.Rows (AllBare IntsAre)
theorem hid_ns {h : Heap} {H : Hp} {b : Addr} {m : Str → Option Value} (hd : ∀ c o es ep, h.get? c = some o → o.data = .dict es ep → H c = none) (n : h.Ns b m) : (hidT h H).Ns b m := by
  obtain ⟨o, es, ep, e, d, r⟩ := n
  exact ⟨o, es, ep, hidT_get e (hd b o es ep e d), d, r⟩
/-- the call of the law, from its promise; H tracks the script at most -/
theorem head_core {P : Program} {w : World} {K : PySem.W.Frag} {mg mb : Str → Option Value} {k : Nat} {fa a : Addr} {fd : FuncData} {x : Str} {sp : Sp} {s₁ : Shared} {its : Array Value} {H : Hp}
    (KX : K.In s₁.heap) (hns : s₁.heap.Ns mainGlobals mg) (hb : s₁.heap.Ns builtinsNs mb) (hbb : ∀ y : Str, y ≠ "__name__" → mb y = bootBuiltins y) (hlim : s₁.heap.NoLimit) (hg : s₁.gens = #[])
    (ha : s₁.heap.get? a = some { cls := .type "list", data := .seq its }) (hr : Room k callerA) (F : ∀ base : Heap, K.In base → base.Ns mainGlobals mg → FnG P w K mg base k fa fd [x] sp) (hbind : ∀ (s : Shared) (u : Value), BindsTo s fd ⟨[u], []⟩ [(x, u)])
    (hO : Only H) (hok : HOk P w H s₁.heap) (hA : ∀ b, H b ≠ none → b = a) (hK : H a ≠ none → K.lookup a = none) (hsp : sp [.ref a] H (fun v _ => v = .bl true) fun _ _ _ => False) :
    codeAny (model P w) callerA (.call (.ref fa) ⟨[.ref a], []⟩) (fun r s' => r = .ok (.ret (.bool true)) ∧ OldK s₁.heap s'.heap ∧ s'.os = s₁.os ∧ AllBare s'.gens) s₁ := by
  have seen : ∀ {b : Addr} {u : HO}, H b = some u → b = a := fun {b u} q => hA b (by rw [q]; exact fun z => nomatch z)
  have noD : ∀ c o es ep, s₁.heap.get? c = some o → o.data = .dict es ep → H c = none := by
    intro c o es ep e d
    cases q : H c with
    | none => rfl
    | some u =>
      rw [seen q, ha] at e
      cases e
      cases d
  have inB : K.In (hidT s₁.heap H) := by
    intro b o e
    refine hidT_get (KX b o e) ?_
    cases q : H b with
    | none => rfl
    | some u =>
      have z := seen q
      rw [z] at q e
      rw [hK (by rw [q]; exact fun z => nomatch z)] at e
      cases e
  obtain ⟨mc, l1, l2⟩ := hlim
  have M : Mod K mg (hidT s₁.heap H) := ⟨inB, hid_ns noD hns, ⟨mb, hid_ns noD hb, hbb⟩, ⟨mc, hid_ns noD l1, l2⟩⟩
  have e0 : Env0 P w K mg (hidT s₁.heap H) callerA [] s₁ H := ⟨rfl, M, fun b o e => of_hidT e, Nat.le_of_eq (hidT_size _ _), trivial, fun b z => (List.not_mem_nil z).elim, hok, .of_eq hg⟩
  have run := (F _ inB (hid_ns noD hns)).run callerA [] s₁ H ⟨[.ref a], []⟩ [.ref a] [.ref a] _ _ rfl hr e0 (hbind s₁ (.ref a)) (.cons rfl .nil) hsp
  refine codeAny_mono run ?_
  intro r s' h
  match r, h with
  | .error e, h => exact False.elim h
  | .ok .next, h => exact False.elim h
  | .ok .brk, h => exact False.elim h
  | .ok .cont, h => exact False.elim h
  | .ok (.ret u), ⟨v, H', os, bare, un, hok', r', q⟩ =>
    have q : v = .bl true := q
    subst q
    have r' : u = Value.bool true := r'
    subst r'
    refine ⟨rfl, OldK.of_keep ?_, os, bare⟩
    intro b o e
    rcases hO b with z | ⟨ob, xs, z⟩
    · exact un.keep b o e z (fun y => (List.not_mem_nil y).elim) (fun y => (List.not_mem_nil y).elim)
    · obtain ⟨e1, _⟩ := hok b _ z
      obtain ⟨e2, _⟩ := hok' b _ (un.frzs b ob _ z)
      rw [e] at e1
      cases e1
      exact e2
theorem head_call {P : Program} {w : World} {K : PySem.W.Frag} {mg mb : Str → Option Value} {k : Nat} {fa a : Addr} {fd : FuncData} {x : Str} {sp : Sp} {s₁ : Shared} {vs : List Value} {ns : List Int}
    (KX : K.In s₁.heap) (hns : s₁.heap.Ns mainGlobals mg) (hb : s₁.heap.Ns builtinsNs mb) (hbb : ∀ y : Str, y ≠ "__name__" → mb y = bootBuiltins y) (hlim : s₁.heap.NoLimit) (hg : s₁.gens = #[])
    (ha : s₁.heap.get? a = some { cls := .type "list", data := .seq vs.toArray }) (hi : IntsAre vs ns) (hl : ns.length ≤ sizeLine) (hr : Room k callerA)
    (F : ∀ base : Heap, K.In base → base.Ns mainGlobals mg → FnG P w K mg base k fa fd [x] sp) (hbind : ∀ (s : Shared) (u : Value), BindsTo s fd ⟨[u], []⟩ [(x, u)])
    (hsp : ∀ H : Hp, Only H → SqL K H a (ns.map V.int) → sp [.ref a] H (fun v _ => v = .bl true) fun _ _ _ => False) :
    codeAny (model P w) callerA (.call (.ref fa) ⟨[.ref a], []⟩) (fun r s' => r = .ok (.ret (.bool true)) ∧ OldK s₁.heap s'.heap ∧ s'.os = s₁.os ∧ AllBare s'.gens) s₁ := by
  have rv := vals_ints hi
  cases hk : K.lookup a with
  | some o =>
    have e := KX a o hk
    rw [ha] at e
    cases e
    have O0 : Only (fun _ => none) := fun _ => .inl rfl
    refine head_core KX hns hb hbb hlim hg ha hr F hbind O0 (fun b u z => nomatch z) (fun b z => absurd rfl z) (fun z => absurd rfl z) (hsp _ O0 ?_)
    exact .inr ⟨_, vs.toArray, _, hk, rfl, rfl, rfl, by rw [List.size_toArray, hi.length]; exact hl, by simpa using rv⟩
  | none =>
    have at_ : ∀ b, (fun b => if b = a then some (HO.frz { cls := .type "list", data := .seq vs.toArray } (.lst (ns.map V.int))) else none) b ≠ none → b = a := by
      intro b z
      by_cases e : b = a
      · exact e
      · exact absurd (if_neg e) z
    have O1 : Only (fun b => if b = a then some (HO.frz { cls := .type "list", data := .seq vs.toArray } (.lst (ns.map V.int))) else none) := by
      intro b
      by_cases e : b = a
      · exact .inr ⟨_, _, if_pos e⟩
      · exact .inl (if_neg e)
    refine head_core KX hns hb hbb hlim hg ha hr F hbind O1 ?_ at_ (fun _ => hk) (hsp _ O1 (.inl (.inr ⟨_, if_pos rfl⟩)))
    intro b u z
    have e : b = a := at_ b (by rw [z]; exact fun z => nomatch z)
    subst e
    have z := (if_pos rfl).symm.trans z
    cases z
    exact ⟨ha, by rw [List.length_map]; exact hl, vs, _, rv, ha⟩
theorem walk_g {l : PySem.W.OpenLaw} {n k : Nat} {q : Program} {loose : List Str} {XP : (Str → Option Value) → Heap → Prop} {YP : World → Heap → Prop} {d : DefRec} {K : Params → PySem.W.Frag} {sp : World → Sp} {x : Str}
    (hn : l.most = some n) (hn2 : n ≤ sizeLine) (hdf : d.params.defaults = []) (hr : Room k callerA) (hY : ∀ (w : World) (h : Heap), YP w h → (K w.params).In h)
    (F : ∀ (w : World) (mg : Str → Option Value) (fa : Addr) (h : Heap), (K w.params).In h → h.Ns mainGlobals mg → mg d.name = some (.ref fa) →
      ∃ fd : FuncData, (∀ (s : Shared) (u : Value), BindsTo s fd ⟨[u], []⟩ [(x, u)]) ∧ ∀ base : Heap, (K w.params).In base → base.Ns mainGlobals mg → FnG l.prog w (K w.params) mg base k fa fd [x] (sp w))
    (hsp : ∀ (w : World) (H : Hp) (a : Addr) (ns : List Int), ns.length ≤ n → Only H → SqL (K w.params) H a (ns.map V.int) → sp w [.ref a] H (fun v _ => v = .bl true) fun _ _ _ => False) :
    PySem.W.WalkO q loose XP YP l.row.toRowW d [] (fun f vs => PySem.call f vs) := by
  refine Att.attach_call hn hdf ?_
  intro w s₀ s₁ mg mb fa o pm cd doc a vs ns G Y ho hd hcd hmg hobj hints hlen hg
  obtain ⟨fd, hb, hF⟩ := F w mg fa _ (hY w _ Y) G.T.g hmg
  exact head_call (hY w _ Y) G.T.g G.T.b G.T.builtins G.T.nolimit hg hobj hints (Nat.le_trans hlen hn2) hr hF hb fun H hO hS => hsp w H a ns hlen hO hS
end PL

/-! PL: iterables, own lists, parallel assignments, ==, in, repr, more built-ins. -/
namespace PL
open PySem PySem.Spec L2
section
variable {X : Cx} {e a b e2 tg : Expr} {p pa pb : TPE} {pos : Pos} {ta tk : TPA}

/-! ### iterables -/
def chars (s : Str) : List D := s.cps.toList.map fun c => .str ⟨#[c]⟩
def pIter (p : TPE) : TPA := fun ρ n S => p ρ n fun d m => match d with
  | .lst ds => S ds m
  | .tup ds => S ds m
  | .str s => S (chars s) m
  | _ => False
theorem di_iter (h : DE X e p) : DI X tg e (pIter p) := fun g hK => by
  constructor
  intro pins s σ H R I hq
  obtain ⟨n, F, ρ, S, ok, hp, k⟩ := hq
  refine thn ((h g hK).run pins s σ H (fun v H1 => ∃ n' F' d, Same F F' ∧ Ok g n' F' H1 σ ρ ∧ Rep g.c F' v d ∧ (match d with | .lst ds => S ds n' | .tup ds => S ds n' | .str s => S (chars s) n' | _ => False)) I ⟨n, F, ρ, _, ok, hp, fun n' F' H' v d s' ok' r' hR => ⟨n', F', d, s', ok', r', hR⟩⟩) ?_
  rintro u s1 ⟨v, H1, I1, rv, n', F', d, s', ok', r', hS⟩
  revert hS r'
  cases d <;> intro r' hS <;> first | exact False.elim hS | skip
  · rename_i z
    cases r'
    obtain ⟨t, rfl⟩ := rv
    refine wpAny_pyIter_strU (pi_one (tk := s1.toks) I1 _ (turn_str _ z t (strIterType z) (by unfold strIterType; split; exact .inl rfl; exact .inr rfl)) ⟨_, Heap.get?_push_size _ rfl, rfl, rfl⟩ (k n' F' H1 (chars z) _ s' ok' hS ?_))
    intro g' m F2 H2 σ2 ρ2 hc s2 ok2
    have hl : (chars z).length = z.cps.size := by unfold chars; rw [List.length_map, Array.length_toList]
    refine ⟨by rw [hl]; exact Nat.le_refl _, fun i d hd => ⟨show i < z.cps.size by rw [← hl]; exact lt_of_get hd, fun x H3 y => ?_⟩⟩
    obtain ⟨rfl, c, hc, rfl⟩ := y
    unfold chars at hd
    rw [List.getElem?_map, Array.getElem?_toList, hc] at hd
    cases hd
    exact ⟨F2, Same.refl _, ok2, .str _⟩
  · rename_i ds
    cases r' with
    | @lst l xs _ hF rs =>
      cases rv
      obtain ⟨its, r2, p2, _⟩ := I1.list (SqL.of (ok'.sub _ _ hF))
      refine wpAny_pyIter_list p2.isList (pi_one (tk := s1.toks) I1 _ (turn_list l _) ⟨_, Heap.get?_push_size _ rfl, rfl, rfl⟩ (k n' F' H1 ds _ s' ok' hS ?_))
      intro g' m F2 H2 σ2 ρ2 hc s2 ok2
      have e2 : SqL X.K H2 l xs := SqL.of (ok2.sub _ _ (s2 _ _ hF))
      refine ⟨⟨xs, e2, Nat.le_of_eq rs.length⟩, fun i d hd => ?_⟩
      obtain ⟨x, hx, rx⟩ := rs.get hd
      refine ⟨⟨xs, x, e2, hx⟩, fun y H3 hy => ?_⟩
      obtain ⟨rfl, q⟩ := hy
      have q := q xs e2
      rw [hx] at q
      cases q
      exact ⟨F2, Same.refl _, ok2, rx.mono s2⟩
  · rename_i ds
    cases r' with
    | @tup l xs _ hF rs =>
      cases rv
      rw [hK] at hF
      obtain ⟨its, r2, p2, _⟩ := I1.tuple (Same.seqT ok'.sub hF)
      refine wpAny_pyIter_tuple (show s1.heap.IsTuple l its.toArray from p2) (pi_one (tk := s1.toks) I1 _ (turn_tuple l _) ⟨_, Heap.get?_push_size _ rfl, rfl, rfl⟩ (k n' F' H1 ds _ s' ok' hS ?_))
      intro g' m F2 H2 σ2 ρ2 hc s2 ok2
      have e2 : SqT X.K H2 l xs := Same.seqT ok2.sub (Same.seqT s2 hF)
      refine ⟨⟨xs, e2, Nat.le_of_eq rs.length⟩, fun i d hd => ?_⟩
      obtain ⟨x, hx, rx⟩ := rs.get hd
      refine ⟨⟨xs, x, e2, hx⟩, fun y H3 hy => ?_⟩
      obtain ⟨rfl, q⟩ := hy
      have q := q xs e2
      rw [hx] at q
      cases q
      exact ⟨F2, Same.refl _, ok2, rx.mono s2⟩
/-- range -/
def intsD (lo : Int) (n : Nat) : List D := (List.range n).map fun (i : Nat) => .int (lo + (i : Int))
theorem walk_ints {g : G} {F : Hp} (lo : Int) (n : Nat) : ∀ g' m F2 H2 σ2 ρ2, g'.c = g.c → Same F F2 → Ok g' m F2 H2 σ2 ρ2 → (Itr lo n).stop (intsD lo n).length H2 ∧
    ∀ i d, (intsD lo n)[i]? = some d → (Itr lo n).go i H2 ∧ ∀ x H3, (Itr lo n).yld i H2 x H3 → ∃ F3, Same F2 F3 ∧ Ok g' m F3 H3 σ2 ρ2 ∧ Rep g.c F3 x d := by
  intro g' m F2 H2 σ2 ρ2 hc s2 ok2
  have hl : (intsD lo n).length = n := by unfold intsD; rw [List.length_map, List.length_range]
  refine ⟨by rw [hl]; exact Nat.le_refl _, fun i d hd => ?_⟩
  have hi : i < n := by rw [← hl]; exact lt_of_get hd
  refine ⟨hi, fun x H3 y => ?_⟩
  obtain ⟨rfl, rfl⟩ := y
  unfold intsD at hd
  rw [List.getElem?_map, List.getElem?_range hi] at hd
  cases hd
  exact ⟨F2, Same.refl _, ok2, .int _⟩
def pRange1 (t : TPA) : TPA := fun ρ n S => t ρ n fun ds m => match ds with
  | [.int j] => -(2 ^ 62) ≤ j ∧ j < 2 ^ 62 ∧ S (intsD 0 j.toNat) m
  | _ => False
def pRange2 (t : TPA) : TPA := fun ρ n S => t ρ n fun ds m => match ds with
  | [.int i, .int j] => (-(2 ^ 62) ≤ i ∧ i < 2 ^ 62 ∧ -(2 ^ 62) ≤ j ∧ j < 2 ^ 62) ∧ S (intsD i (j - i).toNat) m
  | _ => False
theorem di_range1 {pf : Pos} (hm : X.mg "range" = none) (hg : Gl X "range") (ha : DA X [a] ta) (hs : starEach [a] X.env = [(false, eval a X.env)] := by rfl) : DI X tg (.Call (.Name "range" pf) [a] [] pos) (pRange1 ta) := fun g hK => (pi_range1 hg hm (ha g hK) hs).imp fun σ H R ⟨n, F, ρ, S, ok, h, k⟩ =>
  ⟨n, F, ρ, _, ok, h, fun n1 F1 H1 vs ds s1 ok1 r1 h1 => by
    match ds, r1, h1 with
    | [.int j], .cons (.int _) .nil, h1 => exact ⟨j, rfl, h1.1, h1.2.1, k n1 F1 H1 _ _ s1 ok1 h1.2.2 (walk_ints 0 j.toNat)⟩⟩
theorem di_range2 {pf : Pos} (hm : X.mg "range" = none) (hg : Gl X "range") (ha : DA X [a, b] ta) (hs : starEach [a, b] X.env = [(false, eval a X.env), (false, eval b X.env)] := by rfl) (hs2 : starEach [b] X.env = [(false, eval b X.env)] := by rfl) : DI X tg (.Call (.Name "range" pf) [a, b] [] pos) (pRange2 ta) := fun g hK => (pi_range2 hg hm (ha g hK) hs hs2).imp fun σ H R ⟨n, F, ρ, S, ok, h, k⟩ =>
  ⟨n, F, ρ, _, ok, h, fun n1 F1 H1 vs ds s1 ok1 r1 h1 => by
    match ds, r1, h1 with
    | [.int i, .int j], .cons (.int _) (.cons (.int _) .nil), h1 => exact ⟨i, j, rfl, h1.1, k n1 F1 H1 _ _ s1 ok1 h1.2 (walk_ints i _)⟩⟩
/-- enumerate -/
def nums (k0 : Int) : List D → List D
  | [] => []
  | d :: ds => .tup [.int k0, d] :: nums (k0 + 1) ds
theorem nums_len (k0 : Int) : ∀ ds, (nums k0 ds).length = ds.length := fun ds => by
  induction ds generalizing k0 with
  | nil => rfl
  | cons d ds ih => show (nums (k0 + 1) ds).length + 1 = _; rw [ih]; rfl
theorem nums_get (k0 : Int) (ds : List D) (i : Nat) {d : D} (h : (nums k0 ds)[i]? = some d) : ∃ x, ds[i]? = some x ∧ d = .tup [.int (k0 + (i : Int)), x] := by
  induction ds generalizing k0 i with
  | nil => exact absurd h (by simp [nums])
  | cons y ds ih =>
    cases i with
    | zero =>
      have h : some (D.tup [.int k0, y]) = some d := h
      cases h
      exact ⟨y, rfl, by simp⟩
    | succ i =>
      obtain ⟨x, h1, h2⟩ := ih (k0 + 1) i h
      refine ⟨x, h1, ?_⟩
      rw [h2]
      congr 2
      show D.int (k0 + 1 + (i : Int)) = D.int (k0 + ((i + 1 : Nat) : Int))
      congr 1
      omega
def itemsOf : D → Option (List D)
  | .lst ds => some ds
  | .tup ds => some ds
  | .str s => some (chars s)
  | _ => none
theorem walk_enum {g : G} {n : Nat} {F H : Hp} {σ : L2.St} {ρ : PEnv} {k0 : Int} {v : V} {d : D} {ds : List D} {R : It → Hp → Prop} (ok : Ok g n F H σ ρ) (r : Rep g.c F v d) (hd : itemsOf d = some ds)
    (k : ∀ J : It, (∀ g' m F2 H2 σ2 ρ2, g'.c = g.c → Same F F2 → Ok g' m F2 H2 σ2 ρ2 → J.stop (nums k0 ds).length H2 ∧
      ∀ i d, (nums k0 ds)[i]? = some d → J.go i H2 ∧ ∀ x H3, J.yld i H2 x H3 → ∃ F3, Same F2 F3 ∧ Ok g' m F3 H3 σ2 ρ2 ∧ Rep g.c F3 x d) → R J H) : iEnumV g.c.K k0 v H R := by
  have core : ∀ (n : Nat) (Src : Hp → Prop) (Y : Nat → V → Prop), ds.length = n → (∀ F2 H2, Same F F2 → Same F2 H2 → Src H2) → (∀ i x y, ds[i]? = some x → Y i y → Rep g.c F y x) → R (ItE k0 n Src Y) H := by
    intro n Src Y hn hs hy
    refine k _ ?_
    intro g' m F2 H2 σ2 ρ2 hc s2 ok2
    have src := hs F2 H2 s2 ok2.sub
    refine ⟨⟨by rw [nums_len]; exact hn, src⟩, fun i d hd => ?_⟩
    obtain ⟨x, hx, rfl⟩ := nums_get k0 ds i hd
    refine ⟨⟨by rw [← hn]; exact lt_of_get hx, src⟩, fun v H3 y => ?_⟩
    obtain ⟨T, w, rfl, hT, rfl, hw⟩ := y
    exact ⟨upd F2 T _, ok2.sameF _ hT, ok2.alloc _ hT, .tup (SqT.of upd_same) (.cons (.int _) (.cons (((hy i x w hx hw).mono s2).mono (ok2.sameF _ hT)) .nil))⟩
  cases r with
  | lst hF rs =>
    cases hd
    refine .inl ⟨_, _, rfl, SqL.of (ok.sub _ _ hF), core _ _ _ rs.length.symm (fun F2 H2 s2 sb => SqL.of (sb _ _ (s2 _ _ hF))) fun i x y hx hy => ?_⟩
    obtain ⟨z, hz, rz⟩ := rs.get hx
    rw [hz] at hy
    cases hy
    exact rz
  | tup hF rs =>
    cases hd
    refine .inr (.inl ⟨_, _, rfl, Same.seqT ok.sub hF, core _ _ _ rs.length.symm (fun F2 H2 s2 sb => Same.seqT sb (Same.seqT s2 hF)) fun i x y hx hy => ?_⟩)
    obtain ⟨z, hz, rz⟩ := rs.get hx
    rw [hz] at hy
    cases hy
    exact rz
  | str z =>
    cases hd
    refine .inr (.inr ⟨z, rfl, core _ _ _ (by unfold chars; rw [List.length_map, Array.length_toList]) (fun _ _ _ _ => trivial) fun i x y hx hy => ?_⟩)
    obtain ⟨c, hc, rfl⟩ := hy
    unfold chars at hx
    rw [List.getElem?_map, Array.getElem?_toList, hc] at hx
    cases hx
    exact .str _
  | _ => cases hd
def pEnum (t : TPA) : TPA := fun ρ n S => t ρ n fun ds m => match ds with
  | [d] => match itemsOf d with | some xs => S (nums 0 xs) m | none => False
  | _ => False
theorem di_enum {pf tpos : Pos} {elts : List Expr} {kk : Nat} (hm : X.mg "enumerate" = none) (hg : Gl X "enumerate") (ha : DA X [e] ta) (hc : X.calm = true := by rfl) (hs : starEach [e] X.env = [(false, eval e X.env)] := by rfl) : DI X (.Tuple elts kk tpos) (.Call (.Name "enumerate" pf) [e] [] pos) (pEnum ta) := fun g hK => (pi_enumG hg hm (ha g hK) hc hs).imp fun σ H R ⟨n, F, ρ, S, ok, h, k⟩ =>
  ⟨n, F, ρ, _, ok, h, fun n1 F1 H1 vs ds s1 ok1 r1 h1 => by
    match ds, r1, h1 with
    | [d], .cons r .nil, h1 =>
      refine ⟨_, rfl, ?_⟩
      rw [← hK]
      have h1 : (match itemsOf d with | some xs => S (nums 0 xs) n1 | none => False) := h1
      cases hd : itemsOf d with
      | none => rw [hd] at h1; exact h1.elim
      | some xs =>
        rw [hd] at h1
        exact walk_enum ok1 r hd fun J hJ => k n1 F1 H1 _ J s1 ok1 h1 hJ⟩
def pEnumK (t u : TPA) : TPA := fun ρ n S => t ρ n fun ds m => u ρ m fun ks m2 => match ds, ks with
  | [d], [.int k0] => -(2 ^ 63) ≤ k0 ∧ k0 < 2 ^ 63 ∧ match itemsOf d with | some xs => S (nums k0 xs) m2 | none => False
  | _, _ => False
theorem di_enumK {pf tpos : Pos} {elts : List Expr} {kk : Nat} {kws : List Keyword} (hm : X.mg "enumerate" = none) (hg : Gl X "enumerate") (ha : DA X [e] ta) (hk : DK X kws tk) (hc : X.calm = true := by rfl) (hs : starEach [e] X.env = (false, eval e X.env) :: starEach [] X.env := by rfl)
    (hall : (backToKw pos (keywordEach kws X.env)).all (·.1.isSome) = true := by rfl) (hks : (backToKw pos (keywordEach kws X.env)).filterMap (·.1) = [Str.ofString "start"] := by rfl)
    (hpl : ((backTo pos (starEach [e] X.env)).any (·.1) || (backToKw pos (keywordEach kws X.env)).any (·.1.isNone)) = false := by rfl) : DI X (.Tuple elts kk tpos) (.Call (.Name "enumerate" pf) [e] kws pos) (pEnumK ta tk) := fun g hK => (pi_enumK hg hm (ha g hK) (hk g hK) hc hs hall hks hpl).imp fun σ H R ⟨n, F, ρ, S, ok, h, k⟩ =>
  ⟨n, F, ρ, _, ok, h, fun n1 F1 H1 vs ds s1 ok1 r1 h1 => ⟨n1, F1, ρ, _, ok1, h1, fun n2 F2 H2 zs ks s2 ok2 r2 h2 => by
    match ds, r1, ks, r2, h2 with
    | [d], .cons r .nil, [.int k0], .cons (.int _) .nil, h2 =>
      refine ⟨_, k0, rfl, rfl, h2.1, h2.2.1, ?_⟩
      rw [← hK]
      have h1 : (match itemsOf d with | some xs => S (nums k0 xs) n2 | none => False) := h2.2.2
      cases hd : itemsOf d with
      | none => rw [hd] at h1; exact h1.elim
      | some xs =>
        rw [hd] at h1
        exact walk_enum ok2 (r.mono s2) hd fun J hJ => k n2 F2 H2 _ J (s1.trans s2) ok2 h1 hJ⟩⟩
/-- zip of two lists, of two tuples -/
def pairs : List D → List D → List D
  | d :: ds, e :: es => .tup [d, e] :: pairs ds es
  | _, _ => []
theorem pairs_get : ∀ (ds es : List D) (i : Nat) {d : D}, (pairs ds es)[i]? = some d → ∃ x y, ds[i]? = some x ∧ es[i]? = some y ∧ d = .tup [x, y]
  | [], _, i, d, h => by simp [pairs] at h
  | _ :: _, [], i, d, h => by simp [pairs] at h
  | x :: ds, y :: es, 0, d, h => by
    have h : some (D.tup [x, y]) = some d := h
    cases h
    exact ⟨x, y, rfl, rfl, rfl⟩
  | _ :: ds, _ :: es, i + 1, d, h => pairs_get ds es i h
theorem pairs_len : ∀ (ds es : List D), (pairs ds es).length = min ds.length es.length
  | [], _ => by simp [pairs]
  | _ :: _, [] => by simp [pairs]
  | x :: ds, y :: es => by
    show (pairs ds es).length + 1 = _
    rw [pairs_len ds es, List.length_cons, List.length_cons]
    omega
def pZip (t : TPA) : TPA := fun ρ n S => t ρ n fun ds m => match ds with
  | [.lst xs, .lst ys] => S (pairs xs ys) m
  | [.tup xs, .tup ys] => S (pairs xs ys) m
  | _ => False
theorem di_zip {pf tpos : Pos} {elts : List Expr} {kk : Nat} (hm : X.mg "zip" = none) (hg : Gl X "zip") (ha : DA X [e, e2] ta) (hs : starEach [e, e2] X.env = (false, eval e X.env) :: starEach [e2] X.env := by rfl) (hpl : (backTo pos (starEach [e2] X.env)).any (·.1) = false := by rfl) :
    DI X (.Tuple elts kk tpos) (.Call (.Name "zip" pf) [e, e2] [] pos) (pZip ta) := fun g hK => (RZ.pi_zipA hg hm (ha g hK) hs hpl).imp fun σ H R ⟨n, F, ρ, S, ok, h, k⟩ =>
  ⟨n, F, ρ, _, ok, h, fun n1 F1 H1 vs ds s1 ok1 r1 h1 => by
    match ds, r1, h1 with
    | [.lst xs, .lst ys], .cons (.lst (a := p) (xs := us) e1 t1) (.cons (.lst (a := q) (xs := ws) e2 t2) .nil), h1 =>
      refine ⟨p, q, us, ws, rfl, .inl ⟨SqL.of (ok1.sub _ _ e1), SqL.of (ok1.sub _ _ e2), k n1 F1 H1 _ _ s1 ok1 h1 ?_⟩⟩
      intro g' m F2 H2 σ2 ρ2 hc s2 ok2
      have q1 : SqL X.K H2 p us := SqL.of (ok2.sub _ _ (s2 _ _ e1))
      have q2 : SqL X.K H2 q ws := SqL.of (ok2.sub _ _ (s2 _ _ e2))
      refine ⟨⟨us, ws, q1, q2, ?_⟩, fun i d hd => ?_⟩
      · rw [pairs_len, t1.length, t2.length]; omega
      · obtain ⟨x, y, hx, hy, rfl⟩ := pairs_get _ _ i hd
        obtain ⟨u, hu, ru⟩ := t1.get hx
        obtain ⟨w, hw, rw⟩ := t2.get hy
        refine ⟨⟨us, ws, u, w, q1, q2, hu, hw⟩, fun v H3 hv => ?_⟩
        obtain ⟨T, u', w', rfl, hT, rfl, f1, f2⟩ := hv
        have z1 := f1 us q1
        have z2 := f2 ws q2
        rw [hu] at z1
        rw [hw] at z2
        cases z1
        cases z2
        exact ⟨upd F2 T _, ok2.sameF _ hT, ok2.alloc _ hT, .tup (SqT.of upd_same) (.cons ((ru.mono s2).mono (ok2.sameF _ hT)) (.cons ((rw.mono s2).mono (ok2.sameF _ hT)) .nil))⟩
    | [.tup xs, .tup ys], .cons (.tup (a := p) (xs := us) e1 t1) (.cons (.tup (a := q) (xs := ws) e2 t2) .nil), h1 =>
      rw [hK] at e1 e2
      refine ⟨p, q, us, ws, rfl, .inr ⟨Same.seqT ok1.sub e1, Same.seqT ok1.sub e2, k n1 F1 H1 _ _ s1 ok1 h1 ?_⟩⟩
      intro g' m F2 H2 σ2 ρ2 hc s2 ok2
      have q1 : SqT X.K H2 p us := Same.seqT ok2.sub (Same.seqT s2 e1)
      have q2 : SqT X.K H2 q ws := Same.seqT ok2.sub (Same.seqT s2 e2)
      refine ⟨⟨us, ws, q1, q2, ?_⟩, fun i d hd => ?_⟩
      · rw [pairs_len, t1.length, t2.length]; omega
      · obtain ⟨x, y, hx, hy, rfl⟩ := pairs_get _ _ i hd
        obtain ⟨u, hu, ru⟩ := t1.get hx
        obtain ⟨w, hw, rw⟩ := t2.get hy
        refine ⟨⟨us, ws, u, w, q1, q2, hu, hw⟩, fun v H3 hv => ?_⟩
        obtain ⟨T, u', w', rfl, hT, rfl, f1, f2⟩ := hv
        have z1 := f1 us q1
        have z2 := f2 ws q2
        rw [hu] at z1
        rw [hw] at z2
        cases z1
        cases z2
        exact ⟨upd F2 T _, ok2.sameF _ hT, ok2.alloc _ hT, .tup (SqT.of upd_same) (.cons ((ru.mono s2).mono (ok2.sameF _ hT)) (.cons ((rw.mono s2).mono (ok2.sameF _ hT)) .nil))⟩⟩
end
end PL

/-! PL: own lists, parallel assignments, ==, repr, more built-ins. -/
namespace PL
open PySem PySem.Spec L2
section
variable {X : Cx} {e a b e2 tg o : Expr} {es : List Expr} {p pa pb : TPE} {pos pf apos cpos : Pos} {ta tk : TPA}

/-! ### own lists -/
theorem Ok.ownAt {g : G} {n : Nat} {F H : Hp} {σ : L2.St} {ρ : PEnv} {i : Nat} {ds : List D} (ok : Ok g n F H σ ρ) (h : ρ[i]? = some (.own (.lst ds))) : ∃ l xs, σ[i]? = some (some (.ref l)) ∧ H l = some (.lst xs) ∧ Reps g.c F xs ds := by
  obtain ⟨l, x, e1, e2, _, _, _, c⟩ := ok.cells i _ h
  cases c with
  | lst r => exact ⟨l, _, e1, e2, r⟩
theorem ds_append {i : Nat} (ho : PE X o (tVar i)) (he : DE X e p) (hs : swapsWith (.Call (.Attribute o "append" apos) [e] [] cpos) none pos.line X.env = pure false := by rfl)
    (hbase : attributeBase o "append" X.env (eval o X.env) = eval o X.env := by rfl) (hline : (apos.endLine == cpos.line) = true := by rfl) (hst : starEach [e] X.env = (false, eval e X.env) :: starEach [] X.env := by rfl)
    (hfew : ((backTo cpos (starEach [e] X.env)).all (fun x => !x.1) && (backToKw cpos (keywordEach [] X.env)).all (fun x => x.1.isSome) && decide (([e].length + ([] : List Keyword).length + if ([] : List Keyword).isEmpty = true then 0 else 1) < 30)) = true := by rfl) :
    DS X (.Expr (.Call (.Attribute o "append" apos) [e] [] cpos) pos) (pAppend i p) := fun g hK =>
  (ps_expr (pe_bm PySem.F.plainAttrs_list PySem.F.slot_list_append PySem.F.type_list_append mt_append ho (pa_cons (he g hK) pa_nil hst) hbase (hfew := hfew) (hline := hline) (hs := hst) (hplain := rfl)) hs).imp fun D σ H ⟨n, F, ρ, P, ok, h, k⟩ => by
  have h : pAppend i p P ρ n := h
  unfold pAppend at h
  split at h
  · rename_i ds hi
    obtain ⟨l, xs, e1, e2, _⟩ := ok.ownAt hi
    refine ⟨_, e1, .inl ⟨rfl, xs, SqL.of e2⟩, n, F, ρ, _, ok, h, fun n1 F1 H1 v d s1 ok1 r1 h1 => ?_⟩
    obtain ⟨l', ys, e3, e4, r4⟩ := ok1.ownAt hi
    rw [e1] at e3
    cases e3
    refine ⟨l, ys, v, rfl, rfl, e4, by rw [r4.length]; exact h1.1, ?_⟩
    exact k.nx n1 F1 _ σ _ s1 (ok1.write hi e1 (.lst (r4.append (.cons r1 .nil)))) h1.2
  · exact h.elim
/-- x.pop() of an own list, given to a name -/
def pPopS (i : Nat) (t : TPG) : TPS := fun P ρ n => match ρ[i]? with
  | some (.own (.lst ds)) => match ds[ds.length - 1]? with | some d => t d (ρ.set i (.own (.lst ds.dropLast))) n P.nx | none => False
  | _ => False
theorem ds_pop {i : Nat} {t : TPG} {is : List Nat} (ho : PE X o (tVar i)) (hg : DG X tg t is) (hs : swapsWithSole [tg] (.Call (.Attribute o "pop" apos) [] [] cpos) pos.line X.env = pure false := by rfl) (hw : swappedStores [tg] (.Call (.Attribute o "pop" apos) [] [] cpos) X.env = pure none := by rfl)
    (h1 : (assignEach [tg] X.env).map (·.2) = [assign tg X.env] := by rfl) (hbase : attributeBase o "pop" X.env (eval o X.env) = eval o X.env := by rfl) (hline : (apos.endLine == cpos.line) = true := by rfl) :
    DS X (.Assign [tg] (.Call (.Attribute o "pop" apos) [] [] cpos) pos) (pPopS i t) := fun g hK =>
  (ps_asg (pe_bm0 PySem.F.plainAttrs_list PySem.F.slot_list_pop PySem.F.type_list_pop mt_pop ho hbase (hline := hline)) (hg g hK) hs hw h1).imp fun D σ H ⟨n, F, ρ, P, ok, h, k⟩ => by
  have h : pPopS i t P ρ n := h
  unfold pPopS at h
  split at h
  · rename_i ds hi
    obtain ⟨l, xs, e1, e2, r⟩ := ok.ownAt hi
    cases hd : ds[ds.length - 1]? with
    | none => rw [hd] at h; exact h.elim
    | some d =>
      rw [hd] at h
      obtain ⟨y, hy, ry⟩ := r.get hd
      refine ⟨_, e1, .inl ⟨rfl, xs, SqL.of e2⟩, l, xs, y, rfl, rfl, e2, by rw [r.length]; exact hy, n, F, _, d, _, ok.write hi e1 (.lst r.dropLast), ry, h, fun n2 F2 H2 σ2 ρ2 s2 ok2 _ h2 => k.nx n2 F2 H2 σ2 ρ2 s2 ok2 h2⟩
  · exact h.elim

/-! ### assignments -/
theorem ds_par {i j : Nat} {x y : Str} {px py pt : Pos} {kt k2 pt2} (hN : X.N.Nodup) (hij : i ≠ j) (ha : DA X [a, b] ta) (hw : swappedStores [.Tuple [.Name x px, .Name y py] kt pt] (.Tuple [a, b] k2 pt2) X.env = pure (some [x, y])) (hi : X.N[i]? = some x := by rfl) (hj : X.N[j]? = some y := by rfl)
    (hx : X.env.scope.names.lookup x = some .local := by rfl) (hy : X.env.scope.names.lookup y = some .local := by rfl) (hc : X.calm = true := by rfl)
    (hs : swapsWithSole [.Tuple [.Name x px, .Name y py] kt pt] (.Tuple [a, b] k2 pt2) pos.line X.env = pure false := by rfl) :
    DS X (.Assign [.Tuple [.Name x px, .Name y py] kt pt] (.Tuple [a, b] k2 pt2) pos) (pPar i j ta) := fun g hK => (ps_par hc hN hi hj hij hx hy (ha g hK) hw hs).imp fun D σ H h => LA.par h
theorem ds_par3 {i j l : Nat} {x y z : Str} {c : Expr} {px py pz pt : Pos} {kt k2 pt2} (hN : X.N.Nodup) (hij : i ≠ j) (hil : i ≠ l) (hjl : j ≠ l) (ha : DA X [a, b, c] ta) (hw : swappedStores [.Tuple [.Name x px, .Name y py, .Name z pz] kt pt] (.Tuple [a, b, c] k2 pt2) X.env = pure (some [x, y, z]))
    (hi : X.N[i]? = some x := by rfl) (hj : X.N[j]? = some y := by rfl) (hl : X.N[l]? = some z := by rfl) (hx : X.env.scope.names.lookup x = some .local := by rfl) (hy : X.env.scope.names.lookup y = some .local := by rfl) (hz : X.env.scope.names.lookup z = some .local := by rfl) (hc : X.calm = true := by rfl)
    (hs : swapsWithSole [.Tuple [.Name x px, .Name y py, .Name z pz] kt pt] (.Tuple [a, b, c] k2 pt2) pos.line X.env = pure false := by rfl) :
    DS X (.Assign [.Tuple [.Name x px, .Name y py, .Name z pz] kt pt] (.Tuple [a, b, c] k2 pt2) pos) (pPar3 i j l ta) := fun g hK => (ps_par3 hc hN hi hj hl hij hil hjl hx hy hz (ha g hK) hw hs).imp fun D σ H ⟨n, F, ρ, P, ok, h, k⟩ => by
  refine ⟨n, F, ρ, _, ok, h, fun n1 F1 H1 vs ds s1 ok1 r1 h1 => ?_⟩
  match ds, r1, h1 with
  | [d, e, f], .cons r1 (.cons r2 (.cons r3 .nil)), h1 => exact ⟨_, _, _, rfl, k.nx n1 F1 H1 _ _ s1 (((ok1.set i r1).set j r2).set l r3) h1⟩
def pAug (i : Nat) (o : O2) (p : TPE) : TPS := fun P ρ n => match ρ[i]? with | some (.sh d) => p ρ n fun e m => o d e fun z => P.nx (ρ.set i (.sh z)) m | _ => False
theorem ds_aug {i : Nat} {x : Str} {op : Operator} {r : R2} {oo : O2} {pos' : Pos} (ho : OpR X (inplaceOp op) r) (hp : OpP X.K r oo) (hN : X.N.Nodup) (hx : Loc X.env.scope x) (he : SE X e p) (hi : X.N[i]? = some x := by rfl) (hf : X.fn x = true ∨ X.env.scope.names.lookup x = some .local := by first | exact .inl rfl | exact .inr rfl) :
    DS X (.AugAssign (.Name x pos') op e pos) (pAug i oo p) := fun g hK => (ps_aug hN hi hx (he g hK) (show PIp X op r from ho) hf).imp fun D σ H ⟨n, F, ρ, P, ok, h, k⟩ => by
  have h : pAug i oo p P ρ n := h
  unfold pAug at h
  split at h
  · rename_i d hd
    obtain ⟨v, e1, r1⟩ := ok.cells i _ hd
    refine ⟨v, e1, n, F, ρ, _, ok, h, fun n1 F1 H1 y z s1 ok1 r2 h1 => ?_⟩
    exact hp g n1 F1 H1 σ ρ v y d z _ _ hK ok1 (.inl (r1.mono s1)) r2 h1 fun F2 H2 w q s2 ok2 r3 h3 => k.nx n1 F2 H2 _ _ (s1.trans s2) (ok2.set i r3) h3
  · exact h.elim
theorem ds_augAdd {i : Nat} {x : Str} {pos' : Pos} (hN : X.N.Nodup) (hx : Loc X.env.scope x) (he : SE X e p) (hi : X.N[i]? = some x := by rfl) (hf : X.fn x = true ∨ X.env.scope.names.lookup x = some .local := by first | exact .inl rfl | exact .inr rfl) :
    DS X (.AugAssign (.Name x pos') .Add e pos) (pAug i (oI fun i j R => R (.int (i + j))) p) := ds_aug iop_add (op_rI0 fun _ _ _ _ => .int _) hN hx he hi hf

/-! ### == and != -/
mutual
def D.py : D → Option PyData
  | .non => some .none
  | .bl b => some (.bool b)
  | .int i => some (.int i)
  | .str s => some (.str s)
  | .lst ds => match D.pyL ds with | some xs => some (.list xs) | none => none
  | .tup ds => match D.pyL ds with | some xs => some (.tuple xs) | none => none
  | .dic [] [] => some (.dict [])
  | _ => none
def D.pyL : List D → Option (List PyData)
  | [] => some []
  | d :: ds => match D.py d, D.pyL ds with | some x, some xs => some (x :: xs) | _, _ => none
end
theorem pyL_cons {d : D} {ds : List D} {q : List PyData} (h : D.pyL (d :: ds) = some q) : ∃ x xs, q = x :: xs ∧ d.py = some x ∧ D.pyL ds = some xs := by
  rw [D.pyL] at h
  split at h
  · rename_i x xs h1 h2
    cases h
    exact ⟨x, xs, rfl, h1, h2⟩
  · cases h
mutual
theorem Rep.dp {c : Cfg} {F H : Hp} (s : Same F H) : ∀ (d : D) (v : V) (q : PyData), Rep c F v d → d.py = some q → q.canLay0 = true → Dp c.K H v q
  | .non, _, _, .non, h, _ => by cases h; exact .non
  | .bl b, _, _, .bl _, h, _ => by cases h; exact .bl b
  | .int i, _, _, .int _, h, _ => by cases h; exact .int i
  | .str x, _, _, .str _, h, _ => by cases h; exact .str x
  | .lst ds, _, _, .lst e r, h, hc => by
    rw [D.py] at h
    split at h
    · rename_i xs hx
      cases h
      exact .lst (SqL.of (s _ _ e)) (Reps.dp s ds _ xs r hx (by simpa [PyData.canLay0] using hc))
    · cases h
  | .tup ds, _, _, .tup e r, h, hc => by
    rw [D.py] at h
    split at h
    · rename_i xs hx
      cases h
      exact .tup (Same.seqT s e) (Reps.dp s ds _ xs r hx (by simpa [PyData.canLay0] using hc))
    · cases h
  | .dic ks ds, _, _, .dic _ _ _, h, hc => by
    exfalso
    cases ks <;> cases ds <;> simp [D.py] at h
    subst h
    simp [PyData.canLay0] at hc
  | .dit _ _, _, _, _, h, _ => by simp [D.py] at h
  | .obj _ _, _, _, _, h, _ => by simp [D.py] at h
  | .res, _, _, _, h, _ => by simp [D.py] at h
theorem Reps.dp {c : Cfg} {F H : Hp} (s : Same F H) : ∀ (ds : List D) (vs : List V) (qs : List PyData), Reps c F vs ds → D.pyL ds = some qs → PyData.canLayAll0 qs = true → DpAll c.K H vs qs
  | [], _, _, .nil, h, _ => by
    rw [D.pyL] at h
    cases h
    exact .nil
  | d :: ds, _, _, .cons r rs, h, hc => by
    obtain ⟨x, xs, rfl, h1, h2⟩ := pyL_cons h
    have hc : x.canLay0 = true ∧ PyData.canLayAll0 xs = true := by simpa [PyData.canLayAll0] using hc
    exact .cons (Rep.dp s d _ x r h1 hc.1) (Reps.dp s ds _ xs rs h2 hc.2)
end
end
end PL

/-! PL: ==, repr, more built-ins. -/
namespace PL
open PySem PySem.Spec L2
section
variable {X : Cx} {e a b e2 tg o : Expr} {es : List Expr} {p pa pb : TPE} {pos pf apos cpos : Pos} {ta tk : TPA}
theorem RR.dp {g : G} {n : Nat} {F H : Hp} {σ : L2.St} {ρ : PEnv} {x : V} {d : D} {q : PyData} (ok : Ok g n F H σ ρ) (h : RR g F σ ρ x d) (hq : d.py = some q) (hc : q.canLay0 = true) : Dp g.c.K H x q := by
  rcases h with h | ⟨i, hi, hs⟩
  · exact Rep.dp ok.sub d x q h hq hc
  · obtain ⟨F', s, ok'⟩ := ok.freeze hi
    obtain ⟨v, e, r⟩ := ok'.cells i _ (set_same (lt_of_get hi))
    rw [hs] at e
    cases e
    exact Rep.dp ok'.sub d x q r hq hc
theorem shaped_lay {q : PyData} (h : SeqAt.shaped q = true) : q.canLay0 = true := by
  unfold SeqAt.shaped at h
  rw [Bool.and_eq_true] at h
  exact h.1
def oEq : O2 := fun d e R => match d, e with
  | .str s, .str t => R (.bl (decide (s = t)))
  | .int i, .int j => R (.bl (decide (i = j)))
  | d, e => match d.py, e.py with
    | some x, some y => SeqAt.shaped x = true ∧ SeqAt.shaped y = true ∧ R (.bl (PyData.eqv x y))
    | _, _ => False
def oNe : O2 := fun d e R => match d, e with
  | .str s, .str t => R (.bl (!decide (s = t)))
  | .int i, .int j => R (.bl (!decide (i = j)))
  | d, e => match d.py, e.py with
    | some x, some y => SeqAt.shaped x = true ∧ SeqAt.shaped y = true ∧ R (.bl (!PyData.eqv x y))
    | _, _ => False
theorem dec_strV (s t : Str) : decide (V.str s = V.str t) = decide (s = t) := by simp
theorem dec_intV (s t : Int) : decide (V.int s = V.int t) = decide (s = t) := by simp
theorem opp_eq {K : PySem.W.Frag} : OpP K (fun x y H Q => rEqD K x y H Q ∨ rEq x y H Q) oEq := fun g n F H σ ρ x y d e R Q hK ok r1 r2 q k => by
  have q : oEq d e R := q
  unfold oEq at q
  split at q
  · cases r1.str ok
    cases r2.str ok
    exact .inr ⟨rfl, by rw [dec_strV]; exact k F H _ _ (Same.refl F) ok (.bl _) q⟩
  · cases r1.int ok
    cases r2.int ok
    exact .inr ⟨rfl, by rw [dec_intV]; exact k F H _ _ (Same.refl F) ok (.bl _) q⟩
  · split at q
    · rename_i u w hu hw
      exact .inl ⟨u, w, by rw [← hK]; exact r1.dp ok hu (shaped_lay q.1), by rw [← hK]; exact r2.dp ok hw (shaped_lay q.2.1), q.1, q.2.1, k F H _ _ (Same.refl F) ok (.bl _) q.2.2⟩
    · exact q.elim
theorem opp_ne {K : PySem.W.Frag} : OpP K (fun x y H Q => rNeD K x y H Q ∨ rNe x y H Q) oNe := fun g n F H σ ρ x y d e R Q hK ok r1 r2 q k => by
  have q : oNe d e R := q
  unfold oNe at q
  split at q
  · cases r1.str ok
    cases r2.str ok
    exact .inr ⟨rfl, by rw [dec_strV]; exact k F H _ _ (Same.refl F) ok (.bl _) q⟩
  · cases r1.int ok
    cases r2.int ok
    exact .inr ⟨rfl, by rw [dec_intV]; exact k F H _ _ (Same.refl F) ok (.bl _) q⟩
  · split at q
    · rename_i u w hu hw
      exact .inl ⟨u, w, by rw [← hK]; exact r1.dp ok hu (shaped_lay q.1), by rw [← hK]; exact r2.dp ok hw (shaped_lay q.2.1), q.1, q.2.1, k F H _ _ (Same.refl F) ok (.bl _) q.2.2⟩
    · exact q.elim
theorem de_eq (hu : X.A.units + 64 < cLine) (ha : SE X a pa) (hb : SE X b pb) : DE X (.Compare a [.Eq] [b] pos) (pBin oEq pa pb) := de_cmp ((op_eqD hu).or op_eq) opp_eq ha hb (nomark _)
theorem de_ne (hu : X.A.units + 64 < cLine) (ha : SE X a pa) (hb : SE X b pb) : DE X (.Compare a [.NotEq] [b] pos) (pBin oNe pa pb) := de_cmp ((op_neD hu).or op_ne) opp_ne ha hb (nomark _)
theorem dt_eq (hu : X.A.units + 64 < cLine) (ha : SE X a pa) (hb : SE X b pb) : DT X (.Compare a [.Eq] [b] pos) (pB (pBin oEq pa pb)) := dt_cmp ((op_eqD hu).or op_eq) opp_eq ha hb (nomark _)
theorem dt_ne (hu : X.A.units + 64 < cLine) (ha : SE X a pa) (hb : SE X b pb) : DT X (.Compare a [.NotEq] [b] pos) (pB (pBin oNe pa pb)) := dt_cmp ((op_neD hu).or op_ne) opp_ne ha hb (nomark _)

/-! ### repr -/
def showOk (q : PyData) : Prop := q.showable = true ∧ q.depth ≤ 62 ∧ q.shown.length ≤ sizeLine ∧ (q.canLay0 = true ∨ q = .dict [])
def oRepr : OL := fun ds R => match ds with
  | [d] => match d.py with | some q => showOk q ∧ R (.str q.shown) | none => False
  | _ => False
theorem call_reprD (hu : X.A.units + 64 < cLine) (hgd : X.A.guards = some []) : CallR X (.builtin "repr") (fun xs H Q => ∃ x q, xs = [x] ∧ (Dp X.K H x q ∨ (q = .dict [] ∧ ∃ l, x = .ref l ∧ H l = some (.dK []))) ∧ showOk q ∧ Q (.str q.shown) H) := by
  intro pins s σ H xs us Q I r h
  obtain ⟨x, q, rfl, hq, ⟨h1, h2, h3, h4⟩, hQ⟩ := h
  obtain ⟨u, rfl, ru⟩ := Vals.one r
  have fin : ∀ (l : Addr) (as : List Addr), Reads s.heap (.ref l) q as → (q.hasDict = true → sysModules ∉ as) → wpAny (model X.prog X.w) X.A (call (.builtin "repr") [.ref l]) (EP X pins σ Q) X.xe s := fun l as hr hs =>
    repr_of_reads' hr h1 hs hgd (by omega) (fun _ _ e => e) (fun h' u tk hk => ⟨.str q.shown, H, I.kept (t' := tk) hk, ⟨_, rfl⟩, hQ⟩) h3
  rcases hq with hq | ⟨rfl, l, rfl, hl⟩
  · have lay : q.canLay0 = true := by
      rcases h4 with h4 | rfl
      · exact h4
      · cases hq
    obtain ⟨as, hr⟩ := Dp.reads I q x u hq ru
    have hs : q.hasDict = true → sysModules ∉ as := PyData.noDict_hsm (PyData.hasDict_of_canLay q lay)
    cases hq with
    | non => cases ru; exact P.repr_of_none ⟨.str _, H, I.tok _, ⟨_, rfl⟩, by simpa only [PyData.shown] using hQ⟩
    | bl b => cases ru; exact P.repr_of_bool ⟨.str _, H, I.tok _, ⟨_, rfl⟩, by simpa only [PyData.shown] using hQ⟩
    | int i =>
      obtain ⟨t, rfl⟩ := ru
      exact P.repr_of_int (by simpa [PyData.showable] using h1) ⟨.str _, H, I.tok _, ⟨_, rfl⟩, by simpa only [PyData.shown] using hQ⟩
    | str z =>
      obtain ⟨t, rfl⟩ := ru
      exact P.repr_of_str ⟨.str _, H, I.tok _, ⟨_, rfl⟩, by simpa only [PyData.shown] using hQ⟩ (by simpa only [PyData.shown] using h3)
    | lst _ _ => cases ru; exact fin _ as hr hs
    | tup _ _ => cases ru; exact fin _ as hr hs
  · cases ru
    obtain ⟨_, hsy, vs, kv, hm⟩ := I.hok l _ hl
    have kv : KV [] vs := kv
    cases kv
    obtain ⟨ob, es, ep, e1, e2, e3, e4, e5, _⟩ := hm
    have hes : es.toList = [] := by
      revert e5
      generalize es.toList = l
      intro e5
      cases e5
      rfl
    refine fin l _ (Reads.dict (kvs := []) (as := []) (bs := []) e1 e2.1 e3 (by rw [hes]; exact .nil) (by rw [hes]; exact .nil)) ?_
    intro _ hm
    have : sysModules = l := by simpa using hm
    rw [this] at hsy
    simp at hsy
theorem cp_repr : CaP X.K (fun xs H Q => ∃ x q, xs = [x] ∧ (Dp X.K H x q ∨ (q = .dict [] ∧ ∃ l, x = .ref l ∧ H l = some (.dK []))) ∧ showOk q ∧ Q (.str q.shown) H) oRepr := fun g n F H σ ρ xs ds R Q hK ok r q k => by
  have q : oRepr ds R := q
  unfold oRepr at q
  split at q
  · cases r with
    | cons r t =>
      cases t
      split at q
      · rename_i d _ _ _ y hy
        refine ⟨_, y, rfl, ?_, q.1, k F H _ _ (Same.refl F) ok (.str _) q.2⟩
        rcases q.1.2.2.2 with h4 | rfl
        · exact .inl (by rw [← hK]; exact r.dp ok hy h4)
        · refine .inr ⟨rfl, ?_⟩
          cases d with
          | dic ks es =>
            cases ks <;> cases es <;> simp [D.py] at hy
            obtain ⟨l, xs, rfl, e1, e2, e3⟩ := r.dic ok
            cases e3
            exact ⟨l, rfl, e1⟩
          | lst ds => rw [D.py] at hy; split at hy <;> cases hy
          | tup ds => rw [D.py] at hy; split at hy <;> cases hy
          | _ => simp [D.py] at hy
      · exact q.elim
  · exact q.elim
theorem de_repr (hm : X.mg "repr" = none) (hg : Gl X "repr") (hu : X.A.units + 64 < cLine) (hgd : X.A.guards = some []) (ha : SA X [e] ta) (he : starEach [e] X.env = (false, eval e X.env) :: starEach [] X.env := by rfl) : DE X (.Call (.Name "repr" pf) [e] [] pos) (pCall oRepr ta) :=
  de_callB (call_reprD hu hgd) cp_repr hg hm (by decide +kernel) ha (he := he) (hpl := rfl)
end
end PL

/-! PL: more built-ins. -/
namespace PL
open PySem PySem.Spec L2
section
variable {X : Cx} {e a b e2 tg o : Expr} {es : List Expr} {p pa pb : TPE} {pos pf apos cpos : Pos} {ta tk : TPA}
/-- int: of an int, a bool, a text that is a number -/
def oIntA : OL := fun ds R => match ds with
  | [.int i] => R (.int i)
  | [.bl b] => R (.int (if b then 1 else 0))
  | [.str s] => s.length ≤ 640 ∧ match PySem.intText? s with | some n => R (.int n) | none => False
  | _ => False
theorem de_int1 (hm : X.mg "int" = none) (hg : Gl X "int") (ha : SA X [e] ta) (he : starEach [e] X.env = (false, eval e X.env) :: starEach [] X.env := by rfl) : DE X (.Call (.Name "int" pf) [e] [] pos) (pCall oIntA ta) := by
  refine de_callTy (call_int1.or call_int_str) (fun g n F H σ ρ xs ds R Q hK ok r q k => ?_) hg hm (by decide +kernel) ha (he := he) (hpl := rfl)
  have q : oIntA ds R := q
  unfold oIntA at q
  split at q
  · cases r with
    | cons r t =>
      cases t
      cases r.int ok
      exact .inl (.inl ⟨_, rfl, k F H _ _ (Same.refl F) ok (.int _) q⟩)
  · cases r with
    | cons r t =>
      cases t
      cases r.bl ok
      exact .inl (.inr ⟨_, rfl, k F H _ _ (Same.refl F) ok (.int _) q⟩)
  · cases r with
    | cons r t =>
      cases t
      cases r.str ok
      obtain ⟨h1, q⟩ := q
      split at q
      · rename_i n hn
        exact .inr ⟨_, n, rfl, hn, h1, k F H _ _ (Same.refl F) ok (.int _) q⟩
      · exact q.elim
  · exact q.elim
/-- list, tuple -/
def oList : OL := fun ds R => match ds with
  | [.lst xs] => R (.lst xs)
  | [.tup xs] => R (.lst xs)
  | _ => False
theorem fe_list (hm : X.mg "list" = none) (hg : Gl X "list") (ha : SA X [e] ta) (he : starEach [e] X.env = (false, eval e X.env) :: starEach [] X.env := by rfl) : FE X (.Call (.Name "list" pf) [e] [] pos) (pCall oList ta) := fun g hK =>
  (pe_callTy call_list_of hg hm (by decide +kernel) (ha g hK) (he := he) (hpl := rfl)).imp fun σ H Q ⟨n, F, ρ, R, ok, hq, k⟩ =>
  ⟨n, F, ρ, _, ok, hq, fun n1 F1 H1 vs ds s1 ok1 r1 h1 => by
    have h1 : oList ds fun z => R z n1 := h1
    unfold oList at h1
    split at h1
    · cases r1 with
      | cons r t =>
        cases t
        obtain ⟨l, xs, rfl, e1, t1⟩ := r.lst ok1
        exact ⟨l, xs, rfl, .inl (SqL.of e1), fun q hn => k n1 F1 H1 q _ _ s1 ok1 hn (.lst t1) h1⟩
    · cases r1 with
      | cons r t =>
        cases t
        obtain ⟨l, xs, rfl, e1, t1, _⟩ := r.tup ok1
        rw [hK] at e1
        exact ⟨l, xs, rfl, .inr e1, fun q hn => k n1 F1 H1 q _ _ s1 ok1 hn (.lst t1) h1⟩
    · exact h1.elim⟩
def oTuple : OL := fun ds R => match ds with
  | [.lst xs] => R (.tup xs)
  | [.tup xs] => R (.tup xs)
  | _ => False
theorem de_tuple (hm : X.mg "tuple" = none) (hg : Gl X "tuple") (ha : SA X [e] ta) (he : starEach [e] X.env = (false, eval e X.env) :: starEach [] X.env := by rfl) : DE X (.Call (.Name "tuple" pf) [e] [] pos) (pCall oTuple ta) := by
  refine de_callTy call_tuple_of (fun g n F H σ ρ xs ds R Q hK ok r q k => ?_) hg hm (by decide +kernel) ha (he := he) (hpl := rfl)
  have q : oTuple ds R := q
  unfold oTuple at q
  split at q
  · cases r with
    | cons r t =>
      cases t
      obtain ⟨l, xs, rfl, e1, t1⟩ := r.lst ok
      exact ⟨l, xs, rfl, .inl ⟨SqL.of e1, fun q' hn => k (upd F q' _) _ _ _ (ok.sameF _ hn) (ok.alloc _ hn) (.tup (SqT.of upd_same) (t1.mono (ok.sameF _ hn))) q⟩⟩
  · cases r with
    | cons r t =>
      cases t
      obtain ⟨l, xs, rfl, e1, t1, t2⟩ := r.tup ok
      rw [hK] at e1
      exact ⟨l, xs, rfl, .inr ⟨e1, k F H _ _ (Same.refl F) ok t2 q⟩⟩
  · exact q.elim
/-- isinstance(e, T), T a built-in class -/
def tyName : D → Option String
  | .non => some "NoneType"
  | .bl _ => some "bool"
  | .int _ => some "int"
  | .str _ => some "str"
  | .lst _ => some "list"
  | .tup _ => some "tuple"
  | .dic _ _ => some "dict"
  | .dit _ _ => some "dict"
  | _ => none
theorem sqt_ty {K : PySem.W.Frag} {H : Hp} {l : Addr} {xs : List V} (h : SqT K H l xs) : TyX K H (.ref l) (.type "tuple") := by
  rcases h with (h | ⟨o, h⟩) | ⟨o, its, n, h1, h2, _⟩
  · exact .base (.tup h)
  · exact .fTuple h
  · exact .kTuple h1 h2
theorem RR.ty {g : G} {n : Nat} {F H : Hp} {σ : L2.St} {ρ : PEnv} {x : V} {d : D} {t : String} (ok : Ok g n F H σ ρ) (h : RR g F σ ρ x d) (ht : tyName d = some t) : TyX g.c.K H x (.type t) := by
  cases d with
  | non => cases ht; cases h.non ok; exact .base .non
  | bl b => cases ht; cases h.bl ok; exact .base (.bl b)
  | int i => cases ht; cases h.int ok; exact .base (.int i)
  | str z => cases ht; cases h.str ok; exact .base (.str z)
  | lst ds => cases ht; obtain ⟨l, xs, rfl, e, _⟩ := h.lst ok; exact .base (.lst e)
  | tup ds => cases ht; obtain ⟨l, xs, rfl, e, _⟩ := h.tup ok; exact sqt_ty e
  | dic ks ds => cases ht; obtain ⟨l, xs, rfl, e, _⟩ := h.dic ok; exact .base (.dK e)
  | dit ks ds => cases ht; obtain ⟨l, xs, rfl, e, _⟩ := h.dit ok; exact .base (.dT e)
  | obj _ _ => cases ht
  | res => cases ht
def pIsi (T : String) (p : TPE) : TPE := fun ρ n R => p ρ n fun d m => match tyName d with
  | some t => match kitB t T with | some b => R (.bl b) m | none => False
  | none => False
theorem de_isi {x : Str} {T : String} {px : Pos} (hm : X.mg "isinstance" = none) (hmx : X.mg x = none) (hg : Gl X "isinstance") (hgx : Gl X x) (hv : bootBuiltins x = some (.type T)) (he : SE X e p) (hn : x ≠ "__name__" := by decide) (hdb : (x == ("__debug__" : Str)) = false := by decide)
    (hs : starEach (e :: [.Name x px]) X.env = (false, eval e X.env) :: starEach [.Name x px] X.env := by rfl) (hs2 : starEach (.Name x px :: []) X.env = (false, eval (.Name x px) X.env) :: starEach [] X.env := by rfl) (hpl : (backTo pos (starEach [.Name x px] X.env)).any (·.1) = false := by rfl) :
    DE X (.Call (.Name "isinstance" pf) [e, .Name x px] [] pos) (pIsi T p) := fun g hK =>
  (pe_callB call_isi hg hm (by decide +kernel) (pa_cons (he g hK) (pa_cons (pe_bltn (v := .ty T) hgx hmx hv rfl hn hdb) pa_nil hs2) hs) (he := hs) (hpl := hpl)).imp fun σ H Q ⟨n, F, ρ, R, ok, hq, k⟩ =>
  ⟨n, F, ρ, _, ok, hq, fun n1 F1 H1 v d s1 ok1 r1 h1 => by
    have h1 : (match tyName d with | some t => (match kitB t T with | some b => R (.bl b) n1 | none => False) | none => False) := h1
    split at h1
    · rename_i t ht
      split at h1
      · rename_i c hc
        exact ⟨v, .ty T, .type t, .type T, c, rfl, .ty T, by rw [← hK]; exact r1.ty ok1 ht, kit_ty hc, k n1 F1 H1 _ _ s1 ok1 (.bl _) h1⟩
      · exact h1.elim
    · exact h1.elim⟩
/-- abs, max, min of ints -/
def oAbs : OL := fun ds R => match ds with | [.int i] => R (.int (if i < 0 then -i else i)) | _ => False
theorem de_abs (hm : X.mg "abs" = none) (hg : Gl X "abs") (ha : SA X [e] ta) (he : starEach [e] X.env = (false, eval e X.env) :: starEach [] X.env := by rfl) : DE X (.Call (.Name "abs" pf) [e] [] pos) (pCall oAbs ta) := by
  refine de_callB call_abs (fun g n F H σ ρ xs ds R Q hK ok r q k => ?_) hg hm (by decide +kernel) ha (he := he) (hpl := rfl)
  match ds, r, q with
  | [.int i], .cons r .nil, q =>
    cases r.int ok
    exact ⟨_, rfl, k F H _ _ (Same.refl F) ok (.int _) q⟩
def oMax2 : OL := fun ds R => match ds with | [.int i, .int j] => R (.int (if j > i then j else i)) | _ => False
def oMin2 : OL := fun ds R => match ds with | [.int i, .int j] => R (.int (if j < i then j else i)) | _ => False
theorem de_max2 (hm : X.mg "max" = none) (hg : Gl X "max") (ha : SA X [e, e2] ta) (hc : X.calm = true := by rfl) (he : starEach (e :: [e2]) X.env = (false, eval e X.env) :: starEach [e2] X.env := by rfl) (hpl : (backTo pos (starEach [e2] X.env)).any (·.1) = false := by rfl) : DE X (.Call (.Name "max" pf) [e, e2] [] pos) (pCall oMax2 ta) := by
  refine de_callB (call_max2 hc) (fun g n F H σ ρ xs ds R Q hK ok r q k => ?_) hg hm (by decide +kernel) ha (he := he) (hpl := hpl)
  match ds, r, q with
  | [.int i, .int j], .cons r (.cons r2 .nil), q =>
    cases r.int ok
    cases r2.int ok
    exact ⟨_, _, rfl, k F H _ _ (Same.refl F) ok (.int _) q⟩
theorem de_min2 (hm : X.mg "min" = none) (hg : Gl X "min") (ha : SA X [e, e2] ta) (hc : X.calm = true := by rfl) (he : starEach (e :: [e2]) X.env = (false, eval e X.env) :: starEach [e2] X.env := by rfl) (hpl : (backTo pos (starEach [e2] X.env)).any (·.1) = false := by rfl) : DE X (.Call (.Name "min" pf) [e, e2] [] pos) (pCall oMin2 ta) := by
  refine de_callB (call_min2 hc) (fun g n F H σ ρ xs ds R Q hK ok r q k => ?_) hg hm (by decide +kernel) ha (he := he) (hpl := hpl)
  match ds, r, q with
  | [.int i, .int j], .cons r (.cons r2 .nil), q =>
    cases r.int ok
    cases r2.int ok
    exact ⟨_, _, rfl, k F H _ _ (Same.refl F) ok (.int _) q⟩
/-- lists of one kind -/
def asBls : List D → Option (List Bool)
  | [] => some []
  | .bl b :: ds => (asBls ds).map (b :: ·)
  | _ => none
def asInts : List D → Option (List Int)
  | [] => some []
  | .int i :: ds => (asInts ds).map (i :: ·)
  | _ => none
def asStrs : List D → Option (List Str)
  | [] => some []
  | .str i :: ds => (asStrs ds).map (i :: ·)
  | _ => none
theorem Reps.bls {c : Cfg} {F : Hp} : ∀ {ds : List D} {vs : List V} {bs : List Bool}, Reps c F vs ds → asBls ds = some bs → vs = bs.map V.bl
  | [], _, _, .nil, h => by cases h; rfl
  | .bl b :: ds, _, bs, .cons (.bl _) t, h => by
    rw [asBls] at h
    cases q : asBls ds with
    | none => rw [q] at h; cases h
    | some xs =>
      rw [q] at h
      cases h
      rw [Reps.bls t q]
      rfl
theorem Reps.intsV {c : Cfg} {F : Hp} : ∀ {ds : List D} {vs : List V} {bs : List Int}, Reps c F vs ds → asInts ds = some bs → vs = bs.map V.int
  | [], _, _, .nil, h => by cases h; rfl
  | .int b :: ds, _, bs, .cons (.int _) t, h => by
    rw [asInts] at h
    cases q : asInts ds with
    | none => rw [q] at h; cases h
    | some xs =>
      rw [q] at h
      cases h
      rw [Reps.intsV t q]
      rfl
theorem Reps.strsV {c : Cfg} {F : Hp} : ∀ {ds : List D} {vs : List V} {bs : List Str}, Reps c F vs ds → asStrs ds = some bs → vs = bs.map V.str
  | [], _, _, .nil, h => by cases h; rfl
  | .str b :: ds, _, bs, .cons (.str _) t, h => by
    rw [asStrs] at h
    cases q : asStrs ds with
    | none => rw [q] at h; cases h
    | some xs =>
      rw [q] at h
      cases h
      rw [Reps.strsV t q]
      rfl
theorem asBls_map (bs : List Bool) : asBls (bs.map D.bl) = some bs := by
  induction bs with
  | nil => rfl
  | cons b bs ih => rw [List.map_cons, asBls, ih]; rfl
theorem asInts_map (bs : List Int) : asInts (bs.map D.int) = some bs := by
  induction bs with
  | nil => rfl
  | cons b bs ih => rw [List.map_cons, asInts, ih]; rfl
theorem asStrs_map (bs : List Str) : asStrs (bs.map D.str) = some bs := by
  induction bs with
  | nil => rfl
  | cons b bs ih => rw [List.map_cons, asStrs, ih]; rfl
def oAll : OL := fun ds R => match ds with | [.lst xs] => (match asBls xs with | some bs => R (.bl (bs.all id)) | none => False) | _ => False
def oAny : OL := fun ds R => match ds with | [.lst xs] => (match asBls xs with | some bs => R (.bl (bs.any id)) | none => False) | _ => False
def oSum : OL := fun ds R => match ds with | [.lst xs] => (match asInts xs with | some bs => R (.int bs.sum) | none => False) | _ => False
theorem de_all (hm : X.mg "all" = none) (hg : Gl X "all") (ha : SA X [e] ta) (hc : X.calm = true := by rfl) (he : starEach [e] X.env = (false, eval e X.env) :: starEach [] X.env := by rfl) : DE X (.Call (.Name "all" pf) [e] [] pos) (pCall oAll ta) := by
  refine de_callB (cr_all hc) (fun g n F H σ ρ xs ds R Q hK ok r q k => ?_) hg hm (by decide +kernel) ha (he := he) (hpl := rfl)
  match ds, r, q with
  | [.lst zs], .cons r .nil, q =>
    obtain ⟨l, xs, rfl, e1, t1⟩ := r.lst ok
    have q : (match asBls zs with | some bs => R (.bl (bs.all id)) | none => False) := q
    split at q
    · rename_i bs hb
      rw [t1.bls hb] at e1
      exact ⟨l, bs, rfl, SqL.of e1, k F H _ _ (Same.refl F) ok (.bl _) q⟩
    · exact q.elim
theorem de_any (hm : X.mg "any" = none) (hg : Gl X "any") (ha : SA X [e] ta) (hc : X.calm = true := by rfl) (he : starEach [e] X.env = (false, eval e X.env) :: starEach [] X.env := by rfl) : DE X (.Call (.Name "any" pf) [e] [] pos) (pCall oAny ta) := by
  refine de_callB (cr_any hc) (fun g n F H σ ρ xs ds R Q hK ok r q k => ?_) hg hm (by decide +kernel) ha (he := he) (hpl := rfl)
  match ds, r, q with
  | [.lst zs], .cons r .nil, q =>
    obtain ⟨l, xs, rfl, e1, t1⟩ := r.lst ok
    have q : (match asBls zs with | some bs => R (.bl (bs.any id)) | none => False) := q
    split at q
    · rename_i bs hb
      rw [t1.bls hb] at e1
      exact ⟨l, bs, rfl, SqL.of e1, k F H _ _ (Same.refl F) ok (.bl _) q⟩
    · exact q.elim
theorem de_sum (hm : X.mg "sum" = none) (hg : Gl X "sum") (ha : SA X [e] ta) (hc : X.calm = true := by rfl) (he : starEach [e] X.env = (false, eval e X.env) :: starEach [] X.env := by rfl) : DE X (.Call (.Name "sum" pf) [e] [] pos) (pCall oSum ta) := by
  refine de_callB (cr_sum hc) (fun g n F H σ ρ xs ds R Q hK ok r q k => ?_) hg hm (by decide +kernel) ha (he := he) (hpl := rfl)
  match ds, r, q with
  | [.lst zs], .cons r .nil, q =>
    obtain ⟨l, xs, rfl, e1, t1⟩ := r.lst ok
    have q : (match asInts zs with | some bs => R (.int bs.sum) | none => False) := q
    split at q
    · rename_i bs hb
      rw [t1.intsV hb] at e1
      exact ⟨l, bs, rfl, SqL.of e1, k F H _ _ (Same.refl F) ok (.int _) q⟩
    · exact q.elim
/-- sep.join(xs) -/
def pJoin (p q : TPE) : TPE := fun ρ n R => p ρ n fun d m => match d with
  | .str s => q ρ m fun e k => match e with
    | .lst xs => (match asStrs xs with | some ys => (ys.map (·.length)).sum + ys.length * s.length ≤ 16777216 ∧ R (.str (Txt.join s ys)) k | none => False)
    | .tup xs => (match asStrs xs with | some ys => (ys.map (·.length)).sum + ys.length * s.length ≤ 16777216 ∧ R (.str (Txt.join s ys)) k | none => False)
    | _ => False
  | _ => False
theorem de_join (ho : DE X o pa) (he : SE X e p) (hs : starEach [e] X.env = [(false, eval e X.env)] := by rfl) (hbase : attributeBase o "join" X.env (eval o X.env) = eval o X.env := by rfl) (hline : (apos.endLine == pos.line) = true := by rfl) :
    DE X (.Call (.Attribute o "join" apos) [e] [] pos) (pJoin pa p) := fun g hK => (pe_join (ho g hK) (he g hK) hs hbase hline).imp fun σ H Q ⟨n, F, ρ, R, ok, hq, k⟩ => by
  refine ⟨n, F, ρ, _, ok, hq, fun n1 F1 H1 v d s1 ok1 r1 h1 => ?_⟩
  revert h1 r1
  cases d <;> intro r1 h1 <;> first | exact False.elim h1 | skip
  rename_i z
  cases r1
  refine ⟨⟨z, rfl⟩, n1, F1, ρ, _, ok1, h1, fun n2 F2 H2 w d2 s2 ok2 r2 h2 => ?_⟩
  revert h2 r2
  cases d2 <;> intro r2 h2 <;> first | exact False.elim h2 | skip
  · rename_i xs
    obtain ⟨l, us, rfl, e1, t1⟩ := r2.lst ok2
    have h2 : (match asStrs xs with | some ys => (ys.map (·.length)).sum + ys.length * z.length ≤ 16777216 ∧ R (.str (Txt.join z ys)) n2 | none => False) := h2
    split at h2
    · rename_i ys hy
      rw [t1.strsV hy] at e1
      exact ⟨z, l, ys, rfl, rfl, .inl (SqL.of e1), h2.1, k n2 F2 H2 _ _ (s1.trans s2) ok2 (.str _) h2.2⟩
    · exact h2.elim
  · rename_i xs
    obtain ⟨l, us, rfl, e1, t1, _⟩ := r2.tup ok2
    have h2 : (match asStrs xs with | some ys => (ys.map (·.length)).sum + ys.length * z.length ≤ 16777216 ∧ R (.str (Txt.join z ys)) n2 | none => False) := h2
    split at h2
    · rename_i ys hy
      rw [t1.strsV hy, hK] at e1
      exact ⟨z, l, ys, rfl, rfl, .inr e1, h2.1, k n2 F2 H2 _ _ (s1.trans s2) ok2 (.str _) h2.2⟩
    · exact h2.elim
/-- str(n) -/
def oStr : OL := fun ds R => match ds with | [.int i] => i.natAbs.log2 < 1920 ∧ R (.str (toString i)) | _ => False
theorem de_str1 (hm : X.mg "str" = none) (hg : Gl X "str") (ha : SA X [e] ta) (he : starEach [e] X.env = (false, eval e X.env) :: starEach [] X.env := by rfl) : DE X (.Call (.Name "str" pf) [e] [] pos) (pCall oStr ta) := by
  refine de_callTy call_str_int (fun g n F H σ ρ xs ds R Q hK ok r q k => ?_) hg hm (by decide +kernel) ha (he := he) (hpl := rfl)
  match ds, r, q with
  | [.int i], .cons r .nil, q =>
    cases r.int ok
    exact ⟨_, rfl, q.1, k F H _ _ (Same.refl F) ok (.str _) q.2⟩
/-- xs[::-1] -/
def pRev (p : TPE) : TPE := fun ρ n R => p ρ n fun d m => match d with | .lst ds => R (.lst ds.reverse) m | _ => False
theorem de_rev {k : Nat} {p1 p2 p3 : Pos} (he : SE X e p) : DE X (.Subscript e (.Slice none none (some (.UnaryOp .USub (.Constant (.int 1) k p1) p2)) p3) pos) (pRev p) := fun g hK => (pe_revL (he g hK)).imp fun σ H Q ⟨n, F, ρ, R, ok, hq, k⟩ => by
  refine ⟨n, F, ρ, _, ok, hq, fun n1 F1 H1 v d s1 ok1 r1 h1 => ?_⟩
  revert h1 r1
  cases d <;> intro r1 h1 <;> first | exact False.elim h1 | skip
  obtain ⟨l, us, rfl, e1, t1⟩ := r1.lst ok1
  exact ⟨l, us, rfl, SqL.of e1, fun q hn => k n1 (upd F1 q _) _ _ _ (s1.trans (ok1.sameF _ hn)) (ok1.alloc _ hn) (.lst upd_same (t1.reverse.mono (ok1.sameF _ hn))) h1⟩
end
end PL

/-! PL: defs by name. -/
namespace PL
open PySem PySem.Spec L2
open PyProof.Rows (envOfC)
/-- the def named x of the module keeps S; nbs: the ways in which it is called by names alone -/
def FnC (P : Program) (w : World) (K : PySem.W.Frag) (mg : Str → Option Value) (base : Heap) (k : Nat) (x : Str) (ps : List Str) (nbs : List (List Str × List Nat)) (S : Spec) : Prop :=
  ∃ (f : Addr) (fd : FuncData), FnG P w K mg base k f fd ps (spP K S) ∧ mg x = some (.ref f) ∧ PySem.W.keepIn K (.ref f) = true ∧ Binds K fd ps [] ∧ ∀ q ∈ nbs, NBinds K fd ps q.1 q.2
section
variable {P : Program} {w : World} {K : PySem.W.Frag} {mg : Str → Option Value} {base : Heap}
theorem _root_.L2.Fun.nbinds {x qual : Str} {st : Stmt} {f : Addr} {fd : FuncData} {ps ks : List Str} {ix : List Nat} (F : Fun K x qual st f fd)
    (h : ∀ (kV doc pm : Value) (an : Option Addr) (cdv ct : Value) (ws : List Value), ws.length = ks.length → bindArgs (PySem.W.fnOf x qual (defArgs st) (defBody st) (defScope st) .none kV doc pm an cdv ct) ⟨[], ks.zip ws⟩ = pure (ps.zip (picks ix ws))) : NBinds K fd ps ks ix := by
  obtain ⟨oc, od, kV, doc, pm, an, cdv, ct, osl, rfl, lk, hcd⟩ := F.ex
  intro s ws _ hl
  exact .of_eq (h kV doc pm an cdv ct ws hl)
theorem fnc {x : Str} {st : Stmt} {f : Addr} {fd : FuncData} {N ps : List Str} {k : Nat} {nbs : List (List Str × List Nat)} {S : Spec} (Fu : Fun K x x st f fd) (hm : mg x = some (.ref f)) (sc : FnScope N ps (defScope st)) (hb : Binds K fd ps []) (hnb : ∀ q ∈ nbs, NBinds K fd ps q.1 q.2) (len : ∀ ds n R, S ds n R → ds.length = ps.length)
    (hbody : ∀ (cdv : Value) (A : Around) (outer : List Env) (s : Shared) (H : Hp) (E : XK), A.guards = some [] → Room k (A.deeper (envOfC x (defScope st) s.heap.objs.size f cdv)) →
      ∃ q, DSs (cxOf CX0 P w K mg base N x (defScope st) f cdv A outer s H E).nox (defBody st) q ∧ ∀ ds n R, S ds n R → q { nx := fun _ m => R .non m, rt := R } (env0 N.length ds) n) : FnC P w K mg base (k + 1) x ps nbs S :=
  ⟨f, fd, Fu.okPG sc len hbody, hm, Fu.kp, hb, hnb⟩
theorem fncH {x : Str} {st : Stmt} {f : Addr} {fd : FuncData} {ps : List Str} {k : Nat} {nbs : List (List Str × List Nat)} {S : Spec} (Fu : Fun K x x st f fd) (hm : mg x = some (.ref f)) (hb : Binds K fd ps []) (hnb : ∀ q ∈ nbs, NBinds K fd ps q.1 q.2) (h : FnG P w K mg base k f fd ps (spP K S)) : FnC P w K mg base k x ps nbs S :=
  ⟨f, fd, h, hm, Fu.kp, hb, hnb⟩
end
section
variable {X : Cx} {k : Nat} {ps : List Str} {nbs : List (List Str × List Nat)} {S : Spec} {x : Str} {pf pos : Pos} {e : Expr} {es : List Expr} {t tk : TPA} {kws : List Keyword}
theorem de_fnC (Fn : FnC X.prog X.w X.K X.mg X.base k x ps nbs S) (hgd : X.A.guards = some []) (hr : Room k X.A) (ha : DA X (e :: es) t) (hg : Gl X x := by rfl) (hdb : (x == ("__debug__" : Str)) = false := by decide)
    (he : starEach (e :: es) X.env = (false, eval e X.env) :: starEach es X.env := by rfl) (hpl : (backTo pos (starEach es X.env)).any (·.1) = false := by rfl) : DE X (.Call (.Name x pf) (e :: es) [] pos) (pFn S t) := by
  obtain ⟨f, fd, h1, h2, h3, h4, h5⟩ := Fn
  exact de_fn h1 hgd hr hg h2 h3 h4 ha hdb he hpl
theorem de_fnC0 (Fn : FnC X.prog X.w X.K X.mg X.base k x ps nbs S) (hgd : X.A.guards = some []) (hr : Room k X.A) (hg : Gl X x := by rfl) (hdb : (x == ("__debug__" : Str)) = false := by decide) : DE X (.Call (.Name x pf) [] [] pos) (pFn S pNil) := by
  obtain ⟨f, fd, h1, h2, h3, h4, h5⟩ := Fn
  exact de_fn0 h1 hgd hr hg h2 h3 h4 hdb
theorem de_fnKC {ks : List Str} {ix : List Nat} (Fn : FnC X.prog X.w X.K X.mg X.base k x ps nbs S) (hq : (ks, ix) ∈ nbs) (hgd : X.A.guards = some []) (hr : Room k X.A) (ha : DK X kws tk) (hg : Gl X x := by rfl) (hall : (backToKw pos (keywordEach kws X.env)).all (·.1.isSome) = true := by rfl) (hks : (backToKw pos (keywordEach kws X.env)).filterMap (·.1) = ks := by rfl)
    (hdb : (x == ("__debug__" : Str)) = false := by decide) (hpl : ((backTo pos (starEach [] X.env)).any (·.1) || (backToKw pos (keywordEach kws X.env)).any (·.1.isNone)) = false := by rfl) : DE X (.Call (.Name x pf) [] kws pos) (pFnK S ks.length ix tk) := by
  obtain ⟨f, fd, h1, h2, h3, h4, h5⟩ := Fn
  exact de_fnK h1 hgd hr hg h2 h3 (h5 _ hq) ha hall hks hdb hpl
/-- a call whose arguments may be containers of one's own, borrowed; what comes back holds no reference -/
def flatD : D → Bool
  | .non | .bl _ | .int _ | .str _ => true
  | _ => false
theorem flat_rep {c : Cfg} {F F' : Hp} {v : V} {d : D} (h : flatD d = true) (r : Rep c F v d) : Rep c F' v d := by
  cases r <;> first | (cases h; done) | constructor
def pFnB (S : Spec) (t : TPA) : TPE := fun ρ n R => t ρ n fun ds m => callZ S ds m (fun z k => flatD z = true ∧ R z k) (shut fun z k => flatD z = true ∧ R z k)
theorem borrow {g : G} {n : Nat} {F H : Hp} {σ : L2.St} {ρ : PEnv} (ok : Ok g n F H σ ρ) : ∀ {vs : List V} {ds : List D}, RRs g F σ ρ vs ds → ∃ F', Same F F' ∧ Same F' H ∧ (∀ b, g.c.fp b → F' b = none) ∧ (∀ b, F' b ≠ none → H b ≠ none) ∧ Reps g.c F' vs ds
  | _, _, .nil => ⟨F, Same.refl F, ok.sub, ok.ffp, fun b h z => h (ok.freeF z), .nil⟩
  | _, _, .cons r rs => by
    obtain ⟨F1, s1, h1, f1, n1, r1⟩ := borrow ok rs
    rcases r with r | ⟨i, hi, hs⟩
    · exact ⟨F1, s1, h1, f1, n1, .cons (r.mono s1) r1⟩
    · obtain ⟨a, x, e, q1, q2, q3, q4, q5⟩ := ok.cells i _ hi
      rw [hs] at e
      cases e
      cases z : F1 a with
      | some y =>
        have e1 := h1 _ _ z
        rw [q1] at e1
        cases e1
        exact ⟨F1, s1, h1, f1, n1, .cons ((q5.mono s1).rep z) r1⟩
      | none =>
        refine ⟨upd F1 a x, s1.trans (same_upd z), fun b y hb => ?_, fun b hb => ?_, fun b hb => ?_, .cons ((q5.mono (s1.trans (same_upd z))).rep upd_same) (r1.mono (same_upd z))⟩
        · by_cases e : b = a
          · subst e; rw [upd_same] at hb; cases hb; exact q1
          · rw [upd_ne e] at hb; exact h1 b y hb
        · have ne : b ≠ a := fun z => by subst z; exact q4.1 hb
          rw [upd_ne ne]; exact f1 b hb
        · by_cases e : b = a
          · subst e; rw [q1]; exact fun z => nomatch z
          · rw [upd_ne e] at hb; exact n1 b hb
theorem de_fnB (Fn : FnC X.prog X.w X.K X.mg X.base k x ps nbs S) (hgd : X.A.guards = some []) (hr : Room k X.A) (ha : SA X (e :: es) t) (hg : Gl X x := by rfl) (hdb : (x == ("__debug__" : Str)) = false := by decide)
    (he : starEach (e :: es) X.env = (false, eval e X.env) :: starEach es X.env := by rfl) (hpl : (backTo pos (starEach es X.env)).any (·.1) = false := by rfl) : DE X (.Call (.Name x pf) (e :: es) [] pos) (pFnB S t) := by
  obtain ⟨f, fd, h1, h2, h3, h4, h5⟩ := Fn
  refine fun g hK => (pe_callG (E := fun _ _ _ => False) h1 hgd hr hg h2 h3 h4 (ha g hK) hdb he hpl).imp fun σ H Q ⟨n, F, ρ, R, ok, hq, k⟩ => ?_
  refine ⟨n, F, ρ, _, ok, hq, fun n1 F1 H1 vs ds s1 ok1 r1 q1 => ?_⟩
  obtain ⟨F2, s2, sb, f2, _, r2⟩ := borrow ok1 r1
  rw [← hK]
  refine ⟨g.c, n1, F2, ds, _, rfl, sb, f2, ok1.dk, r2, q1, fun n' F' H' v d a1 a2 a3 a4 a5 a6 rv hR => ?_⟩
  have ok' : Ok g n' F1 H' σ ρ := ok1.after (Same.refl _) a2 ((s2.trans a1).trans a3) ok1.ffp (fun b _ z => z) a6
  exact k n' F1 H' v d s1 ok' (flat_rep hR.1 rv) hR.2
end
/-- the built-ins' names stand for the built-ins -/
structure BI (mg : Str → Option Value) : Prop where
  len : mg "len" = none
  range : mg "range" = none
  enumerate : mg "enumerate" = none
  zip : mg "zip" = none
  repr : mg "repr" = none
  int : mg "int" = none
  list : mg "list" = none
  tuple : mg "tuple" = none
  isinstance : mg "isinstance" = none
  bool : mg "bool" = none
  str : mg "str" = none
  dict : mg "dict" = none
  abs : mg "abs" = none
  max : mg "max" = none
  min : mg "min" = none
  all : mg "all" = none
  any : mg "any" = none
  sum : mg "sum" = none
  set : mg "set" = none
  sorted : mg "sorted" = none
end PL

/-! PL: lemmas about the pure readings. -/
namespace PL
open PySem PySem.Spec L2
theorem intsD_zero (lo : Int) : intsD lo 0 = [] := rfl
theorem intsD_succ (lo : Int) (n : Nat) : intsD lo (n + 1) = .int lo :: intsD (lo + 1) n := by
  unfold intsD
  rw [List.range_succ_eq_map, List.map_cons, List.map_map]
  congr 1
  · simp
  · apply List.map_congr_left
    intro i _
    show D.int (lo + ((i + 1 : Nat) : Int)) = D.int (lo + 1 + (i : Int))
    congr 1
    omega
theorem intsD_len (lo : Int) (n : Nat) : (intsD lo n).length = n := by unfold intsD; rw [List.length_map, List.length_range]
theorem forW_nil (t : TPG) (b : TPS) (P : Post) (ρ : PEnv) (n : Nat) : forW t b [] P ρ n = P.nx ρ n := rfl
theorem forW_cons (t : TPG) (b : TPS) (d : D) (ds : List D) (P : Post) (ρ : PEnv) (n : Nat) : forW t b (d :: ds) P ρ n = t d ρ n fun ρ1 n1 => b { nx := forW t b ds P, ct := forW t b ds P, bk := P.nx, rt := P.rt } ρ1 n1 := rfl
theorem lcW_nil (t : TPG) (tt : TPT) (te : TPE) (acc : List D) (ρ : PEnv) (n : Nat) (R : List D → Nat → Prop) : lcW t tt te [] acc ρ n R = R acc n := rfl
theorem lcW_cons (t : TPG) (tt : TPT) (te : TPE) (d : D) (ds acc : List D) (ρ : PEnv) (n : Nat) (R : List D → Nat → Prop) : lcW t tt te (d :: ds) acc ρ n R = t d ρ n fun ρ1 n1 => tt ρ1 n1 fun b n2 => if b = true then te ρ1 n2 fun y n3 => lcW t tt te ds (acc ++ [y]) ρ n3 R else lcW t tt te ds acc ρ n2 R := rfl
/-- a comprehension whose element is a function of the item -/
theorem lcW_map {t : TPG} {te : TPE} {f : D → D} {ρ : PEnv} (ds : List D) (h : ∀ d ∈ ds, ∀ n R, R (f d) n → t d ρ n fun ρ1 n1 => te ρ1 n1 R) (acc : List D) (n : Nat) (R : List D → Nat → Prop) (hR : R (acc ++ ds.map f) n) (mt : ∀ d n S S', (∀ ρ n, S ρ n → S' ρ n) → t d ρ n S → t d ρ n S') : lcW t pYes te ds acc ρ n R := by
  induction ds generalizing acc with
  | nil => simpa [lcW] using hR
  | cons d ds ih =>
    rw [lcW_cons]
    refine mt d n _ _ (fun ρ1 n1 q => ?_) (h d List.mem_cons_self n (fun y n3 => lcW t pYes te ds (acc ++ [y]) ρ n3 R) (ih (fun d hd => h d (List.mem_cons_of_mem _ hd)) (acc ++ [f d]) (by simpa using hR)))
    simp only [pYes, if_true]
    exact q
theorem gSet_mono {i : Nat} {d : D} {ρ : PEnv} {n : Nat} {S S' : PEnv → Nat → Prop} (h : ∀ ρ n, S ρ n → S' ρ n) (q : gSet i d ρ n S) : gSet i d ρ n S' := h _ _ q
theorem getElem?_last {α : Type} (l : List α) (x : α) : (l ++ [x])[l.length]? = some x := by simp
theorem atI_lastD (l : List D) (x : D) : atI (l ++ [x]) (-1) = some x := atI_last l x
theorem sizeLine_val : sizeLine = 16777216 := sizeLine_eq
theorem fmod_pos {a b : Int} (h : 0 < b) : a.fmod b = a % b := Int.fmod_eq_emod_of_nonneg a (by omega)
theorem fdiv_pos {a b : Int} (h : 0 < b) : a.fdiv b = a / b := Int.fdiv_eq_ediv_of_nonneg a (by omega)
theorem MulOk.left {i j : Int} (h1 : -(2 ^ 64) < i) (h2 : i < 2 ^ 64) : MulOk i j := .small (.inl ⟨h1, h2⟩)
theorem MulOk.right {i j : Int} (h1 : -(2 ^ 64) < j) (h2 : j < 2 ^ 64) : MulOk i j := .small (.inr ⟨h1, h2⟩)
end PL

/-! PL: the law's own def, and its deck. -/
namespace PL
open PySem PySem.Spec L2
open PyProof.Rows (envOfC)
/-- what the law promises -/
def spL (K : PySem.W.Frag) : Sp := fun vs H Q _ => ∃ (a : Addr) (ns : List Int), vs = [.ref a] ∧ Only H ∧ SqL K H a (ns.map V.int) ∧ ns.length ≤ 63 ∧ ∀ H', Q (.bl true) H'
abbrev cfg0 (K : PySem.W.Frag) (dd de : Addr) : Cfg := ⟨K, fun _ => none, dd, de⟩
/-- what the making of a deck promises -/
def spDeck (K : PySem.W.Frag) : Sp := fun vs H Q _ => ∃ (a : Addr) (ns : List Int), vs = [.ref a] ∧ SqL K H a (ns.map V.int) ∧ ns.length ≤ 63 ∧ ∀ H' dd de, DeckAt (cfg0 K dd de) 0 H' → Q (.ref dd) H'
def tDeck (K : PySem.W.Frag) : TS := fun D σ H => ∃ (a : Addr) (ns : List Int), σ[0]? = some (some (.ref a)) ∧ SqL K H a (ns.map V.int) ∧ ns.length ≤ 63 ∧ ∀ H' dd de, DeckAt (cfg0 K dd de) 0 H' → D.nx (σ.set 1 (some (.ref dd))) H'
section
variable {P : Program} {w : World} {K : PySem.W.Frag} {mg : Str → Option Value} {base : Heap}
theorem ps_deck {X : Cx} {k : Nat} {f : Addr} {fd : FuncData} {x0 x y z : Str} {pf p1 p2 pos cpos : Pos} (Fn : FnG X.prog X.w X.K X.mg X.base k f fd [z] (spDeck X.K)) (hgd : X.A.guards = some []) (hr : Room k X.A) (hN : X.N.Nodup) (hm : X.mg x = some (.ref f)) (hk : PySem.W.keepIn X.K (.ref f) = true) (hb : Binds X.K fd [z] [])
    (h0 : PE X (.Name x0 p1) (tVar 0)) (hx : Loc X.env.scope y) (hg : Gl X x := by rfl) (hi : X.N[1]? = some y := by rfl) (hs : swapsWith (.Call (.Name x pf) [.Name x0 p1] [] cpos) (some (.Name y p2)) pos.line X.env = pure false := by rfl) (hf : X.fn y = true ∨ X.env.scope.names.lookup y = some .local := by first | exact .inl rfl | exact .inr rfl)
    (hdb : (x == ("__debug__" : Str)) = false := by decide) (he : starEach [.Name x0 p1] X.env = (false, eval (.Name x0 p1) X.env) :: starEach [] X.env := by rfl) :
    PS X (.Assign [.Name y p2] (.Call (.Name x pf) [.Name x0 p1] [] cpos) pos) (tDeck X.K) :=
  (ps_set (i := 1) hN hi hx (pe_callG (E := fun _ _ _ => False) Fn hgd hr hg hm hk hb (pa_cons h0 pa_nil he) hdb he rfl) hs hf).imp fun D σ H ⟨a, ns, h1, h2, h3, h4⟩ => ⟨.ref a, h1, a, ns, rfl, h2, h3, fun H' dd de q => h4 H' dd de q⟩
theorem law_of {st : Stmt} {f : Addr} {fd : FuncData} {N : List Str} {z : Str} {k : Nat} {s1 : Stmt} {rest : List Stmt} (Fu : Fun K "law" "law" st f fd) (sc : FnScope N [z] (defScope st)) (hs : defBody st = s1 :: rest)
    (hbody : ∀ (cdv : Value) (A : Around) (outer : List Env) (s : Shared) (H : Hp) (E : XK), A.guards = some [] → Room k (A.deeper (envOfC "law" (defScope st) s.heap.objs.size f cdv)) →
      PS (cxOf CX0 P w K mg base N "law" (defScope st) f cdv A outer s H E).nox s1 (tDeck K) ∧ ∃ q, DSs (cxOf CX0 P w K mg base N "law" (defScope st) f cdv A outer s H E).nox rest q ∧ q { nx := fun _ _ => False, rt := fun d _ => d = .bl true } ((List.replicate N.length Cell.any).set 1 (.sh .res)) 0) : FnG P w K mg base (k + 1) f fd [z] (spL K) := by
  have hpl : 1 ≤ N.length := by have := congrArg List.length sc.pre; rw [List.length_take] at this; simp at this; omega
  refine Fu.okG sc (fun vs H Q E h => ?_) (fun cdv A outer s H vs Q E hgd hr h => ?_)
  · obtain ⟨a, ns, rfl, _⟩ := h
    rfl
  · obtain ⟨a, ns, rfl, hO, hS, hl, hq⟩ := h
    obtain ⟨h1, q, h2, h3⟩ := hbody cdv A outer s H E hgd hr
    refine ⟨tSeq (tDeck K) (fun D σ H => ∃ g : G, g.c.K = K ∧ LS g q D σ H), ?_, a, ns, ?_, hS, hl, fun H' dd de hd => ?_⟩
    · rw [hs]
      exact pss_cons h1 ⟨fun pins s σ H D I ⟨g, hK, hh⟩ => (h2 g hK).run pins s σ H D I hh⟩
    · unfold L2.start; rfl
    · refine ⟨⟨cfg0 K dd de, fun _ => none, fun _ => none, fun _ => none⟩, rfl, 0, fun _ => none, _, _, ?_, h3, ?_⟩
      · have hlen : (L2.start N [V.ref a]).length = N.length := by unfold L2.start; simp; omega
        refine ⟨fun b x e _ => (by cases e), fun b x e => (by cases e), fun _ _ => rfl, fun _ _ _ => rfl, hd, fun b x e => (by cases e), by rw [List.length_set, List.length_set, List.length_replicate, hlen], fun i c e => ?_, fun i j d e o h1 _ _ _ => ?_⟩
        · rcases getD_set e with ⟨rfl, rfl⟩ | ⟨ne, e⟩
          · exact ⟨_, set_same (by rw [hlen]; have := lt_of_set e; rwa [List.length_replicate] at this), .res⟩
          · rw [List.getElem?_replicate] at e
            split at e
            · cases e; trivial
            · cases e
        · exfalso
          rcases getD_set h1 with ⟨_, z⟩ | ⟨_, h1⟩
          · cases z
          · rw [List.getElem?_replicate] at h1
            split at h1 <;> cases h1
      · refine ⟨fun _ _ _ _ _ _ _ h => h.elim, fun n' F' H' σ' ρ' v d s ok r h => ?_, fun _ _ _ _ _ _ _ h => h.elim, fun _ _ _ _ _ _ _ h => h.elim⟩
        have h : d = .bl true := h
        subst h
        cases r
        exact hq H'
end
end PL

/-! PL: equations for == and repr. -/
namespace PL
open PySem PySem.Spec L2
mutual
def niceD : D → Bool
  | .non | .bl _ => true
  | .int i => decide (i.natAbs < 2 ^ 1900)
  | .str s => s.cps.toList.all (· < 1114112) && PyData.strOk s
  | .lst ds => niceL ds
  | .tup ds => niceL ds
  | _ => false
def niceL : List D → Bool
  | [] => true
  | d :: ds => niceD d && niceL ds
end
mutual
def bulkD : D → Nat
  | .str s => s.cps.size
  | .lst ds => bulkL ds
  | .tup ds => bulkL ds
  | _ => 0
def bulkL : List D → Nat
  | [] => 0
  | d :: ds => bulkD d + 1 + bulkL ds
end
mutual
def depD : D → Nat
  | .lst ds => depL ds + 1
  | .tup ds => depL ds + 1
  | _ => 1
def depL : List D → Nat
  | [] => 0
  | d :: ds => max (depD d) (depL ds)
end
mutual
def pyD : D → PyData
  | .non => .none
  | .bl b => .bool b
  | .int i => .int i
  | .str s => .str s
  | .lst ds => .list (pyDs ds)
  | .tup ds => .tuple (pyDs ds)
  | _ => .none
def pyDs : List D → List PyData
  | [] => []
  | d :: ds => pyD d :: pyDs ds
end
theorem log2_of_lt {i : Int} (h : i.natAbs < 2 ^ 1900) : i.natAbs.log2 < 1920 := by
  have := PySem.Flt.log2_lt_of (n := i.natAbs) (k := 1900) (by decide) h
  omega
mutual
theorem nice_all : ∀ d : D, niceD d = true → d.py = some (pyD d) ∧ (pyD d).showable = true ∧ (pyD d).canLay0 = true ∧ (pyD d).depth ≤ depD d ∧ (pyD d).bulk = bulkD d ∧ (pyD d).leavesShort 2000 = true
  | .non, _ => by simp [D.py, pyD, PyData.showable, PyData.canLay0, PyData.depth, depD, PyData.bulk, bulkD, PyData.leavesShort]
  | .bl _, _ => by simp [D.py, pyD, PyData.showable, PyData.canLay0, PyData.depth, depD, PyData.bulk, bulkD, PyData.leavesShort]
  | .int i, h => by
    have h : i.natAbs < 2 ^ 1900 := by simpa [niceD] using h
    have h2 := log2_of_lt h
    have h3 : (PyData.shown (.int i)).length ≤ 2000 := by
      have := int_text_length_le (a := i) (k := 1920) (by decide) h2
      show (Str.ofString (toString i)).length ≤ 2000
      rw [ofString_length]; omega
    exact ⟨by simp [D.py, pyD], by simp only [pyD, PyData.showable]; exact decide_eq_true h2, by simp [pyD, PyData.canLay0], by simp [pyD, PyData.depth, depD], by simp [pyD, PyData.bulk, bulkD], by simp only [pyD, PyData.leavesShort]; exact decide_eq_true h3⟩
  | .str s, h => by
    have h : s.cps.toList.all (· < 1114112) = true ∧ PyData.strOk s = true := by rw [niceD, Bool.and_eq_true] at h; exact h
    obtain ⟨h, hs⟩ := h
    refine ⟨by simp [D.py, pyD], by simp [pyD, PyData.showable], by rw [pyD, PyData.canLay0]; exact hs, by simp [pyD, PyData.depth, depD], by simp [pyD, PyData.bulk, bulkD], ?_⟩
    simp only [pyD, PyData.leavesShort]
    rw [List.all_eq_true] at h ⊢
    intro c hc
    have := of_decide_eq_true (h c hc)
    exact decide_eq_true (by omega)
  | .lst ds, h => by
    have h : niceL ds = true := by simpa only [niceD] using h
    obtain ⟨h1, h2, h3, h4, h5, h6⟩ := nice_allL ds h
    exact ⟨by rw [D.py, h1, pyD], by rw [pyD, PyData.showable]; exact h2, by rw [pyD, PyData.canLay0]; exact h3, by rw [pyD, PyData.depth, depD]; omega, by rw [pyD, PyData.bulk, bulkD]; exact h5, by rw [pyD, PyData.leavesShort]; exact h6⟩
  | .tup ds, h => by
    have h : niceL ds = true := by simpa only [niceD] using h
    obtain ⟨h1, h2, h3, h4, h5, h6⟩ := nice_allL ds h
    exact ⟨by rw [D.py, h1, pyD], by rw [pyD, PyData.showable]; exact h2, by rw [pyD, PyData.canLay0]; exact h3, by rw [pyD, PyData.depth, depD]; omega, by rw [pyD, PyData.bulk, bulkD]; exact h5, by rw [pyD, PyData.leavesShort]; exact h6⟩
  | .dic _ _, h => by simp [niceD] at h
  | .dit _ _, h => by simp [niceD] at h
  | .obj _ _, h => by simp [niceD] at h
  | .res, h => by simp [niceD] at h
theorem nice_allL : ∀ ds : List D, niceL ds = true → D.pyL ds = some (pyDs ds) ∧ PyData.showableAll (pyDs ds) = true ∧ PyData.canLayAll0 (pyDs ds) = true ∧ PyData.depthAll (pyDs ds) ≤ depL ds ∧ PyData.bulkAll (pyDs ds) = bulkL ds ∧ PyData.leavesShortAll 2000 (pyDs ds) = true
  | [], _ => by simp [D.pyL, pyDs, PyData.showableAll, PyData.canLayAll0, PyData.depthAll, depL, PyData.bulkAll, bulkL, PyData.leavesShortAll]
  | d :: ds, h => by
    have h : niceD d = true ∧ niceL ds = true := by simpa [niceL] using h
    obtain ⟨a1, a2, a3, a4, a5, a6⟩ := nice_all d h.1
    obtain ⟨b1, b2, b3, b4, b5, b6⟩ := nice_allL ds h.2
    exact ⟨by rw [D.pyL, a1, b1, pyDs], by rw [pyDs, PyData.showableAll, a2, b2]; rfl, by rw [pyDs, PyData.canLayAll0, a3, b3]; rfl, by rw [pyDs, PyData.depthAll, depL]; omega, by rw [pyDs, PyData.bulkAll, bulkL, a5, b5], by rw [pyDs, PyData.leavesShortAll, a6, b6]; rfl⟩
end
/-- a value that may be shown and compared -/
def okD (d : D) : Prop := niceD d = true ∧ depD d ≤ 60 ∧ bulkD d ≤ 8000
theorem okD.py {d : D} (h : okD d) : d.py = some (pyD d) := (nice_all d h.1).1
theorem okD.show {d : D} (h : okD d) : showOk (pyD d) := by
  obtain ⟨h1, h2, h3, h4, h5, h6⟩ := nice_all d h.1
  refine ⟨h2, by have := h.2.1; omega, ?_, .inl h3⟩
  have := PyData.shown_le_bulk 2000 (by decide) (pyD d) h6
  rw [h5] at this
  have := h.2.2
  rw [sizeLine_val]
  omega
theorem okD.shaped {d : D} (h : okD d) : SeqAt.shaped (pyD d) = true := by
  obtain ⟨h1, h2, h3, h4, h5, h6⟩ := nice_all d h.1
  have := h.2.1
  unfold SeqAt.shaped
  rw [h3, decide_eq_true (show (pyD d).depth ≤ 64 by omega)]
  rfl
theorem okD.refl {d : D} (h : okD d) : PyData.eqv (pyD d) (pyD d) = true := SeqAt.eqv_refl _ (nice_all d h.1).2.2.1
/-- repr of a value that may be shown -/
theorem oRepr_ok {d : D} (h : okD d) {R : D → Prop} (q : R (.str (pyD d).shown)) : oRepr [d] R := by
  simp only [oRepr, h.py]
  exact ⟨h.show, q⟩
theorem oEq_int (i j : Int) (R : D → Prop) : oEq (.int i) (.int j) R = R (.bl (decide (i = j))) := rfl
theorem oNe_int (i j : Int) (R : D → Prop) : oNe (.int i) (.int j) R = R (.bl (!decide (i = j))) := rfl
theorem oEq_str (i j : Str) (R : D → Prop) : oEq (.str i) (.str j) R = R (.bl (decide (i = j))) := rfl
theorem oNe_str (i j : Str) (R : D → Prop) : oNe (.str i) (.str j) R = R (.bl (!decide (i = j))) := rfl
theorem eqv_int (i j : Int) : PyData.eqv (.int i) (.int j) = decide (i = j) := by
  by_cases h : i = j
  · subst h; simp [PyData.eqv]
  · simp [PyData.eqv, h]
theorem eqv_str (i j : Str) : PyData.eqv (.str i) (.str j) = decide (i = j) := by
  by_cases h : i = j
  · subst h; simp [PyData.eqv]
  · simp [PyData.eqv, h]
theorem oEq_ok {d e : D} (h : okD d) (h' : okD e) {R : D → Prop} (q : R (.bl (PyData.eqv (pyD d) (pyD e)))) : oEq d e R := by
  unfold oEq
  split
  · simpa only [pyD, eqv_str] using q
  · simpa only [pyD, eqv_int] using q
  · rw [h.py, h'.py]
    exact ⟨h.shaped, h'.shaped, q⟩
theorem oNe_ok {d e : D} (h : okD d) (h' : okD e) {R : D → Prop} (q : R (.bl (!PyData.eqv (pyD d) (pyD e)))) : oNe d e R := by
  unfold oNe
  split
  · simpa only [pyD, eqv_str] using q
  · simpa only [pyD, eqv_int] using q
  · rw [h.py, h'.py]
    exact ⟨h.shaped, h'.shaped, q⟩
theorem str_self (s : Str) : (s == s) = true := by simp
end PL

/-! PL: the readings' equations, at whole arguments. -/
namespace PL
open PySem PySem.Spec L2
section
variable (ρ : PEnv) (n : Nat) (R : D → Nat → Prop) (Q : D → Prop) (W : Bool → Nat → Prop) (Z : List D → Nat → Prop) (P : Post) (p q r : TPE) (a b : TPT) (t u : TPA) (s s' : TPS)
theorem q_seq : pSeq s s' P ρ n = s { P with nx := s' P } ρ n := rfl
theorem q_next : pNext P ρ n = P.nx ρ n := rfl
theorem q_brk : pBrk P ρ n = P.bk ρ n := rfl
theorem q_cnt : pCnt P ρ n = P.ct ρ n := rfl
theorem q_ret : pRet p P ρ n = p ρ n P.rt := rfl
theorem q_ifs : pIfS a s s' P ρ n = a ρ n fun c m => if c = true then s P ρ m else s' P ρ m := rfl
theorem q_drop : pDrop p P ρ n = p ρ n fun _ m => P.nx ρ m := rfl
theorem q_asg (g : TPG) : pAsg p g P ρ n = p ρ n fun d m => g d ρ m P.nx := rfl
theorem q_own (i : Nat) : pOwnS i p P ρ n = p ρ n fun d m => P.nx (ρ.set i (.own d)) m := rfl
theorem q_par (i j : Nat) : pPar i j t P ρ n = t ρ n fun ds m => match ds with | [d, e] => P.nx ((ρ.set i (.sh d)).set j (.sh e)) m | _ => False := rfl
theorem q_par3 (i j l : Nat) : pPar3 i j l t P ρ n = t ρ n fun ds m => match ds with | [d, e, f] => P.nx (((ρ.set i (.sh d)).set j (.sh e)).set l (.sh f)) m | _ => False := rfl
theorem q_append (i : Nat) : pAppend i p P ρ n = match ρ[i]? with | some (.own (.lst ds)) => p ρ n fun d m => ds.length < sizeLine ∧ P.nx (ρ.set i (.own (.lst (ds ++ [d])))) m | _ => False := rfl
theorem q_for (g : TPG) : pFor t g s P ρ n = t ρ n fun ds m => forW g s ds P ρ m := rfl
theorem q_gset (i : Nat) (d : D) (S : PEnv → Nat → Prop) : gSet i d ρ n S = S (ρ.set i (.sh d)) n := rfl
theorem q_gtup (k : Nat) (g : TPGs) (ds : List D) (S : PEnv → Nat → Prop) : gTup' k g (.tup ds) ρ n S = (ds.length = k ∧ g ds ρ n S) := rfl
theorem q_gcons (g : TPG) (gs : TPGs) (d : D) (ds : List D) (S : PEnv → Nat → Prop) : gCons' g gs (d :: ds) ρ n S = g d ρ n fun ρ1 m => gs ds ρ1 m S := rfl
theorem q_gnil (S : PEnv → Nat → Prop) : gNil' [] ρ n S = S ρ n := by simp [gNil']
theorem q_aug (i : Nat) (o : O2) : pAug i o p P ρ n = match ρ[i]? with | some (.sh d) => p ρ n fun e m => o d e fun z => P.nx (ρ.set i (.sh z)) m | _ => False := rfl
theorem q_var (i : Nat) : pVar i ρ n R = match ρ[i]? with | some (.sh d) => R d n | _ => False := rfl
theorem q_rd (i : Nat) : pRd i ρ n R = match ρ[i]? with | some (.sh d) => R d n | some (.own d) => R d n | _ => False := rfl
theorem q_c (d : D) : pC d ρ n R = R d n := rfl
theorem q_bin (o : O2) : pBin o p q ρ n R = p ρ n fun d n1 => q ρ n1 fun e n2 => o d e fun z => R z n2 := rfl
theorem q_un (f : Int → D) : pUn f p ρ n R = p ρ n fun d n1 => match d with | .int i => R (f i) n1 | _ => False := rfl
theorem q_b : pB p ρ n W = p ρ n fun d m => match d with | .bl c => W c m | _ => False := rfl
theorem q_not : pNot a ρ n W = a ρ n fun c m => W (!c) m := rfl
theorem q_and : pAnd a b ρ n W = a ρ n fun c m => if c = true then b ρ m W else W false m := rfl
theorem q_or : pOr a b ρ n W = a ρ n fun c m => if c = true then W true m else b ρ m W := rfl
theorem q_andv : pAndV p q ρ n R = p ρ n fun d m => match d with | .bl c => if c = true then q ρ m R else R (.bl false) m | _ => False := rfl
theorem q_orv : pOrV p q ρ n R = p ρ n fun d m => match d with | .bl c => if c = true then R (.bl true) m else q ρ m R | _ => False := rfl
theorem q_notv : pNotV p ρ n R = p ρ n fun d m => match d with | .bl c => R (.bl (!c)) m | _ => False := rfl
theorem q_if : pIf a p q ρ n R = a ρ n fun c m => if c = true then p ρ m R else q ρ m R := rfl
theorem q_nil : pNil ρ n Z = Z [] n := rfl
theorem q_cons : pCons p t ρ n Z = p ρ n fun d m => t ρ m fun ds k => Z (d :: ds) k := rfl
theorem q_consts (ds : List D) : pConsts ds ρ n Z = Z ds n := rfl
theorem q_tup : pTup t ρ n R = t ρ n fun ds m => ds.length ≤ sizeLine ∧ R (.tup ds) m := rfl
theorem q_lst : pLst t ρ n R = t ρ n fun ds m => ds.length ≤ sizeLine ∧ R (.lst ds) m := rfl
theorem q_sl (l h : TPO) : pSl p l h ρ n R = p ρ n fun d n1 => l ρ n1 fun lo n2 => h ρ n2 fun hi n3 => oSl d lo hi fun z => R z n3 := rfl
theorem q_no (S : Option Int → Nat → Prop) : pNo ρ n S = S none n := rfl
theorem q_part (S : Option Int → Nat → Prop) : pPart p ρ n S = p ρ n fun d m => match d with | .int i => S (some i) m | _ => False := rfl
theorem q_rev : pRev p ρ n R = p ρ n fun d m => match d with | .lst ds => R (.lst ds.reverse) m | _ => False := rfl
theorem q_call (o : OL) : pCall o t ρ n R = t ρ n fun ds m => o ds fun z => R z m := rfl
theorem q_fn (S : Spec) : pFn S t ρ n R = t ρ n fun ds m => callZ S ds m R (shut R) := rfl
theorem q_fnb (S : Spec) : pFnB S t ρ n R = t ρ n fun ds m => callZ S ds m (fun z k => flatD z = true ∧ R z k) (shut fun z k => flatD z = true ∧ R z k) := rfl
theorem q_fnk (S : Spec) (k : Nat) (ix : List Nat) : pFnK S k ix t ρ n R = t ρ n fun ds n1 => ds.length = k ∧ callZ S (picks ix ds) n1 R (shut R) := rfl
theorem q_isi (T : String) : pIsi T p ρ n R = p ρ n fun d m => match tyName d with | some t => (match kitB t T with | some c => R (.bl c) m | none => False) | none => False := rfl
theorem q_join : pJoin p q ρ n R = p ρ n fun d m => match d with
  | .str s => q ρ m fun e k => match e with
    | .lst xs => (match asStrs xs with | some ys => (ys.map (·.length)).sum + ys.length * s.length ≤ 16777216 ∧ R (.str (Txt.join s ys)) k | none => False)
    | .tup xs => (match asStrs xs with | some ys => (ys.map (·.length)).sum + ys.length * s.length ≤ 16777216 ∧ R (.str (Txt.join s ys)) k | none => False)
    | _ => False
  | _ => False := rfl
theorem q_lc (g : TPG) (vs : List Nat) : pLc t g a p vs ρ n R = t ρ n fun ds m => ds.length ≤ sizeLine ∧ noOwn ρ vs = true ∧ lcW g a p ds [] (wipeC ρ vs) m fun acc k => R (.lst acc) k := rfl
theorem q_yes : pYes ρ n W = W true n := rfl
theorem q_r1 : pRange1 t ρ n Z = t ρ n fun ds m => match ds with | [.int j] => -(2 ^ 62) ≤ j ∧ j < 2 ^ 62 ∧ Z (intsD 0 j.toNat) m | _ => False := rfl
theorem q_r2 : pRange2 t ρ n Z = t ρ n fun ds m => match ds with | [.int i, .int j] => (-(2 ^ 62) ≤ i ∧ i < 2 ^ 62 ∧ -(2 ^ 62) ≤ j ∧ j < 2 ^ 62) ∧ Z (intsD i (j - i).toNat) m | _ => False := rfl
theorem q_iter : pIter p ρ n Z = p ρ n fun d m => match itemsOf d with | some ds => Z ds m | none => False := by
  unfold pIter
  congr 1
  funext d m
  cases d <;> rfl
theorem q_enum : pEnum t ρ n Z = t ρ n fun ds m => match ds with | [d] => (match itemsOf d with | some xs => Z (nums 0 xs) m | none => False) | _ => False := rfl
theorem q_enumk : pEnumK t u ρ n Z = t ρ n fun ds m => u ρ m fun ks m2 => match ds, ks with | [d], [.int k0] => -(2 ^ 63) ≤ k0 ∧ k0 < 2 ^ 63 ∧ (match itemsOf d with | some xs => Z (nums k0 xs) m2 | none => False) | _, _ => False := rfl
theorem q_zip : pZip t ρ n Z = t ρ n fun ds m => match ds with | [.lst xs, .lst ys] => Z (pairs xs ys) m | [.tup xs, .tup ys] => Z (pairs xs ys) m | _ => False := rfl
-- operators on what is known
variable (i j : Int) (x y : Str) (ds es : List D)
theorem o_add_int : oAdd (.int i) (.int j) Q = Q (.int (i + j)) := rfl
theorem o_add_str : oAdd (.str x) (.str y) Q = (x.length + y.length ≤ sizeLine ∧ Q (.str (x ++ y))) := rfl
theorem o_add_lst : oAdd (.lst ds) (.lst es) Q = (ds.length + es.length ≤ sizeLine ∧ Q (.lst (ds ++ es))) := rfl
theorem o_add_tup : oAdd (.tup ds) (.tup es) Q = (ds.length + es.length ≤ sizeLine ∧ Q (.tup (ds ++ es))) := rfl
theorem o_sub : oSub (.int i) (.int j) Q = Q (.int (i - j)) := rfl
theorem o_mul_int : oMul (.int i) (.int j) Q = (MulOk i j ∧ Q (.int (i * j))) := rfl
theorem o_mul_lst (k : Int) : oMul (.lst ds) (.int k) Q = (-(2 ^ 63) ≤ k ∧ k < 2 ^ 63 ∧ ds.length * k.toNat ≤ sizeLine ∧ Q (.lst (List.replicate k.toNat ds).flatten)) := rfl
theorem o_mod : oMod (.int i) (.int j) Q = (j ≠ 0 ∧ Q (.int (i.fmod j))) := rfl
theorem o_div : oDiv (.int i) (.int j) Q = (DivOk i j ∧ Q (.int (i.fdiv j))) := rfl
theorem o_pow : oPow (.int i) (.int j) Q = (CPow i j ∧ Q (.int (i ^ j.toNat))) := rfl
theorem o_lt_int : oLt (.int i) (.int j) Q = Q (.bl (decide (i < j))) := rfl
theorem o_lt_str : oLt (.str x) (.str y) Q = Q (.bl (decide (x.cps.toList < y.cps.toList))) := rfl
theorem o_le : oLe (.int i) (.int j) Q = Q (.bl (decide (i ≤ j))) := rfl
theorem o_gt : oGt (.int i) (.int j) Q = Q (.bl (decide (j < i))) := rfl
theorem o_ge : oGe (.int i) (.int j) Q = Q (.bl (decide (j ≤ i))) := rfl
theorem o_ix_lst : oIx (.lst ds) (.int i) Q = match atI ds i with | some z => Q z | none => False := rfl
theorem o_ix_tup : oIx (.tup ds) (.int i) Q = match atI ds i with | some z => Q z | none => False := rfl
theorem o_ix_str : oIx (.str x) (.int i) Q = (x.length ≤ sizeLine ∧ match atI x.cps.toList i with | some c => Q (.str ⟨#[c]⟩) | none => False) := rfl
theorem o_sl_lst (lo hi : Option Int) : oSl (.lst ds) lo hi Q = Q (.lst (cutL ds lo hi)) := rfl
theorem o_sl_tup (lo hi : Option Int) : oSl (.tup ds) lo hi Q = Q (.tup (cutL ds lo hi)) := rfl
theorem o_sl_str (lo hi : Option Int) : oSl (.str x) lo hi Q = (x.length ≤ sizeLine ∧ Q (.str (cutS x lo hi))) := rfl
theorem o_len_lst : oLen [.lst ds] Q = Q (.int ds.length) := rfl
theorem o_len_tup : oLen [.tup ds] Q = Q (.int ds.length) := rfl
theorem o_len_str : oLen [.str x] Q = (x.length ≤ sizeLine ∧ Q (.int x.length)) := rfl
theorem o_int_int : oIntA [.int i] Q = Q (.int i) := rfl
theorem o_int_bl (c : Bool) : oIntA [.bl c] Q = Q (.int (if c then 1 else 0)) := rfl
theorem o_int_str : oIntA [.str x] Q = (x.length ≤ 640 ∧ match PySem.intText? x with | some n => Q (.int n) | none => False) := rfl
theorem o_list_lst : oList [.lst ds] Q = Q (.lst ds) := rfl
theorem o_list_tup : oList [.tup ds] Q = Q (.lst ds) := rfl
theorem o_tuple_lst : oTuple [.lst ds] Q = Q (.tup ds) := rfl
theorem o_tuple_tup : oTuple [.tup ds] Q = Q (.tup ds) := rfl
theorem o_abs : oAbs [.int i] Q = Q (.int (if i < 0 then -i else i)) := rfl
theorem o_max : oMax2 [.int i, .int j] Q = Q (.int (if j > i then j else i)) := rfl
theorem o_min : oMin2 [.int i, .int j] Q = Q (.int (if j < i then j else i)) := rfl
theorem o_str : oStr [.int i] Q = (i.natAbs.log2 < 1920 ∧ Q (.str (toString i))) := rfl
theorem o_all : oAll [.lst ds] Q = match asBls ds with | some bs => Q (.bl (bs.all id)) | none => False := rfl
theorem o_any : oAny [.lst ds] Q = match asBls ds with | some bs => Q (.bl (bs.any id)) | none => False := rfl
theorem o_sum : oSum [.lst ds] Q = match asInts ds with | some bs => Q (.int bs.sum) | none => False := rfl
theorem o_aug_int : oI (fun i j R => R (.int (i + j))) (.int i) (.int j) Q = Q (.int (i + j)) := rfl
theorem i_lst : itemsOf (.lst ds) = some ds := rfl
theorem i_tup : itemsOf (.tup ds) = some ds := rfl
theorem i_str : itemsOf (.str x) = some (chars x) := rfl
theorem w_nil : wipeC ρ [] = ρ := rfl
theorem w_cons (v : Nat) (vs : List Nat) : wipeC ρ (v :: vs) = (wipeC ρ vs).set v .any := rfl
theorem pk_cons' {α : Type} (k : Nat) (ix : List Nat) (zs : List α) : picks (k :: ix) zs = match zs[k]? with | some z => z :: picks ix zs | none => picks ix zs := by
  unfold picks
  rw [List.filterMap_cons]
  cases zs[k]? <;> rfl
theorem pk_nil' {α : Type} (zs : List α) : picks [] zs = [] := rfl
theorem b_nd {a : Prop} [Decidable a] : ((!decide a) = true) = ¬ a := by simp
theorem callS_of {S : Spec} {ds : List D} (h : S ds n R) {u : Shut R} : callZ S ds n R u := h
end
end PL

/-! PL: freezing of one's own list, comprehensions that are kept, f-strings. -/
namespace PL
open PySem PySem.Spec L2
section
variable {X : Cx} {st : Stmt} {e : Expr} {es : List Expr} {p : TPE} {q : TPS} {pos : Pos}
/-- the list at i is one's own no more -/
def pFrz (i : Nat) (q : TPS) : TPS := fun P ρ n => match ρ[i]? with | some (.own d) => q P (ρ.set i (.sh d)) n | _ => q P ρ n
theorem ds_frz (i : Nat) (h : DS X st q) : DS X st (pFrz i q) := fun g hK => (h g hK).imp fun D σ H ⟨n, F, ρ, P, ok, h, k⟩ => by
  unfold pFrz at h
  split at h
  · next d e =>
    obtain ⟨F', s, ok'⟩ := ok.freeze e
    exact ⟨n, F', _, P, ok', h, k.mono s⟩
  · exact ⟨n, F, ρ, P, ok, h, k⟩
theorem q_frz (i : Nat) (q : TPS) (P : Post) (ρ : PEnv) (n : Nat) : pFrz i q P ρ n = match ρ[i]? with | some (.own d) => q P (ρ.set i (.sh d)) n | _ => q P ρ n := rfl
/-- a new list is put and frozen at once -/
theorem ds_setF {i : Nat} (h : DS X st (pOwnS i p)) : DS X st (pAsg p (gSet i)) := fun g hK => (h g hK).imp fun D σ H ⟨n, F, ρ, P, ok, h, k⟩ => by
  refine ⟨n, F, ρ, { P with nx := fun ρ' m => match ρ'[i]? with | some (.own d) => P.nx (ρ'.set i (.sh d)) m | _ => P.nx ρ' m }, ok, ?_, ⟨fun n1 F1 H1 σ1 ρ1 s1 ok1 h1 => ?_, k.rt, k.bk, k.ct⟩⟩
  · have h : p ρ n (fun d m => P.nx (ρ.set i (.sh d)) m) := h
    show p ρ n (fun d m => _)
    refine Eq.mp (congrArg (p ρ n) (funext fun d => funext fun m => ?_)) h
    by_cases hl : i < ρ.length
    · simp only [List.getElem?_set_self hl, List.set_set]
    · simp only [List.set_eq_of_length_le (Nat.le_of_not_lt hl), List.getElem?_eq_none (Nat.le_of_not_lt hl)]
  · revert h1
    dsimp only
    split
    · next d e =>
      intro h1
      obtain ⟨F', s, ok'⟩ := ok1.freeze e
      exact k.nx n1 F' H1 σ1 _ (s1.trans s) ok' h1
    · intro h1
      exact k.nx n1 F1 H1 σ1 ρ1 s1 ok1 h1
/-! ### f-strings -/
def pFmt (p : TPE) : TPE := fun ρ n R => p ρ n fun d m => match d with
  | .str s => s.length ≤ sizeLine ∧ R (.str s) m
  | .int i => i.natAbs.log2 < 1920 ∧ R (.str (toString i)) m
  | _ => False
theorem de_fmt (he : SE X e p) : DE X (.FormattedValue e (-1) none pos) (pFmt p) := fun g hK => (pe_fmt (he g hK)).imp fun σ H Q ⟨n, F, ρ, R, ok, hq, k⟩ => by
  refine ⟨n, F, ρ, _, ok, hq, fun n1 F1 H1 x d s1 ok1 r1 h1 => ?_⟩
  revert h1
  cases d <;> intro h1 <;> first | exact False.elim h1 | skip
  · exact .inr ⟨_, r1.int ok1, h1.1, k n1 F1 H1 _ _ s1 ok1 (.str _) h1.2⟩
  · exact .inl ⟨_, r1.str ok1, h1.1, k n1 F1 H1 _ _ s1 ok1 (.str _) h1.2⟩
inductive DJ (X : Cx) : List Expr → List TPE → Prop where
  | nil : DJ X [] []
  | cons {e : Expr} {p : TPE} {es : List Expr} {ps : List TPE} (h : DE X e p) (r : DJ X es ps) : DJ X (e :: es) (p :: ps)
def pJs : List TPE → Str → TPE
  | [], acc, _, n, R => R (.str acc) n
  | p :: ps, acc, ρ, n, R => p ρ n fun d m => match d with | .str y => (acc ++ y).length ≤ sizeLine ∧ pJs ps (acc ++ y) ρ m R | _ => False
theorem DJ.pj {ps : List TPE} (h : DJ X es ps) {g : G} (hK : g.c.K = X.K) : PJ X es (ps.map (LE g)) := by
  induction h with
  | nil => exact .nil
  | cons h _ ih => exact .cons (h g hK) ih
theorem js_sound {g : G} {σ : L2.St} {ρ : PEnv} {Q : V → Hp → Prop} : ∀ (ps : List TPE) (acc : Str) (n : Nat) (F H : Hp) (R : D → Nat → Prop), Ok g n F H σ ρ → pJs ps acc ρ n R → (∀ n' F' H' v d, Same F F' → Ok g n' F' H' σ ρ → Rep g.c F' v d → R d n' → Q v H') → tJs (ps.map (LE g)) acc σ H (fun out H1 => Q (.str out) H1)
  | [], acc, n, F, H, R, ok, h, k => k n F H _ _ (Same.refl F) ok (.str acc) h
  | p :: ps, acc, n, F, H, R, ok, h, k => ⟨n, F, ρ, _, ok, h, fun n1 F1 H1 v d s1 ok1 r1 h1 => by
      revert h1
      cases d <;> intro h1 <;> first | exact False.elim h1 | skip
      cases r1
      exact ⟨_, rfl, h1.1, js_sound ps _ n1 F1 H1 R ok1 h1.2 fun n2 F2 H2 v d s2 => k n2 F2 H2 v d (s1.trans s2)⟩⟩
theorem de_joined {v1 v2 : Expr} {rest : List Expr} {ps : List TPE} (h : DJ X (v1 :: v2 :: rest) ps) : DE X (.JoinedStr (v1 :: v2 :: rest) pos) (pJs ps Str.empty) := fun g hK => (pe_joined (h.pj hK)).imp fun σ H Q ⟨n, F, ρ, R, ok, hq, k⟩ => js_sound ps _ n F H R ok hq k
theorem de_joined1 (h : DE X e p) : DE X (.JoinedStr [e] pos) p := fun g hK => pe_joined1 (h g hK)
theorem q_fmt (ρ : PEnv) (n : Nat) (R : D → Nat → Prop) : pFmt p ρ n R = p ρ n fun d m => match d with
  | .str s => s.length ≤ sizeLine ∧ R (.str s) m
  | .int i => i.natAbs.log2 < 1920 ∧ R (.str (toString i)) m
  | _ => False := rfl
theorem q_js0 (acc : Str) (ρ : PEnv) (n : Nat) (R : D → Nat → Prop) : pJs [] acc ρ n R = R (.str acc) n := rfl
theorem q_js (ps : List TPE) (acc : Str) (ρ : PEnv) (n : Nat) (R : D → Nat → Prop) : pJs (p :: ps) acc ρ n R = p ρ n fun d m => match d with | .str y => (acc ++ y).length ≤ sizeLine ∧ pJs ps (acc ++ y) ρ m R | _ => False := rfl
end
end PL

/-! PL: comparing and showing, further. -/
namespace PL
open PySem PySem.Spec L2
theorem okD_nil : okD (.lst []) := ⟨by decide, by decide, by decide⟩
theorem oNe_nil {ds : List D} (h : okD (.lst ds)) {R : D → Prop} (q : R (.bl (!ds.isEmpty))) : oNe (.lst ds) (.lst []) R := by
  refine oNe_ok h okD_nil ?_
  cases ds with
  | nil => exact q
  | cons d ds => exact q
theorem oEq_nil {ds : List D} (h : okD (.lst ds)) {R : D → Prop} (q : R (.bl ds.isEmpty)) : oEq (.lst ds) (.lst []) R := by
  refine oEq_ok h okD_nil ?_
  cases ds with
  | nil => exact q
  | cons d ds => exact q
theorem oRepr_dic0 {R : D → Prop} (q : R (.str (PyData.dict []).shown)) : oRepr [.dic [] []] R := by
  simp only [oRepr, D.py]
  exact ⟨⟨by decide, by decide, by decide, .inr rfl⟩, q⟩
end PL

/-! PL: loops and comprehensions by an invariant. -/
namespace PL
open PySem PySem.Spec L2
/-- a comprehension without draws: filter and map -/
theorem lcW_flt {t : TPG} {tt : TPT} {te : TPE} {ρ : PEnv} {n : Nat} (p : D → Bool) (f : D → D) {R : List D → Nat → Prop} : ∀ (ds acc : List D), (∀ d ∈ ds, ∀ (acc : List D) (L : List D → Nat → Prop), (if p d = true then L (acc ++ [f d]) n else L acc n) → t d ρ n fun ρ1 n1 => tt ρ1 n1 fun b n2 => if b = true then te ρ1 n2 fun y n3 => L (acc ++ [y]) n3 else L acc n2) → R (acc ++ (ds.filter p).map f) n → lcW t tt te ds acc ρ n R
  | [], acc, _, hR => by simpa [lcW] using hR
  | d :: ds, acc, h, hR => by
    rw [lcW_cons]
    refine h d List.mem_cons_self acc (fun acc n => lcW t tt te ds acc ρ n R) ?_
    have ih := fun acc => lcW_flt p f (R := R) ds acc fun d hd => h d (List.mem_cons_of_mem _ hd)
    rw [List.filter_cons] at hR
    cases hp : p d with
    | true =>
      rw [hp, if_pos rfl] at hR
      rw [if_pos rfl]
      exact ih _ (by simpa using hR)
    | false =>
      rw [hp, if_neg (by decide)] at hR
      rw [if_neg (by decide)]
      exact ih _ hR
/-- a comprehension without a test and without draws -/
theorem lcW_m {t : TPG} {tt : TPT} {te : TPE} {ρ : PEnv} {n : Nat} (f : D → D) {R : List D → Nat → Prop} {ds : List D} (h : ∀ d ∈ ds, ∀ (acc : List D) (L : List D → Nat → Prop), L (acc ++ [f d]) n → t d ρ n fun ρ1 n1 => tt ρ1 n1 fun b n2 => if b = true then te ρ1 n2 fun y n3 => L (acc ++ [y]) n3 else L acc n2) (hR : R (ds.map f) n) : lcW t tt te ds [] ρ n R := by
  refine lcW_flt (fun _ => true) f ds [] (fun d hd acc L hL => h d hd acc L (by simpa using hL)) ?_
  rwa [List.nil_append, List.filter_eq_self.mpr (fun _ _ => rfl)]
/-- a comprehension that keeps nothing -/
theorem lcW_none {t : TPG} {tt : TPT} {te : TPE} {ρ : PEnv} {n : Nat} {R : List D → Nat → Prop} {ds acc : List D} (h : ∀ d ∈ ds, ∀ (acc : List D) (L : List D → Nat → Prop), L acc n → t d ρ n fun ρ1 n1 => tt ρ1 n1 fun b n2 => if b = true then te ρ1 n2 fun y n3 => L (acc ++ [y]) n3 else L acc n2) (hR : R acc n) : lcW t tt te ds acc ρ n R := by
  refine lcW_flt (fun _ => false) id ds acc (fun d hd acc L hL => h d hd acc L (by simpa using hL)) ?_
  rw [List.filter_eq_nil_iff.mpr (fun a _ => by decide), List.map_nil, List.append_nil]
  exact hR
/-- a comprehension with draws: each element is good, each costs at most c draws -/
theorem lcW_drw {t : TPG} {tt : TPT} {te : TPE} {ρ : PEnv} (c : Nat) (good : D → Prop) {R : List D → Nat → Prop} {ds : List D} {n : Nat} (h : ∀ d ∈ ds, ∀ (m : Nat) (acc : List D) (L : List D → Nat → Prop), n ≤ m → m + c ≤ n + c * ds.length → (∀ y k, good y → m ≤ k → k ≤ m + c → L (acc ++ [y]) k) → t d ρ m fun ρ1 n1 => tt ρ1 n1 fun b n2 => if b = true then te ρ1 n2 fun y n3 => L (acc ++ [y]) n3 else L acc n2) (hR : ∀ (ys : List D) (k : Nat), ys.length = ds.length → (∀ y ∈ ys, good y) → n ≤ k → k ≤ n + c * ds.length → R ys k) : lcW t tt te ds [] ρ n R := by
  have go : ∀ (es acc : List D) (m : Nat), (∀ d ∈ es, d ∈ ds) → acc.length + es.length = ds.length → (∀ y ∈ acc, good y) → n ≤ m → m ≤ n + c * acc.length → lcW t tt te es acc ρ m R := by
    intro es
    induction es with
    | nil =>
      intro acc m _ hl hg h1 h2
      exact hR acc m (by simpa using hl) hg h1 (by rw [← (show acc.length = ds.length by simpa using hl)]; exact h2)
    | cons d es ih =>
      intro acc m hs hl hg h1 h2
      rw [lcW_cons]
      have hl : acc.length + 1 + es.length = ds.length := by simpa [Nat.add_assoc, Nat.add_comm 1] using hl
      have hb : c * (acc.length + 1) ≤ c * ds.length := Nat.mul_le_mul_left _ (by omega)
      rw [Nat.mul_succ] at hb
      refine h d (hs d List.mem_cons_self) m acc (fun acc n => lcW t tt te es acc ρ n R) h1 (by omega) fun y k gy k1 k2 => ih _ _ (fun e he => hs e (List.mem_cons_of_mem _ he)) (by simp; omega) (fun z hz => ?_) (by omega) (by rw [List.length_append, List.length_singleton, Nat.mul_succ]; omega)
      rcases List.mem_append.mp hz with hz | hz
      · exact hg z hz
      · rw [show z = y by simpa using hz]; exact gy
  exact go ds [] n (fun d hd => hd) (by simp) (fun _ h => nomatch h) (Nat.le_refl _) (by simp)
/-- for, by an invariant over what is left -/
theorem forW_inv {t : TPG} {b : TPS} {P : Post} (I : List D → PEnv → Nat → Prop) {ds : List D} {ρ : PEnv} {n : Nat} (h0 : I ds ρ n) (step : ∀ (d : D) (ds : List D) (ρ : PEnv) (n : Nat) (L : PEnv → Nat → Prop), (∀ ρ' n', I ds ρ' n' → L ρ' n') → I (d :: ds) ρ n → t d ρ n fun ρ1 n1 => b { nx := L, ct := L, bk := P.nx, rt := P.rt } ρ1 n1) (fin : ∀ ρ n, I [] ρ n → P.nx ρ n) : forW t b ds P ρ n := by
  induction ds generalizing ρ n with
  | nil => exact fin _ _ h0
  | cons d ds ih => exact step d ds ρ n _ (fun ρ' n' h => ih h) h0
theorem atI0 {α : Type} (a : α) (l : List α) : atI (a :: l) 0 = some a := atI_nat (j := 0) rfl
theorem atI1 {α : Type} (a b : α) (l : List α) : atI (a :: b :: l) 1 = some b := atI_nat (j := 1) rfl
theorem atI2 {α : Type} (a b c : α) (l : List α) : atI (a :: b :: c :: l) 2 = some c := atI_nat (j := 2) rfl
theorem atI3 {α : Type} (a b c d : α) (l : List α) : atI (a :: b :: c :: d :: l) 3 = some d := atI_nat (j := 3) rfl
theorem kit_self (s : String) : kitB s s = some true := by unfold kitB; simp
theorem kk_NoneType_bool : kitB "NoneType" "bool" = some false := rfl
theorem kk_NoneType_int : kitB "NoneType" "int" = some false := rfl
theorem kk_NoneType_str : kitB "NoneType" "str" = some false := rfl
theorem kk_NoneType_list : kitB "NoneType" "list" = some false := rfl
theorem kk_NoneType_tuple : kitB "NoneType" "tuple" = some false := rfl
theorem kk_NoneType_dict : kitB "NoneType" "dict" = some false := rfl
theorem kk_bool_bool : kitB "bool" "bool" = some true := rfl
theorem kk_bool_int : kitB "bool" "int" = some true := rfl
theorem kk_bool_str : kitB "bool" "str" = some false := rfl
theorem kk_bool_list : kitB "bool" "list" = some false := rfl
theorem kk_bool_tuple : kitB "bool" "tuple" = some false := rfl
theorem kk_bool_dict : kitB "bool" "dict" = some false := rfl
theorem kk_int_bool : kitB "int" "bool" = some false := rfl
theorem kk_int_int : kitB "int" "int" = some true := rfl
theorem kk_int_str : kitB "int" "str" = some false := rfl
theorem kk_int_list : kitB "int" "list" = some false := rfl
theorem kk_int_tuple : kitB "int" "tuple" = some false := rfl
theorem kk_int_dict : kitB "int" "dict" = some false := rfl
theorem kk_str_bool : kitB "str" "bool" = some false := rfl
theorem kk_str_int : kitB "str" "int" = some false := rfl
theorem kk_str_str : kitB "str" "str" = some true := rfl
theorem kk_str_list : kitB "str" "list" = some false := rfl
theorem kk_str_tuple : kitB "str" "tuple" = some false := rfl
theorem kk_str_dict : kitB "str" "dict" = some false := rfl
theorem kk_list_bool : kitB "list" "bool" = some false := rfl
theorem kk_list_int : kitB "list" "int" = some false := rfl
theorem kk_list_str : kitB "list" "str" = some false := rfl
theorem kk_list_list : kitB "list" "list" = some true := rfl
theorem kk_list_tuple : kitB "list" "tuple" = some false := rfl
theorem kk_list_dict : kitB "list" "dict" = some false := rfl
theorem kk_tuple_bool : kitB "tuple" "bool" = some false := rfl
theorem kk_tuple_int : kitB "tuple" "int" = some false := rfl
theorem kk_tuple_str : kitB "tuple" "str" = some false := rfl
theorem kk_tuple_list : kitB "tuple" "list" = some false := rfl
theorem kk_tuple_tuple : kitB "tuple" "tuple" = some true := rfl
theorem kk_tuple_dict : kitB "tuple" "dict" = some false := rfl
theorem kk_dict_bool : kitB "dict" "bool" = some false := rfl
theorem kk_dict_int : kitB "dict" "int" = some false := rfl
theorem kk_dict_str : kitB "dict" "str" = some false := rfl
theorem kk_dict_list : kitB "dict" "list" = some false := rfl
theorem kk_dict_tuple : kitB "dict" "tuple" = some false := rfl
theorem kk_dict_dict : kitB "dict" "dict" = some true := rfl
theorem ty_non : tyName .non = some "NoneType" := rfl
theorem ty_bl (b : Bool) : tyName (.bl b) = some "bool" := rfl
theorem ty_int (b : Int) : tyName (.int b) = some "int" := rfl
theorem ty_str (b : Str) : tyName (.str b) = some "str" := rfl
theorem ty_lst (b : List D) : tyName (.lst b) = some "list" := rfl
theorem ty_tup (b : List D) : tyName (.tup b) = some "tuple" := rfl
theorem ty_dic (a : List Key) (b : List D) : tyName (.dic a b) = some "dict" := rfl
/-! ### == on data -/
mutual
def eqD : D → D → Bool
  | .non, .non => true
  | .bl a, .bl b => a == b
  | .bl a, .int j => (if a then 1 else 0) == j
  | .int i, .bl b => i == (if b then 1 else 0)
  | .int i, .int j => decide (i = j)
  | .str x, .str y => decide (x = y)
  | .lst xs, .lst ys => eqL xs ys
  | .tup xs, .tup ys => eqL xs ys
  | _, _ => false
def eqL : List D → List D → Bool
  | [], [] => true
  | x :: xs, y :: ys => eqD x y && eqL xs ys
  | _, _ => false
end
mutual
theorem eqD_py : ∀ d e : D, niceD d = true → niceD e = true → PyData.eqv (pyD d) (pyD e) = eqD d e
  | .non, e, h, h' => by cases e <;> first | rfl | (simp [niceD] at h'; done)
  | .bl a, e, h, h' => by cases e <;> first | rfl | (simp [niceD] at h'; done)
  | .int i, e, h, h' => by
    cases e with
    | int j => simp only [pyD, eqD, eqv_int]
    | _ => first | rfl | (simp [niceD] at h'; done)
  | .str x, e, h, h' => by
    cases e with
    | str j => simp only [pyD, eqD, eqv_str]
    | _ => first | rfl | (simp [niceD] at h'; done)
  | .lst xs, e, h, h' => by
    cases e with
    | lst ys =>
      simp only [pyD, eqD, PyData.eqv]
      exact eqL_py xs ys (by simpa [niceD] using h) (by simpa [niceD] using h')
    | _ => first | rfl | (simp [niceD] at h'; done)
  | .tup xs, e, h, h' => by
    cases e with
    | tup ys =>
      simp only [pyD, eqD, PyData.eqv]
      exact eqL_py xs ys (by simpa [niceD] using h) (by simpa [niceD] using h')
    | _ => first | rfl | (simp [niceD] at h'; done)
  | .dic _ _, _, h, _ => by simp [niceD] at h
  | .dit _ _, _, h, _ => by simp [niceD] at h
  | .obj _ _, _, h, _ => by simp [niceD] at h
  | .res, _, h, _ => by simp [niceD] at h
theorem eqL_py : ∀ d e : List D, niceL d = true → niceL e = true → PyData.eqvAll (pyDs d) (pyDs e) = eqL d e
  | [], e, h, h' => by cases e <;> rfl
  | d :: ds, [], h, h' => rfl
  | d :: ds, e :: es, h, h' => by
    have h1 : niceD d = true ∧ niceL ds = true := by simpa [niceL] using h
    have h2 : niceD e = true ∧ niceL es = true := by simpa [niceL] using h'
    simp only [pyDs, eqL, PyData.eqvAll, eqD_py d e h1.1 h2.1, eqL_py ds es h1.2 h2.2]
end
mutual
theorem eqD_refl : ∀ d : D, niceD d = true → eqD d d = true
  | .non, _ => rfl
  | .bl a, _ => by simp [eqD]
  | .int i, _ => by simp [eqD]
  | .str x, _ => by simp [eqD]
  | .lst xs, h => by rw [eqD]; exact eqL_refl xs (by simpa [niceD] using h)
  | .tup xs, h => by rw [eqD]; exact eqL_refl xs (by simpa [niceD] using h)
  | .dic _ _, h => by simp [niceD] at h
  | .dit _ _, h => by simp [niceD] at h
  | .obj _ _, h => by simp [niceD] at h
  | .res, h => by simp [niceD] at h
theorem eqL_refl : ∀ d : List D, niceL d = true → eqL d d = true
  | [], _ => rfl
  | d :: ds, h => by
    have h1 : niceD d = true ∧ niceL ds = true := by simpa [niceL] using h
    rw [eqL, eqD_refl d h1.1, eqL_refl ds h1.2]; rfl
end
mutual
/-- without bools -/
def purD : D → Bool
  | .bl _ => false
  | .lst xs => purL xs
  | .tup xs => purL xs
  | _ => true
def purL : List D → Bool
  | [] => true
  | d :: ds => purD d && purL ds
end
mutual
theorem eqD_eq : ∀ d e : D, purD d = true → purD e = true → eqD d e = true → d = e
  | .non, e, _, _, h => by cases e <;> first | rfl | cases h
  | .bl a, e, h, _, _ => by simp [purD] at h
  | .int i, e, _, h', h => by
    cases e with
    | int j => rw [show i = j by simpa [eqD] using h]
    | bl _ => simp [purD] at h'
    | _ => cases h
  | .str x, e, _, _, h => by
    cases e with
    | str j => rw [show x = j by simpa [eqD] using h]
    | _ => cases h
  | .lst xs, e, q, q', h => by
    cases e with
    | lst ys => rw [eqL_eq xs ys (by simpa [purD] using q) (by simpa [purD] using q') (by simpa [eqD] using h)]
    | _ => cases h
  | .tup xs, e, q, q', h => by
    cases e with
    | tup ys => rw [eqL_eq xs ys (by simpa [purD] using q) (by simpa [purD] using q') (by simpa [eqD] using h)]
    | _ => cases h
  | .dic _ _, e, _, _, h => by cases e <;> cases h
  | .dit _ _, e, _, _, h => by cases e <;> cases h
  | .obj _ _, e, _, _, h => by cases e <;> cases h
  | .res, e, _, _, h => by cases e <;> cases h
theorem eqL_eq : ∀ d e : List D, purL d = true → purL e = true → eqL d e = true → d = e
  | [], e, _, _, h => by cases e <;> first | rfl | cases h
  | d :: ds, [], _, _, h => by cases h
  | d :: ds, e :: es, q, q', h => by
    have h1 : purD d = true ∧ purL ds = true := by simpa [purL] using q
    have h2 : purD e = true ∧ purL es = true := by simpa [purL] using q'
    have h3 : eqD d e = true ∧ eqL ds es = true := by simpa [eqL] using h
    rw [eqD_eq d e h1.1 h2.1 h3.1, eqL_eq ds es h1.2 h2.2 h3.2]
end
theorem oEq_D {d e : D} (h : okD d) (h' : okD e) {R : D → Prop} (q : R (.bl (eqD d e))) : oEq d e R := oEq_ok h h' (by rwa [eqD_py d e h.1 h'.1])
theorem oNe_D {d e : D} (h : okD d) (h' : okD e) {R : D → Prop} (q : R (.bl (!eqD d e))) : oNe d e R := oNe_ok h h' (by rwa [eqD_py d e h.1 h'.1])
/-- both the same -/
theorem oNe_same {d : D} (h : okD d) {R : D → Prop} (q : R (.bl false)) : oNe d d R := oNe_D h h (by rwa [eqD_refl d h.1])
theorem oEq_same {d : D} (h : okD d) {R : D → Prop} (q : R (.bl true)) : oEq d d R := oEq_D h h (by rwa [eqD_refl d h.1])
theorem subL {s xs : List D} (h : s.Sublist xs) : (niceL xs = true → niceL s = true) ∧ depL s ≤ depL xs ∧ bulkL s ≤ bulkL xs := by
  induction h with
  | slnil => exact ⟨id, Nat.le_refl _, Nat.le_refl _⟩
  | cons a h ih =>
    obtain ⟨i1, i2, i3⟩ := ih
    refine ⟨fun q => i1 ?_, ?_, ?_⟩
    · rw [niceL, Bool.and_eq_true] at q; exact q.2
    · simp only [depL]; omega
    · simp only [bulkL]; omega
  | cons_cons a h ih =>
    obtain ⟨i1, i2, i3⟩ := ih
    refine ⟨fun q => ?_, ?_, ?_⟩
    · rw [niceL, Bool.and_eq_true] at q ⊢; exact ⟨q.1, i1 q.2⟩
    · simp only [depL]; omega
    · simp only [bulkL]; omega
theorem okD_lst {xs : List D} : okD (.lst xs) ↔ niceL xs = true ∧ depL xs ≤ 59 ∧ bulkL xs ≤ 8000 := by
  unfold okD
  simp only [niceD, depD, bulkD]
  constructor <;> rintro ⟨h1, h2, h3⟩ <;> exact ⟨h1, by omega, h3⟩
theorem okD_tup {xs : List D} : okD (.tup xs) ↔ niceL xs = true ∧ depL xs ≤ 59 ∧ bulkL xs ≤ 8000 := by
  unfold okD
  simp only [niceD, depD, bulkD]
  constructor <;> rintro ⟨h1, h2, h3⟩ <;> exact ⟨h1, by omega, h3⟩
theorem okD.subT {s xs : List D} (h : okD (.tup xs)) (q : s.Sublist xs) : okD (.lst s) := by
  obtain ⟨h1, h2, h3⟩ := okD_tup.mp h
  obtain ⟨q1, q2, q3⟩ := subL q
  exact okD_lst.mpr ⟨q1 h1, by omega, by omega⟩
theorem okD.subL {s xs : List D} (h : okD (.lst xs)) (q : s.Sublist xs) : okD (.lst s) := by
  obtain ⟨h1, h2, h3⟩ := okD_lst.mp h
  obtain ⟨q1, q2, q3⟩ := PL.subL q
  exact okD_lst.mpr ⟨q1 h1, by omega, by omega⟩
theorem okD_int {i : Int} (h : i.natAbs < 2 ^ 1900) : okD (.int i) := ⟨by simp only [niceD]; exact decide_eq_true h, Nat.le_of_ble_eq_true rfl, Nat.le_of_ble_eq_true rfl⟩
theorem niceD_tup (ds : List D) : niceD (.tup ds) = niceL ds := by simp only [niceD]
theorem niceD_lst (ds : List D) : niceD (.lst ds) = niceL ds := by simp only [niceD]
theorem niceI {i : Int} (h : i.natAbs < 2 ^ 1900) : niceD (.int i) = true := by simp only [niceD]; exact decide_eq_true h
theorem niceS_iff {s : Str} : niceD (.str s) = true ↔ ∀ c ∈ s.cps.toList, c < 1114112 := by
  simp only [niceD, PyData.strOk, Bool.and_eq_true, List.all_eq_true, decide_eq_true_eq, ← Array.all_toList]
  exact ⟨fun h => h.1, fun h => ⟨h, h⟩⟩
theorem nice_ofString (s : String) : niceD (.str (Str.ofString s)) = true := by
  rw [niceS_iff, Str.ofString_eq_toList]
  intro c hc
  simp only [List.mem_map] at hc
  obtain ⟨x, _, rfl⟩ := hc
  have := x.valid
  unfold UInt32.isValidChar Nat.isValidChar at this
  show x.val.toNat < _
  omega
theorem nice_app {a b : Str} (h : niceD (.str a) = true) (h' : niceD (.str b) = true) : niceD (.str (a ++ b)) = true := by
  rw [niceS_iff] at *
  intro c hc
  have hc : c ∈ (a.cps ++ b.cps).toList := hc
  rw [Array.toList_append, List.mem_append] at hc
  exact hc.elim (h c) (h' c)
end PL

/-! PL: dicts, in, several targets at once, ranges with a step, tuples by a number, sums of tuples. -/
namespace PL
open PySem PySem.Spec L2
/-! ### dicts, as data -/
section
variable {κ : Type} [DecidableEq κ]
def dGet : List κ → List D → κ → Option D
  | k :: ks, d :: ds, j => if k = j then some d else dGet ks ds j
  | _, _, _ => none
def dKeys (ks : List κ) (j : κ) : List κ := if j ∈ ks then ks else ks ++ [j]
def dRepl : List κ → List D → κ → D → List D
  | k :: ks, d :: ds, j, e => (if k = j then e else d) :: dRepl ks ds j e
  | _, _, _, _ => []
def dVals (ks : List κ) (ds : List D) (j : κ) (e : D) : List D := if j ∈ ks then dRepl ks ds j e else ds ++ [e]
theorem dGet_val {c : Cfg} {F : Hp} {j : κ} : ∀ {ks : List κ} {xs : List V} {ds : List D}, ks.length = xs.length → Reps c F xs ds → (∀ d, dGet ks ds j = some d → ∃ v, valV (ks.zip xs) j = some v ∧ Rep c F v d) ∧ (dGet ks ds j = none → valV (ks.zip xs) j = none)
  | [], _, _, _, _ => ⟨fun d h => by simp [dGet] at h, fun _ => rfl⟩
  | k :: ks, [], _, hl, _ => by simp at hl
  | k :: ks, x :: xs, _, hl, .cons (d := d) (ds := ds) r rs => by
    have ih := dGet_val (j := j) (by simpa using hl) rs
    rw [List.zip_cons_cons]
    unfold dGet
    by_cases e : k = j
    · rw [if_pos e, valV_pos (by exact e)]
      exact ⟨fun z hz => by cases hz; exact ⟨_, rfl, r⟩, fun z => nomatch z⟩
    · rw [if_neg e, valV_neg (by exact e)]
      exact ih
theorem dGet_mem {j : κ} : ∀ {ks : List κ} {ds : List D}, ks.length = ds.length → ((dGet ks ds j).isSome = true ↔ j ∈ ks)
  | [], ds, _ => by simp [dGet]
  | k :: ks, [], hl => by simp at hl
  | k :: ks, d :: ds, hl => by
    have ih := dGet_mem (j := j) (ks := ks) (ds := ds) (by simpa using hl)
    unfold dGet
    by_cases e : k = j
    · simp [e]
    · rw [if_neg e, ih]
      simp [Ne.symm e]
theorem dGet_none {j : κ} {ks : List κ} {ds : List D} (hl : ks.length = ds.length) (h : j ∉ ks) : dGet ks ds j = none := by
  cases e : dGet ks ds j with
  | none => rfl
  | some d => exact absurd ((dGet_mem hl).mp (by rw [e]; rfl)) h
theorem any_zip {j : κ} : ∀ {ks : List κ} {xs : List V}, ks.length = xs.length → ((ks.zip xs).any fun kv => decide (kv.1 = j)) = decide (j ∈ ks)
  | [], _, _ => rfl
  | k :: ks, [], hl => by simp at hl
  | k :: ks, x :: xs, hl => by
    rw [List.zip_cons_cons, List.any_cons, any_zip (by simpa using hl)]
    by_cases e : k = j
    · simp [e]
    · simp [e, Ne.symm e]
theorem map_repl {c : Cfg} {F : Hp} {j : κ} {v : V} {d : D} (r : Rep c F v d) : ∀ {ks : List κ} {xs : List V} {ds : List D}, ks.length = xs.length → Reps c F xs ds → ∃ ys, (ks.zip xs).map (fun kv => if kv.1 = j then (kv.1, v) else kv) = ks.zip ys ∧ ks.length = ys.length ∧ Reps c F ys (dRepl ks ds j d)
  | [], xs, _, hl, rs => ⟨[], rfl, rfl, .nil⟩
  | k :: ks, [], _, hl, _ => by simp at hl
  | k :: ks, x :: xs, _, hl, .cons (d := e) (ds := ds) q qs => by
    obtain ⟨ys, h1, h2, h3⟩ := map_repl (j := j) (v := v) (d := d) r (ks := ks) (by simpa using hl) qs
    rw [List.zip_cons_cons, List.map_cons, h1]
    by_cases z : k = j
    · refine ⟨v :: ys, by simp [z], by simpa using h2, ?_⟩
      unfold dRepl
      rw [if_pos z]
      exact .cons r h3
    · refine ⟨x :: ys, by simp [z], by simpa using h2, ?_⟩
      unfold dRepl
      rw [if_neg z]
      exact .cons q h3
theorem put_zip {c : Cfg} {F : Hp} {j : κ} {v : V} {d : D} {ks : List κ} {xs : List V} {ds : List D} (hl : ks.length = xs.length) (rs : Reps c F xs ds) (r : Rep c F v d) : ∃ ys, putK (ks.zip xs) j v = (dKeys ks j).zip ys ∧ (dKeys ks j).length = ys.length ∧ Reps c F ys (dVals ks ds j d) := by
  unfold putK dKeys dVals
  rw [any_zip hl]
  by_cases h : j ∈ ks
  · rw [if_pos (decide_eq_true h), if_pos h, if_pos h]
    exact map_repl r hl rs
  · rw [if_neg (by simpa using h), if_neg h, if_neg h]
    refine ⟨xs ++ [v], ?_, by simp [hl], rs.append (.cons r .nil)⟩
    rw [List.zip_append hl]
    rfl
theorem dKeys_len (ks : List κ) (j : κ) : (dKeys ks j).length ≤ ks.length + 1 := by
  unfold dKeys; split <;> simp
end
def hasK {κ : Type} [DecidableEq κ] (j : κ) (ks : List κ) : Bool := decide (j ∈ ks)
example : DecidableEq Key := inferInstance
/-- a key of a dict -/
def dKey : D → Option Key
  | .int i => some (.inl i)
  | .str s => some (.inr s)
  | _ => none
def dKeyL : List D → Option (List Key)
  | [] => some []
  | d :: ds => match dKey d, dKeyL ds with | some k, some ks => some (k :: ks) | _, _ => none
theorem RR.key {g : G} {F : Hp} {σ : L2.St} {ρ : PEnv} {x : V} {d : D} {k : Key} {n : Nat} {H : Hp} (ok : Ok g n F H σ ρ) (h : RR g F σ ρ x d) (e : dKey d = some k) : x = kV k := by
  cases d <;> first | cases e; done | skip
  · cases e; exact h.int ok
  · cases e; exact h.str ok
theorem Reps.keys {c : Cfg} {F : Hp} : ∀ {ds : List D} {vs : List V} {ks : List Key}, Reps c F vs ds → dKeyL ds = some ks → vs = ks.map kV
  | [], _, _, .nil, h => by cases h; rfl
  | d :: ds, _, ks, .cons r rs, h => by
    rw [dKeyL] at h
    split at h
    · rename_i k ks' h1 h2
      cases h
      rw [rs.keys h2, List.map_cons]
      congr 1
      cases d <;> first | cases h1; done | skip
      · cases h1; cases r; rfl
      · cases h1; cases r; rfl
    · cases h
section
variable {X : Cx} {e a b c o tg : Expr} {es : List Expr} {p pa pb pc : TPE} {pos pf p2 : Pos} {ta tk : TPA}
theorem fe_dnewT : FE X (.Dict [] [] pos) (pC (.dit [] [])) := fun g hK => pe_dnewT.imp fun σ H Q ⟨n, F, ρ, R, ok, hq, k⟩ => fun q hn => k n F H q _ _ (Same.refl F) ok hn (.dit (ks := []) (xs := []) rfl .nil) hq

/-! ### in, not in -/
theorem op_inD (hu : X.A.units + 1 < cLine) : OpR X (compareOp .In) (fun x y H Q => ∃ a o, y = .ref a ∧ DGet H a x o ∧ Q (.bl o.isSome) H) := by
  intro pins s σ H x y v u Q I rx ry h
  obtain ⟨a, o, rfl, g, q⟩ := h
  cases ry
  exact d_in hu I g rx fun s' I' => ⟨.bl o.isSome, H, I', rfl, q⟩
theorem op_notInD (hu : X.A.units + 1 < cLine) : OpR X (compareOp .NotIn) (fun x y H Q => ∃ a o, y = .ref a ∧ DGet H a x o ∧ Q (.bl (!o.isSome)) H) := by
  intro pins s σ H x y v u Q I rx ry h
  obtain ⟨a, o, rfl, g, q⟩ := h
  cases ry
  exact d_notIn hu I g rx fun s' I' => ⟨.bl (!o.isSome), H, I', rfl, q⟩
/-- one of flat data is equal to d -/
def memD (d : D) (ds : List D) : Bool := ds.any fun e => eqD e d
theorem flat_eq {c : Cfg} {F : Hp} {x y : V} {d e : D} (fd : flatD d = true) (fe : flatD e = true) (r : Rep c F x d) (q : Rep c F y e) : eqV x y = eqD d e := by
  cases r <;> first | (cases fd; done) | skip
  all_goals cases q <;> first | (cases fe; done) | rfl | skip
  all_goals rename_i i j; show (i == j) = decide (i = j); by_cases h : i = j <;> simp [h]
theorem flat_V {c : Cfg} {F : Hp} {x : V} {d : D} (fd : flatD d = true) (r : Rep c F x d) : flatV x = true := by
  cases r <;> first | (cases fd; done) | rfl
theorem Reps.flats {c : Cfg} {F : Hp} : ∀ {ds : List D} {vs : List V}, Reps c F vs ds → ds.all flatD = true → vs.all flatV = true
  | [], _, .nil, _ => rfl
  | d :: ds, _, .cons r rs, h => by
    rw [List.all_cons, Bool.and_eq_true] at h ⊢
    exact ⟨flat_V h.1 r, rs.flats h.2⟩
theorem Reps.inV {c : Cfg} {F : Hp} {x : V} {d : D} (fd : flatD d = true) (r : Rep c F x d) : ∀ {ds : List D} {vs : List V}, Reps c F vs ds → ds.all flatD = true → L2.inV x vs = memD d ds
  | [], _, .nil, _ => rfl
  | e :: ds, _, .cons q rs, h => by
    rw [List.all_cons, Bool.and_eq_true] at h
    have ih := Reps.inV fd r rs h.2
    unfold L2.inV memD at ih ⊢
    rw [List.any_cons, List.any_cons, ih, flat_eq h.1 fd q r]
theorem RR.flat {g : G} {F : Hp} {σ : L2.St} {ρ : PEnv} {x : V} {d : D} {n : Nat} {H : Hp} (ok : Ok g n F H σ ρ) (h : RR g F σ ρ x d) (fd : flatD d = true) : Rep g.c F x d := by
  rcases h with h | ⟨i, hi, hs⟩
  · exact h
  · obtain ⟨a, o, _, _, _, _, _, z⟩ := ok.cells i _ hi
    cases z <;> cases fd
def oInN (neg : Bool) : O2 := fun d e R => match e with
  | .lst ds => flatD d = true ∧ ds.all flatD = true ∧ R (.bl (if neg then !memD d ds else memD d ds))
  | .tup ds => flatD d = true ∧ ds.all flatD = true ∧ R (.bl (if neg then !memD d ds else memD d ds))
  | .dic ks es => match dKey d with | some k => ks.length = es.length ∧ R (.bl (if neg then !hasK k ks else hasK k ks)) | none => False
  | _ => False
theorem some_dec {κ : Type} [DecidableEq κ] {c : Cfg} {F : Hp} {j : κ} {ks : List κ} {xs : List V} {ds : List D} (hl : ks.length = xs.length) (rs : Reps c F xs ds) : (valV (ks.zip xs) j).isSome = hasK j ks := by
  rw [← valV_any, any_zip hl, hasK]
theorem de_inN (hu : X.A.units + 64 < cLine) (neg : Bool) {op : CmpOp} (hop : op = if neg then .NotIn else .In) (ha : SE X a pa) (hb : SE X b pb) (hm : behindInMarks op b = false := by rfl) : DE X (.Compare a [op] [b] pos) (pBin (oInN neg) pa pb) ∧ DT X (.Compare a [op] [b] pos) (pB (pBin (oInN neg) pa pb)) := by
  have hu1 : X.A.units + 1 < cLine := by omega
  have ho : OpR X (compareOp op) (fun x y H Q => rIn X.K neg x y H Q ∨ ∃ a o, y = .ref a ∧ DGet H a x o ∧ Q (.bl (if neg then !o.isSome else o.isSome)) H) := by
    cases neg with
    | false => subst hop; exact op_in_seq.or (op_inD hu1)
    | true => subst hop; exact op_notIn_seq.or (op_notInD hu1)
  have hp : OpP X.K (fun x y H Q => rIn X.K neg x y H Q ∨ ∃ a o, y = .ref a ∧ DGet H a x o ∧ Q (.bl (if neg then !o.isSome else o.isSome)) H) (oInN neg) := by
    intro g n F H σ ρ x y d e R Q hK ok r1 r2 q k
    unfold oInN at q
    split at q
    · obtain ⟨q1, q2, q3⟩ := q
      obtain ⟨l, xs, rfl, h1, s1⟩ := r2.lst ok
      refine .inl ⟨l, xs, rfl, .inl (SqL.of h1), flat_V q1 (r1.flat ok q1), s1.flats q2, ?_⟩
      rw [Reps.inV q1 (r1.flat ok q1) s1 q2]
      exact k F H _ _ (Same.refl F) ok (.bl _) q3
    · obtain ⟨q1, q2, q3⟩ := q
      obtain ⟨l, xs, rfl, h1, s1, _⟩ := r2.tup ok
      rw [hK] at h1
      refine .inl ⟨l, xs, rfl, .inr h1, flat_V q1 (r1.flat ok q1), s1.flats q2, ?_⟩
      rw [Reps.inV q1 (r1.flat ok q1) s1 q2]
      exact k F H _ _ (Same.refl F) ok (.bl _) q3
    · split at q
      · rename_i kk hk
        obtain ⟨l, xs, rfl, h1, hl, s1⟩ := r2.dic ok
        have ex := r1.key ok hk
        subst ex
        refine .inr ⟨l, _, rfl, .inl ⟨_, kk, .inl h1, rfl, rfl⟩, ?_⟩
        rw [some_dec hl s1]
        exact k F H _ _ (Same.refl F) ok (.bl _) q.2
      · exact q.elim
    · exact q.elim
  exact ⟨de_cmp ho hp ha hb hm, dt_cmp ho hp ha hb hm⟩
theorem de_in (hu : X.A.units + 64 < cLine) (ha : SE X a pa) (hb : SE X b pb) (hm : behindInMarks .In b = false := by rfl) : DE X (.Compare a [.In] [b] pos) (pBin (oInN false) pa pb) := (de_inN hu false rfl ha hb hm).1
theorem dt_in (hu : X.A.units + 64 < cLine) (ha : SE X a pa) (hb : SE X b pb) (hm : behindInMarks .In b = false := by rfl) : DT X (.Compare a [.In] [b] pos) (pB (pBin (oInN false) pa pb)) := (de_inN hu false rfl ha hb hm).2
theorem de_notin (hu : X.A.units + 64 < cLine) (ha : SE X a pa) (hb : SE X b pb) (hm : behindInMarks .NotIn b = false := by rfl) : DE X (.Compare a [.NotIn] [b] pos) (pBin (oInN true) pa pb) := (de_inN hu true rfl ha hb hm).1
theorem dt_notin (hu : X.A.units + 64 < cLine) (ha : SE X a pa) (hb : SE X b pb) (hm : behindInMarks .NotIn b = false := by rfl) : DT X (.Compare a [.NotIn] [b] pos) (pB (pBin (oInN true) pa pb)) := (de_inN hu true rfl ha hb hm).2
end
end PL

/-! PL: dicts read and written, several targets at once, ranges with a step, tuples by a number, sums of tuples. -/
namespace PL
open PySem PySem.Spec L2
section
variable {X : Cx} {e a b c o tg : Expr} {es : List Expr} {p pa pb pc : TPE} {pos pf p2 : Pos} {ta tk : TPA}
/-! ### new tuples -/
def LN (g : G) (p : TPE) : TE := fun σ H Q => ∃ n F ρ R, Ok g n F H σ ρ ∧ p ρ n R ∧ ∀ n' F' H' b xs ds, Same F F' → Ok g n' F' H' σ ρ → F' b = some (.tup xs) → Reps g.c F' xs ds → R (.tup ds) n' → Q (.ref b) H'
def NE (X : Cx) (e : Expr) (p : TPE) : Prop := ∀ g : G, g.c.K = X.K → PE X e (LN g p)
theorem ne_tup {x1} (h : DA X es ta) : NE X (.Tuple es x1 pos) (pTup ta) := fun g hK => (pe_tup (h g hK)).imp fun σ H Q ⟨n, F, ρ, R, ok, hq, k⟩ =>
  ⟨n, F, ρ, _, ok, hq, fun n1 F1 H1 vs ds s1 ok1 r1 h1 => ⟨by rw [r1.length]; exact h1.1, fun q hn => k n1 (upd F1 q _) _ q _ _ (s1.trans (ok1.sameF _ hn)) (ok1.alloc _ hn) upd_same (r1.mono (ok1.sameF _ hn)) h1.2⟩⟩
def oTupleL : OL := fun ds R => match ds with | [.lst xs] => R (.tup xs) | _ => False
theorem ne_tuple (hm : X.mg "tuple" = none) (hg : Gl X "tuple") (ha : SA X [e] ta) (he : starEach [e] X.env = (false, eval e X.env) :: starEach [] X.env := by rfl) : NE X (.Call (.Name "tuple" pf) [e] [] pos) (pCall oTupleL ta) := fun g hK =>
  (pe_callTy call_tuple_of hg hm (by decide +kernel) (ha g hK) (he := he) (hpl := rfl)).imp fun σ H Q ⟨n, F, ρ, R, ok, hq, k⟩ =>
  ⟨n, F, ρ, _, ok, hq, fun n1 F1 H1 vs ds s1 ok1 r1 h1 => by
    match ds, r1, h1 with
    | [.lst zs], .cons r .nil, h1 =>
      obtain ⟨l, xs, rfl, e1, t1⟩ := r.lst ok1
      exact ⟨l, xs, rfl, .inl ⟨SqL.of e1, fun q hn => k n1 (upd F1 q _) _ q _ _ (s1.trans (ok1.sameF _ hn)) (ok1.alloc _ hn) upd_same (t1.mono (ok1.sameF _ hn)) h1⟩⟩⟩
/-! ### d[k], k in d -/
def pDGet (p q : TPE) : TPE := fun ρ n R => p ρ n fun d m => q ρ m fun e k => match d with
  | .dic ks es => (match dKey e with | some j => (match dGet ks es j with | some z => R z k | none => False) | none => False)
  | _ => False
theorem de_dget (hu : X.A.units + 64 < cLine) (ho : SE X o pa) (hi : SE X e pb) (hs : NoSl e := by intro _ _; rfl) : DE X (.Subscript o e pos) (pDGet pa pb) := fun g hK => (pe_dget (by omega) (ho g hK) (hi g hK) hs).imp fun σ H Q ⟨n, F, ρ, R, ok, hq, k⟩ => by
  refine ⟨n, F, ρ, _, ok, hq, fun n1 F1 H1 x d s1 ok1 r1 h1 => ⟨n1, F1, ρ, _, ok1, h1, fun n2 F2 H2 y d2 s2 ok2 r2 h2 => ?_⟩⟩
  replace r1 := r1.mono s2
  revert h2 r1
  cases d <;> intro h2 r1 <;> first | exact False.elim h2 | skip
  rename_i ks es
  have h2 : (match dKey d2 with | some j => (match dGet ks es j with | some z => R z n2 | none => False) | none => False) := h2
  split at h2
  · rename_i j hj
    split at h2
    · rename_i z hz
      obtain ⟨l, xs, rfl, e1, hl, t1⟩ := r1.dic ok2
      have ey := r2.key ok2 hj
      subst ey
      obtain ⟨v, hv, rv⟩ := (dGet_val (j := j) hl t1).1 z hz
      exact ⟨l, v, rfl, .inl ⟨_, j, .inl e1, rfl, hv.symm⟩, k n2 F2 H2 _ _ (s1.trans s2) ok2 rv h2⟩
    · exact h2.elim
  · exact h2.elim
def pDGetT (p q : TPE) : TPE := fun ρ n R => p ρ n fun d m => q ρ m fun e k => match d, e with
  | .dit ks es, .tup ds => (match dKeyL ds with | some j => (match dGet ks es j with | some z => R z k | none => False) | none => False)
  | _, _ => False
theorem de_dgetT (hu : X.A.units + 64 < cLine) (ho : SE X o pa) (hi : NE X e pb) (hs : NoSl e := by intro _ _; rfl) : DE X (.Subscript o e pos) (pDGetT pa pb) := fun g hK => (pe_dget (by omega) (ho g hK) (hi g hK) hs).imp fun σ H Q ⟨n, F, ρ, R, ok, hq, k⟩ => by
  refine ⟨n, F, ρ, _, ok, hq, fun n1 F1 H1 x d s1 ok1 r1 h1 => ⟨n1, F1, ρ, _, ok1, h1, fun n2 F2 H2 b2 xs2 ds2 s2 ok2 e2 r2 h2 => ?_⟩⟩
  replace r1 := r1.mono s2
  revert h2 r1
  cases d <;> intro h2 r1 <;> first | exact False.elim h2 | skip
  rename_i ks es
  have h2 : (match dKeyL ds2 with | some j => (match dGet ks es j with | some z => R z n2 | none => False) | none => False) := h2
  split at h2
  · rename_i j hj
    split at h2
    · rename_i z hz
      obtain ⟨l, xs, rfl, e1, hl, t1⟩ := r1.dit ok2
      have ey := r2.keys hj
      subst ey
      obtain ⟨v, hv, rv⟩ := (dGet_val (j := j) hl t1).1 z hz
      exact ⟨l, v, rfl, .inr ⟨_, j, b2, .inl e1, rfl, ok2.sub _ _ e2, hv.symm⟩, k n2 F2 H2 _ _ (s1.trans s2) ok2 rv h2⟩
    · exact h2.elim
  · exact h2.elim
/-- (..) in d, not in d, keys that are tuples -/
def pInT (neg : Bool) (p q : TPE) : TPE := fun ρ n R => p ρ n fun e m => q ρ m fun d k => match d, e with
  | .dit ks es, .tup ds => (match dKeyL ds with | some j => ks.length = es.length ∧ R (.bl (if neg then !hasK j ks else hasK j ks)) k | none => False)
  | _, _ => False
theorem de_inT (hu : X.A.units + 64 < cLine) (neg : Bool) {op : CmpOp} (hop : op = if neg then .NotIn else .In) (ha : NE X a pa) (hb : SE X b pb) (hm : behindInMarks op b = false := by rfl) : DE X (.Compare a [op] [b] pos) (pInT neg pa pb) ∧ DT X (.Compare a [op] [b] pos) (pB (pInT neg pa pb)) := by
  have hu1 : X.A.units + 1 < cLine := by omega
  have ho : OpR X (compareOp op) (fun x y H Q => ∃ a o, y = .ref a ∧ DGet H a x o ∧ Q (.bl (if neg then !o.isSome else o.isSome)) H) := by
    cases neg with
    | false => subst hop; exact op_inD hu1
    | true => subst hop; exact op_notInD hu1
  have go : ∀ {g : G} {σ : L2.St} {H : Hp} {Q : VK}, g.c.K = X.K → LE g (pInT neg pa pb) σ H Q → tOp (fun x y H Q => ∃ a o, y = .ref a ∧ DGet H a x o ∧ Q (.bl (if neg then !o.isSome else o.isSome)) H) (LN g pa) (LQ g pb) σ H Q := by
    intro g σ H Q hK ⟨n, F, ρ, R, ok, hq, k⟩
    refine ⟨n, F, ρ, _, ok, hq, fun n1 F1 H1 b1 xs1 ds1 s1 ok1 e1 r1 h1 => ⟨n1, F1, ρ, _, ok1, h1, fun n2 F2 H2 y d s2 ok2 r2 h2 => ?_⟩⟩
    revert h2 r2
    cases d <;> intro r2 h2 <;> first | exact False.elim h2 | skip
    rename_i ks es
    have h2 : (match dKeyL ds1 with | some j => ks.length = es.length ∧ R (.bl (if neg then !hasK j ks else hasK j ks)) n2 | none => False) := h2
    split at h2
    · rename_i j hj
      obtain ⟨l, xs, rfl, e3, hl, t1⟩ := r2.dit ok2
      have ey := r1.keys hj
      subst ey
      refine ⟨l, _, rfl, .inr ⟨_, j, b1, .inl e3, rfl, ok2.sub _ _ (s2 _ _ e1), rfl⟩, ?_⟩
      rw [some_dec hl t1]
      exact k n2 F2 H2 _ _ (s1.trans s2) ok2 (.bl _) h2.2
    · exact h2.elim
  exact ⟨fun g hK => (pe_cmpR ho (ha g hK) (hb g hK) hm).imp fun σ H Q h => go hK h, fun g hK => (pt_cmpR ho (ha g hK) (hb g hK) hm).imp fun σ H Q h => go hK (LE.bool h)⟩
theorem de_inTT (hu : X.A.units + 64 < cLine) (ha : NE X a pa) (hb : SE X b pb) (hm : behindInMarks .In b = false := by rfl) : DE X (.Compare a [.In] [b] pos) (pInT false pa pb) := (de_inT hu false rfl ha hb hm).1
theorem dt_inTT (hu : X.A.units + 64 < cLine) (ha : NE X a pa) (hb : SE X b pb) (hm : behindInMarks .In b = false := by rfl) : DT X (.Compare a [.In] [b] pos) (pB (pInT false pa pb)) := (de_inT hu false rfl ha hb hm).2
theorem de_notinTT (hu : X.A.units + 64 < cLine) (ha : NE X a pa) (hb : SE X b pb) (hm : behindInMarks .NotIn b = false := by rfl) : DE X (.Compare a [.NotIn] [b] pos) (pInT true pa pb) := (de_inT hu true rfl ha hb hm).1
theorem dt_notinTT (hu : X.A.units + 64 < cLine) (ha : NE X a pa) (hb : SE X b pb) (hm : behindInMarks .NotIn b = false := by rfl) : DT X (.Compare a [.NotIn] [b] pos) (pB (pInT true pa pb)) := (de_inT hu true rfl ha hb hm).2
/-! ### d[k] = v -/
theorem Ok.ownDic {g : G} {n : Nat} {F H : Hp} {σ : L2.St} {ρ : PEnv} {i : Nat} {ks : List Key} {ds : List D} (ok : Ok g n F H σ ρ) (h : ρ[i]? = some (.own (.dic ks ds))) : ∃ l xs, σ[i]? = some (some (.ref l)) ∧ H l = some (.dK (ks.zip xs)) ∧ ks.length = xs.length ∧ Reps g.c F xs ds := by
  obtain ⟨l, x, e1, e2, _, _, _, c⟩ := ok.cells i _ h
  cases c with
  | dic hl r => exact ⟨l, _, e1, e2, hl, r⟩
theorem Ok.ownDit {g : G} {n : Nat} {F H : Hp} {σ : L2.St} {ρ : PEnv} {i : Nat} {ks : List (List Key)} {ds : List D} (ok : Ok g n F H σ ρ) (h : ρ[i]? = some (.own (.dit ks ds))) : ∃ l xs, σ[i]? = some (some (.ref l)) ∧ H l = some (.dT (ks.zip xs)) ∧ ks.length = xs.length ∧ Reps g.c F xs ds := by
  obtain ⟨l, x, e1, e2, _, _, _, c⟩ := ok.cells i _ h
  cases c with
  | dit hl r => exact ⟨l, _, e1, e2, hl, r⟩
def pDPut (i : Nat) (q p : TPE) : TPS := fun P ρ n => match ρ[i]? with
  | some (.own (.dic ks es)) => p ρ n fun d m => q ρ m fun e k => (match dKey e with | some j => ks.length < sizeLine ∧ P.nx (ρ.set i (.own (.dic (dKeys ks j) (dVals ks es j d)))) k | none => False)
  | _ => False
theorem ds_dput {i : Nat} {pos' : Pos} (hu : X.A.units + 64 < cLine) (ho : PE X o (tVar i)) (hi : SE X a pb) (hv : DE X e p) (hs : swapsWith e (some (.Subscript o a pos')) pos.line X.env = pure false := by rfl) : DS X (.Assign [.Subscript o a pos'] e pos) (pDPut i pb p) := fun g hK => (ps_dput (by omega) ho (hi g hK) (hv g hK) hs).imp fun D σ H ⟨n, F, ρ, P, ok, h, k⟩ => by
  have h : pDPut i pb p P ρ n := h
  unfold pDPut at h
  split at h
  · rename_i ks es hi
    refine ⟨n, F, ρ, _, ok, h, fun n1 F1 H1 v d s1 ok1 r1 h1 => ?_⟩
    obtain ⟨l, xs, e1, e2, hl, t1⟩ := ok1.ownDic hi
    refine ⟨.ref l, e1, n1, F1, ρ, _, ok1, h1, fun n2 F2 H2 y d2 s2 ok2 r2 h2 => ?_⟩
    have h2 : (match dKey d2 with | some j => ks.length < sizeLine ∧ P.nx (ρ.set i (.own (.dic (dKeys ks j) (dVals ks es j d)))) n2 | none => False) := h2
    split at h2
    · rename_i j hj
      have ey := r2.key ok2 hj
      subst ey
      obtain ⟨l', xs', e1', e2', hl', t1'⟩ := ok2.ownDic hi
      rw [e1] at e1'
      cases e1'
      obtain ⟨ys, z1, z2, z3⟩ := put_zip (j := j) hl' t1' (r1.mono s2)
      refine ⟨l, _, rfl, .inl ⟨_, j, e2', rfl, by rw [List.length_zip, ← hl', Nat.min_self]; exact h2.1, rfl⟩, ?_⟩
      rw [z1]
      exact k.nx n2 F2 _ _ _ (s1.trans s2) (ok2.write hi e1 (.dic z2 z3)) h2.2
    · exact h2.elim
  · exact h.elim
def pDPutT (i : Nat) (q p : TPE) : TPS := fun P ρ n => match ρ[i]? with
  | some (.own (.dit ks es)) => p ρ n fun d m => q ρ m fun e k => (match e with | .tup ds => (match dKeyL ds with | some j => ks.length < sizeLine ∧ P.nx (ρ.set i (.own (.dit (dKeys ks j) (dVals ks es j d)))) k | none => False) | _ => False)
  | _ => False
theorem ds_dputT {i : Nat} {pos' : Pos} (hu : X.A.units + 64 < cLine) (ho : PE X o (tVar i)) (hi : NE X a pb) (hv : DE X e p) (hs : swapsWith e (some (.Subscript o a pos')) pos.line X.env = pure false := by rfl) : DS X (.Assign [.Subscript o a pos'] e pos) (pDPutT i pb p) := fun g hK => (ps_dput (by omega) ho (hi g hK) (hv g hK) hs).imp fun D σ H ⟨n, F, ρ, P, ok, h, k⟩ => by
  have h : pDPutT i pb p P ρ n := h
  unfold pDPutT at h
  split at h
  · rename_i ks es hi
    refine ⟨n, F, ρ, _, ok, h, fun n1 F1 H1 v d s1 ok1 r1 h1 => ?_⟩
    obtain ⟨l, xs, e1, e2, hl, t1⟩ := ok1.ownDit hi
    refine ⟨.ref l, e1, n1, F1, ρ, _, ok1, h1, fun n2 F2 H2 b2 xs2 ds2 s2 ok2 f2 r2 h2 => ?_⟩
    have h2 : (match dKeyL ds2 with | some j => ks.length < sizeLine ∧ P.nx (ρ.set i (.own (.dit (dKeys ks j) (dVals ks es j d)))) n2 | none => False) := h2
    split at h2
    · rename_i j hj
      have ey := r2.keys hj
      subst ey
      obtain ⟨l', xs', e1', e2', hl', t1'⟩ := ok2.ownDit hi
      rw [e1] at e1'
      cases e1'
      obtain ⟨ys, z1, z2, z3⟩ := put_zip (j := j) hl' t1' (r1.mono s2)
      refine ⟨l, _, rfl, .inr ⟨_, j, b2, e2', rfl, ok2.sub _ _ f2, by rw [List.length_zip, ← hl', Nat.min_self]; exact h2.1, rfl⟩, ?_⟩
      rw [z1]
      exact k.nx n2 F2 _ _ _ (s1.trans s2) (ok2.write hi e1 (.dit z2 z3)) h2.2
    · exact h2.elim
  · exact h.elim
/-! ### len of a dict -/
def oLenD : OL := fun ds R => match ds with | [.dic ks _] => R (.int ks.length) | _ => False
theorem de_lenD (hm : X.mg "len" = none) (hg : Gl X "len") (ha : SA X [e] ta) (he : starEach [e] X.env = (false, eval e X.env) :: starEach [] X.env := by rfl) : DE X (.Call (.Name "len" pf) [e] [] pos) (pCall oLenD ta) := by
  refine de_callB call_lenD (fun g n F H σ ρ xs ds R Q hK ok r q k => ?_) hg hm PySem.boot_len ha (he := he) (hpl := rfl)
  match ds, r, q with
  | [.dic ks es], .cons r .nil, q =>
    obtain ⟨l, xs, rfl, e1, hl, t1⟩ := r.dic ok
    refine ⟨l, _, rfl, e1, ?_⟩
    rw [List.length_zip, ← hl, Nat.min_self]
    exact k F H _ _ (Same.refl F) ok (.int _) q
end
end PL

/-! PL: several targets at once, ranges with a step, tuples by a number, sums of tuples. -/
namespace PL
open PySem PySem.Spec L2
/-! ### values of which some are one's own -/
abbrev TPM := PEnv → Nat → (List Cell → Nat → Prop) → Prop
inductive MO (n : Nat) (F H : Hp) (σ : L2.St) (ρ : PEnv) : G → List V → List Cell → Prop
  | nil {g : G} : Ok g n F H σ ρ → MO n F H σ ρ g [] []
  | sh {g : G} {v : V} {d : D} {vs : List V} {cs : List Cell} : Rep g.c F v d → MO n F H σ ρ g vs cs → MO n F H σ ρ g (v :: vs) (.sh d :: cs)
  | own {g : G} {a : Addr} {x : HO} {d : D} {vs : List V} {cs : List Cell} : g.H0 a = none → ¬ g.c.fp a → g.pin a = none → Cont g.c F x d → MO n F H σ ρ (g.pinned a x) vs cs → MO n F H σ ρ g (.ref a :: vs) (.own d :: cs)
def LM (g : G) (p : TPM) : TA := fun σ H Q => ∃ n F ρ R, Ok g n F H σ ρ ∧ p ρ n R ∧ ∀ n' F' H' vs cs, Same F F' → MO n' F' H' σ ρ g vs cs → R cs n' → Q vs H'
def DM (X : Cx) (es : List Expr) (p : TPM) : Prop := ∀ g : G, g.c.K = X.K → PA X es (LM g p)
def XM (K : PySem.W.Frag) (t : TPM) : TA := fun σ H Q => ∃ g : G, g.c.K = K ∧ LM g t σ H Q
def pMNil : TPM := fun _ n R => R [] n
def pMSh (p : TPE) (t : TPM) : TPM := fun ρ n R => p ρ n fun d m => t ρ m fun cs k => R (.sh d :: cs) k
def pMOwn (p : TPE) (t : TPM) : TPM := fun ρ n R => p ρ n fun d m => t ρ m fun cs k => R (.own d :: cs) k
section
variable {X : Cx} {e a b c o tg : Expr} {es : List Expr} {p pa pb pc : TPE} {pos pf p2 : Pos} {ta tk : TPA} {tm : TPM}
theorem dm_nil : DM X [] pMNil := fun g hK => pa_nil.imp fun σ H Q ⟨n, F, ρ, R, ok, hq, k⟩ => k n F H _ _ (Same.refl F) (.nil ok) hq
theorem dm_sh (h : DE X e p) (hr : DM X es tm) (hs : starEach (e :: es) X.env = (false, eval e X.env) :: starEach es X.env := by rfl) : DM X (e :: es) (pMSh p tm) := fun g hK => (pa_cons (h g hK) (hr g hK) hs).imp fun σ H Q ⟨n, F, ρ, R, ok, hq, k⟩ =>
  ⟨n, F, ρ, _, ok, hq, fun n1 F1 H1 x d s1 ok1 r1 h1 => ⟨n1, F1, ρ, _, ok1, h1, fun n2 F2 H2 vs ds s2 ok2 h2 => k n2 F2 H2 _ _ (s1.trans s2) (.sh (r1.mono s2) ok2) h2⟩⟩
theorem dm_own (h : FE X e p) (hr : DM X es tm) (hs : starEach (e :: es) X.env = (false, eval e X.env) :: starEach es X.env := by rfl) : DM X (e :: es) (pMOwn p tm) := fun g hK =>
  (pa_cons (h g hK) (⟨fun pos pins s σ H Q I ⟨g', hK', q⟩ => (hr g' hK').run pos pins s σ H Q I q⟩ : PA X es (XM X.K tm)) hs).imp fun σ H Q ⟨n, F, ρ, R, ok, hq, k⟩ =>
  ⟨n, F, ρ, _, ok, hq, fun n1 F1 H1 q x d s1 ok1 hn hc h1 => ⟨g.pinned q x, hK, n1, F1, ρ, _, ok1.pinNew x hn, h1, fun n2 F2 H2 vs ds s2 ok2 h2 => k n2 F2 H2 _ _ (s1.trans s2) (.own (ok1.freeH0 hn) (ok1.nofp hn) (ok1.freeP hn) (hc.mono s2) ok2) h2⟩⟩
def setV (σ : L2.St) : List Nat → List V → L2.St
  | i :: is, v :: vs => (setV σ is vs).set i (some v)
  | _, _ => σ
def setC (ρ : PEnv) : List Nat → List Cell → PEnv
  | i :: is, v :: vs => (setC ρ is vs).set i v
  | _, _ => ρ
theorem setC_nil (ρ : PEnv) (is : List Nat) : setC ρ is [] = ρ := by cases is <;> rfl
theorem setC_cons (ρ : PEnv) (i : Nat) (is : List Nat) (c : Cell) (cs : List Cell) : setC ρ (i :: is) (c :: cs) = (setC ρ is cs).set i c := rfl
theorem Ok.unpinOwn {g : G} {n : Nat} {F H : Hp} {σ : L2.St} {ρ : PEnv} {q : Addr} {x : HO} {d : D} (ok : Ok (g.pinned q x) n F H σ ρ) (h0 : g.H0 q = none) (hf : ¬ g.c.fp q) (hp : g.pin q = none) (hc : Cont g.c F x d) (i : Nat) : Ok g n F H (σ.set i (some (.ref q))) (ρ.set i (.own d)) := by
  obtain ⟨p1, p2, p3⟩ := ok.pinAt
  have k := (ok.unpin h0 hp).allocH (p := q) x (erase_same H q)
  rw [upd_erase p1] at k
  refine k.setOwn i p1 p2 h0 ⟨hf, hp⟩ hc fun j e hj _ hz => ?_
  obtain ⟨o, y, e1, e2, e3, e4, e5, e6⟩ := ok.cells j _ hj
  rw [hz] at e1
  cases e1
  have : (g.pinned q x).pin q = none := e5.2
  rw [show (g.pinned q x).pin q = some x from upd_same] at this
  cases this
theorem MO.put {n : Nat} {F H : Hp} {σ : L2.St} {ρ : PEnv} {g : G} {vs : List V} {cs : List Cell} (h : MO n F H σ ρ g vs cs) : ∀ is : List Nat, is.length = vs.length → Ok g n F H (setV σ is vs) (setC ρ is cs) := by
  induction h with
  | nil ok => intro is hl; cases is with | nil => exact ok | cons i is => simp at hl
  | sh r h ih =>
    intro is hl
    cases is with
    | nil => simp at hl
    | cons i is => exact (ih is (by simpa using hl)).set i r
  | own h0 hf hp hc h ih =>
    intro is hl
    cases is with
    | nil => simp at hl
    | cons i is => exact (ih is (by simpa using hl)).unpinOwn h0 hf hp hc i
theorem MO.alloc {n : Nat} {F H : Hp} {σ : L2.St} {ρ : PEnv} {g : G} {vs : List V} {cs : List Cell} (h : MO n F H σ ρ g vs cs) {q : Addr} (o : HO) (hq : H q = none) : MO n F (upd H q o) σ ρ g vs cs := by
  induction h with
  | nil ok => exact .nil (ok.allocH o hq)
  | sh r h ih => exact .sh r ih
  | own h0 hf hp hc h ih => exact .own h0 hf hp hc ih
theorem MO.len {n : Nat} {F H : Hp} {σ : L2.St} {ρ : PEnv} {g : G} {vs : List V} {cs : List Cell} (h : MO n F H σ ρ g vs cs) : vs.length = cs.length := by
  induction h with
  | nil ok => rfl
  | sh r h ih => simp [ih]
  | own h0 hf hp hc h ih => simp [ih]
/-- a, b, .. = e1, e2, ..: some of them one's own -/
def pParM (is : List Nat) (t : TPM) : TPS := fun P ρ n => t ρ n fun cs m => cs.length = is.length ∧ P.nx (setC ρ is cs) m
theorem ds_parM2 {i j : Nat} {x y : Str} {px py pt : Pos} {kt k2 pt2} (hN : X.N.Nodup) (hij : i ≠ j) (ha : DM X [a, b] tm) (hw : swappedStores [.Tuple [.Name x px, .Name y py] kt pt] (.Tuple [a, b] k2 pt2) X.env = pure (some [x, y])) (hi : X.N[i]? = some x := by rfl) (hj : X.N[j]? = some y := by rfl)
    (hx : X.env.scope.names.lookup x = some .local := by rfl) (hy : X.env.scope.names.lookup y = some .local := by rfl) (hc : X.calm = true := by rfl) (hs : swapsWithSole [.Tuple [.Name x px, .Name y py] kt pt] (.Tuple [a, b] k2 pt2) pos.line X.env = pure false := by rfl) :
    DS X (.Assign [.Tuple [.Name x px, .Name y py] kt pt] (.Tuple [a, b] k2 pt2) pos) (pParM [i, j] tm) := fun g hK => (ps_par hc hN hi hj hij hx hy (ha g hK) hw hs).imp fun D σ H ⟨n, F, ρ, P, ok, h, k⟩ => by
  refine ⟨n, F, ρ, _, ok, h, fun n1 F1 H1 vs cs s1 m1 h1 => ?_⟩
  have hl := m1.len
  have h2 := h1.1
  match vs, hl with
  | [v, w], _ =>
    refine ⟨v, w, rfl, ?_⟩
    have := m1.put [i, j] rfl
    rw [show setV σ [i, j] [v, w] = (σ.set i (some v)).set j (some w) from (List.set_comm _ _ (Ne.symm hij))] at this
    exact k.nx n1 F1 H1 _ _ s1 this h1.2
  | [], hl => rw [← hl] at h2; cases h2
  | [_], hl => rw [← hl] at h2; cases h2
  | _ :: _ :: _ :: _, hl => rw [← hl] at h2; cases h2
theorem ds_parM3 {i j l : Nat} {x y z : Str} {px py pz pt : Pos} {kt k2 pt2} (hN : X.N.Nodup) (hij : i ≠ j) (hil : i ≠ l) (hjl : j ≠ l) (ha : DM X [a, b, c] tm) (hw : swappedStores [.Tuple [.Name x px, .Name y py, .Name z pz] kt pt] (.Tuple [a, b, c] k2 pt2) X.env = pure (some [x, y, z]))
    (hi : X.N[i]? = some x := by rfl) (hj : X.N[j]? = some y := by rfl) (hl : X.N[l]? = some z := by rfl)
    (hx : X.env.scope.names.lookup x = some .local := by rfl) (hy : X.env.scope.names.lookup y = some .local := by rfl) (hz : X.env.scope.names.lookup z = some .local := by rfl) (hc : X.calm = true := by rfl) (hs : swapsWithSole [.Tuple [.Name x px, .Name y py, .Name z pz] kt pt] (.Tuple [a, b, c] k2 pt2) pos.line X.env = pure false := by rfl) :
    DS X (.Assign [.Tuple [.Name x px, .Name y py, .Name z pz] kt pt] (.Tuple [a, b, c] k2 pt2) pos) (pParM [i, j, l] tm) := fun g hK => (ps_par3 hc hN hi hj hl hij hil hjl hx hy hz (ha g hK) hw hs).imp fun D σ H ⟨n, F, ρ, P, ok, h, k⟩ => by
  refine ⟨n, F, ρ, _, ok, h, fun n1 F1 H1 vs cs s1 m1 h1 => ?_⟩
  have hln := m1.len
  have h2 := h1.1
  match vs, hln with
  | [u, v, w], _ =>
    refine ⟨u, v, w, rfl, ?_⟩
    have := m1.put [i, j, l] rfl
    rw [show setV σ [i, j, l] [u, v, w] = ((σ.set i (some u)).set j (some v)).set l (some w) from by
      show ((σ.set l (some w)).set j (some v)).set i (some u) = _
      rw [List.set_comm _ _ (Ne.symm hjl), List.set_comm _ _ (Ne.symm hil), List.set_comm _ _ (Ne.symm hij)]] at this
    exact k.nx n1 F1 H1 _ _ s1 this h1.2
  | [], hl => rw [← hl] at h2; cases h2
  | [_], hl => rw [← hl] at h2; cases h2
  | [_, _], hl => rw [← hl] at h2; cases h2
  | _ :: _ :: _ :: _ :: _, hl => rw [← hl] at h2; cases h2
/-- names by a tuple, from the left -/
def fwd (σ : L2.St) : List Nat → List V → L2.St
  | i :: is, v :: vs => fwd (σ.set i (some v)) is vs
  | _, _ => σ
theorem setV_comm (σ : L2.St) (i : Nat) (v : V) : ∀ (is : List Nat) (vs : List V), i ∉ is → setV (σ.set i (some v)) is vs = (setV σ is vs).set i (some v)
  | [], _, _ => rfl
  | _ :: _, [], _ => rfl
  | j :: is, w :: vs, h => by
    have h1 : j ≠ i := fun z => h (z ▸ List.mem_cons_self)
    show (setV _ is vs).set j _ = ((setV σ is vs).set j _).set i _
    rw [setV_comm σ i v is vs (fun z => h (List.mem_cons_of_mem _ z)), List.set_comm _ _ (Ne.symm h1)]
theorem fwd_setV (σ : L2.St) : ∀ (is : List Nat) (vs : List V), is.Nodup → fwd σ is vs = setV σ is vs
  | [], _, _ => rfl
  | _ :: _, [], _ => rfl
  | i :: is, v :: vs, h => by
    obtain ⟨h1, h2⟩ := List.nodup_cons.mp h
    show fwd (σ.set i _) is vs = (setV σ is vs).set i _
    rw [fwd_setV _ is vs h2, setV_comm σ i v is vs h1]
inductive NameGs (X : Cx) : List Expr → List Nat → Prop
  | nil : NameGs X [] []
  | cons {e : Expr} {es : List Expr} {i : Nat} {is : List Nat} : PG X e (gName i) → ((assignEach (e :: es) X.env).map (·.2) = assign e X.env :: (assignEach es X.env).map (·.2)) → NameGs X es is → NameGs X (e :: es) (i :: is)
def gFwd (is : List Nat) : TGs := fun vs σ H Q => vs.length = is.length ∧ Q (fwd σ is vs) H
theorem NameGs.pgs {es : List Expr} {is : List Nat} (h : NameGs X es is) : PGs X es (gFwd is) := by
  induction h with
  | nil => exact pgs_nil.imp fun vs σ H Q ⟨h1, h2⟩ => ⟨List.eq_nil_of_length_eq_zero h1, by cases List.eq_nil_of_length_eq_zero h1; exact h2⟩
  | @cons e es i is h1 h2 _ ih =>
    refine (pgs_cons h1 ih h2).imp fun vs σ H Q ⟨q1, q2⟩ => ?_
    cases vs with
    | nil => cases q1
    | cons v vs => exact ⟨v, vs, rfl, by simpa using q1, q2⟩
theorem ds_parMN {is : List Nat} {tgs : List Expr} {kt k2 : Nat} {pt pt2 : Pos} {m : Nat} (hnd : is.Nodup) (ha : DM X es tm) (hg : NameGs X tgs is) (hm : is.length = m := by rfl) (hz : is.length ≤ sizeLine := by decide) (hc : X.calm = true := by rfl) (hn : (assignEach tgs X.env).length = m := by rfl) (hst : (assignEach tgs X.env).findIdx? (·.1) = none := by rfl)
    (hs : swapsWithSole [.Tuple tgs kt pt] (.Tuple es k2 pt2) pos.line X.env = pure false := by rfl) (hw : swappedStores [.Tuple tgs kt pt] (.Tuple es k2 pt2) X.env = pure none := by rfl) (h1 : (assignEach [.Tuple tgs kt pt] X.env).map (·.2) = [assign (.Tuple tgs kt pt) X.env] := by rfl) :
    DS X (.Assign [.Tuple tgs kt pt] (.Tuple es k2 pt2) pos) (pParM is tm) := fun g hK =>
  (ps_asg (pe_tup (ha g hK)) (pg_tup hc hg.pgs hn hst) hs hw h1).imp fun D σ H ⟨n, F, ρ, P, ok, h, k⟩ => by
  refine ⟨n, F, ρ, _, ok, h, fun n1 F1 H1 vs cs s1 m1 h1 => ?_⟩
  have hln := m1.len
  obtain ⟨h2, h3⟩ := h1
  refine ⟨?_, fun q hq => ⟨q, vs, rfl, SqT.of upd_same, by rw [hln, h2, hm], ⟨by rw [hln, h2], ?_⟩⟩⟩
  · rw [hln, h2]; exact hz
  · rw [fwd_setV _ _ _ hnd]
    exact k.nx n1 F1 _ _ _ s1 ((m1.alloc _ hq).put is (by rw [hln, h2])) h3
end
end PL

/-! PL: ranges that go down, tuples by a number, sums of tuples, global tuples, further operators. -/
namespace PL
open PySem PySem.Spec L2 PyProof.Rows
theorem tuple_mul1 (l : Addr) (items : Array Value) (n : Nat) (dd : Option Addr) (sl : Array (Option Value)) (u : Tok) :
    Meets (Builtin.«tuple.__mul__» ⟨[.ref l, .int 1 u], []⟩) (fun _ R s => s.heap.get? l = some { cls := .type "tuple", dict := dd, data := .seq items n, slots := sl } ∧ R (.ok (.ret (Value.ref l))) s) :=
  .of_wp fun prog w A R s h => by
    obtain ⟨hp, g, d, tk, os⟩ := s
    obtain ⟨hl, h⟩ := h
    have f1 := AutoSeq1.idx_int
    wp_walk using wpAny_loadPart' hl
    exact ⟨_, rfl, h⟩
section
variable {X : Cx} {e a b c o tg : Expr} {es : List Expr} {p pa pb pc : TPE} {pos pf p2 : Pos} {ta tk : TPA} {tm : TPM}
theorem op_repT1 : OpR X (binaryOp .Mult) (fun x y H Q => ∃ l xs, x = .ref l ∧ y = .int 1 ∧ SqT X.K H l xs ∧ Q (.ref l) H) := by
  intro pins s σ H x y v u Q I rx ry h
  obtain ⟨l, xs, rfl, rfl, hT, q⟩ := h
  cases rx
  obtain ⟨t, rfl⟩ := ry
  obtain ⟨its, r, ⟨⟨cls, dd, data, sl⟩, ho, hc, n, hd⟩, hs⟩ := I.tuple hT
  simp only at hc hd
  subst hc hd
  exact wpAny_binaryOp_repeat_ref (T := "tuple") (U := "int") (by decide) ⟨_, ho, rfl⟩ (fun s' => typeIs_int s' 1 t) noFill_tuple_mul F.fills_int_mul F.slot_int_rmul repeat_tuple F.slot_int_index.lookup
    (call_meets F.slot_int_rmul (typeIs_int s 1 t) F.entry_int_rmul (F.args_int_rmul_2 _ _) (int_rmul_tuple 1 t l its.toArray n dd sl)
      ⟨ho, rfl, ⟨_, ho, rfl⟩, call_meets F.slot_tuple_mul ⟨_, ho, rfl⟩ F.entry_tuple_mul (F.args_tuple_mul_2 _ _) (tuple_mul1 l its.toArray n dd sl t) ⟨ho, .ref l, H, I, rfl, q⟩⟩)
/-- tuple * n -/
def oMulT : O2 := fun d e R => match d, e with
  | .tup ds, .int k => ds ≠ [] ∧ 1 ≤ k ∧ k ≤ 1000 ∧ ds.length ≤ 1000 ∧ R (.tup (List.replicate k.toNat ds).flatten)
  | _, _ => False
theorem de_mulT (ha : SE X a pa) (hb : SE X b pb) : DE X (.BinOp a .Mult b pos) (pBin oMulT pa pb) := by
  refine de_bin (op_repT1.or op_repT) (fun g n F H σ ρ x y d e R Q hK ok r1 r2 q k => ?_) ha hb
  have q : oMulT d e R := q
  unfold oMulT at q
  split at q
  · rename_i ds kk _
    obtain ⟨q0, q1, q2, q3, q4⟩ := q
    obtain ⟨l, xs, rfl, h1, s1, t1⟩ := r1.tup ok
    rw [hK] at h1
    by_cases hk : kk = 1
    · subst hk
      refine .inl ⟨l, xs, rfl, r2.int ok, h1, k F H _ _ (Same.refl F) ok t1 ?_⟩
      simpa using q4
    · refine .inr ⟨l, kk, xs, rfl, r2.int ok, h1, fun z => ?_, by omega, q2, by rw [s1.length]; exact q3, fun p hp => ?_⟩
      · subst z; cases s1; exact q0 rfl
      · exact k (upd F p _) _ _ _ (ok.sameF _ hp) (ok.alloc _ hp) (.tup (SqT.of upd_same) ((s1.rep _).mono (ok.sameF _ hp))) q4
  · exact q.elim
/-! ### sums -/
theorem cr_sumT (hc : X.calm = true) : CallR X (.builtin "sum") (fun vs H Q => ∃ (a : Addr) (ns : List Int), vs = [V.ref a] ∧ SqT X.K H a (ns.map V.int) ∧ Q (.int ns.sum) H) := by
  intro pins s σ H vs us Q I r h
  obtain ⟨a, ns, rfl, hs, q⟩ := h
  obtain ⟨its, rv, hl, _⟩ := I.tuple hs
  rw [Vals.ref1 r]
  have hi := rv.ints
  obtain ⟨xs, e⟩ := hi.allInts.items
  have hn : numsOf (intItems xs).toList = ns := by rw [← e]; exact hi.numsOf
  rw [nums_intItems] at hn
  have hl' : s.heap.IsTuple a its.toArray := hl
  rw [e] at hl'
  refine PySem.W.ktm_sumG (I.ok.hd hc) hl' fun h' tk t' hk => ⟨.int _, H, I.kept hk, ⟨t', ?_⟩, q⟩
  rw [preSum_eq, List.take_of_length_le (by simp), hn]
def oSumA : OL := fun ds R => match ds with
  | [.lst xs] => (match asInts xs with | some bs => R (.int bs.sum) | none => False)
  | [.tup xs] => (match asInts xs with | some bs => R (.int bs.sum) | none => False)
  | _ => False
theorem de_sumA (hm : X.mg "sum" = none) (hg : Gl X "sum") (ha : SA X [e] ta) (hc : X.calm = true := by rfl) (he : starEach [e] X.env = (false, eval e X.env) :: starEach [] X.env := by rfl) : DE X (.Call (.Name "sum" pf) [e] [] pos) (pCall oSumA ta) := by
  refine de_callB ((cr_sum hc).or (cr_sumT hc)) (fun g n F H σ ρ xs ds R Q hK ok r q k => ?_) hg hm (by decide +kernel) ha (he := he) (hpl := rfl)
  match ds, r, q with
  | [.lst zs], .cons r .nil, q =>
    obtain ⟨l, xs, rfl, e1, t1⟩ := r.lst ok
    have q : (match asInts zs with | some bs => R (.int bs.sum) | none => False) := q
    split at q
    · rename_i bs hb
      rw [t1.intsV hb] at e1
      exact .inl ⟨l, bs, rfl, SqL.of e1, k F H _ _ (Same.refl F) ok (.int _) q⟩
    · exact q.elim
  | [.tup zs], .cons r .nil, q =>
    obtain ⟨l, xs, rfl, e1, t1, _⟩ := r.tup ok
    rw [hK] at e1
    have q : (match asInts zs with | some bs => R (.int bs.sum) | none => False) := q
    split at q
    · rename_i bs hb
      rw [t1.intsV hb] at e1
      exact .inr ⟨l, bs, rfl, e1, k F H _ _ (Same.refl F) ok (.int _) q⟩
    · exact q.elim
/-! ### range(a, b, -1) -/
def downD (lo : Int) (n : Nat) : List D := (List.range n).map fun (i : Nat) => .int (lo + (i : Int) * -1)
theorem downD_zero (lo : Int) : downD lo 0 = [] := rfl
theorem downD_succ (lo : Int) (n : Nat) : downD lo (n + 1) = .int lo :: downD (lo - 1) n := by
  unfold downD
  rw [List.range_succ_eq_map, List.map_cons, List.map_map]
  congr 1
  · simp
  · apply List.map_congr_left
    intro i _
    simp only [Function.comp]
    congr 1
    omega
theorem downD_len (lo : Int) (n : Nat) : (downD lo n).length = n := by unfold downD; rw [List.length_map, List.length_range]
theorem walk_down {g : G} {F : Hp} (lo : Int) (n : Nat) : ∀ g' m F2 H2 σ2 ρ2, g'.c = g.c → Same F F2 → Ok g' m F2 H2 σ2 ρ2 → (Itc lo (-1) n).stop (downD lo n).length H2 ∧
    ∀ i d, (downD lo n)[i]? = some d → (Itc lo (-1) n).go i H2 ∧ ∀ x H3, (Itc lo (-1) n).yld i H2 x H3 → ∃ F3, Same F2 F3 ∧ Ok g' m F3 H3 σ2 ρ2 ∧ Rep g.c F3 x d := by
  intro g' m F2 H2 σ2 ρ2 hc s2 ok2
  have hl := downD_len lo n
  refine ⟨by rw [hl]; exact Nat.le_refl _, fun i d hd => ?_⟩
  have hi : i < n := by rw [← hl]; exact lt_of_get hd
  refine ⟨hi, fun x H3 y => ?_⟩
  obtain ⟨rfl, rfl⟩ := y
  unfold downD at hd
  rw [List.getElem?_map, List.getElem?_range hi] at hd
  cases hd
  exact ⟨F2, Same.refl _, ok2, .int _⟩
def pRangeD (t : TPA) : TPA := fun ρ n S => t ρ n fun ds m => match ds with
  | [.int i, .int j, .int k] => (-(2 ^ 62) ≤ i ∧ i < 2 ^ 62 ∧ -(2 ^ 62) ≤ j ∧ j < 2 ^ 62) ∧ k = -1 ∧ S (downD i (i - j).toNat) m
  | _ => False
theorem di_rangeD {pf : Pos} (hm : X.mg "range" = none) (hg : Gl X "range") (ha : DA X [a, b, c] ta) (hs : starEach [a, b, c] X.env = (false, eval a X.env) :: starEach [b, c] X.env := by rfl) (hpl : (backTo pos (starEach [b, c] X.env)).any (·.1) = false := by rfl) : DI X tg (.Call (.Name "range" pf) [a, b, c] [] pos) (pRangeD ta) := fun g hK => (pi_range3 hg hm (ha g hK) hs hpl).imp fun σ H R ⟨n, F, ρ, S, ok, h, k⟩ =>
  ⟨n, F, ρ, _, ok, h, fun n1 F1 H1 vs ds s1 ok1 r1 h1 => by
    match ds, r1, h1 with
    | [.int i, .int j, .int l], .cons (.int _) (.cons (.int _) (.cons (.int _) .nil)), ⟨⟨b1, b2, b3, b4⟩, e, h1⟩ =>
      subst e
      exact ⟨i, j, -1, _, rfl, RgC.neg b1 b2 b3 b4, k n1 F1 H1 _ _ s1 ok1 h1 (walk_down i _)⟩⟩
/-! ### further operators -/
theorem ds_augMul {i : Nat} {x : Str} {pos' : Pos} (hN : X.N.Nodup) (hx : Loc X.env.scope x) (he : SE X e p) (hi : X.N[i]? = some x := by rfl) (hf : X.fn x = true ∨ X.env.scope.names.lookup x = some .local := by first | exact .inl rfl | exact .inr rfl) :
    DS X (.AugAssign (.Name x pos') .Mult e pos) (pAug i (oI fun i j R => CMul i j ∧ R (.int (i * j))) p) := ds_aug iop_mul (op_rI fun _ _ _ _ => .int _) hN hx he hi hf
theorem o_augm_int (i j : Int) (Q : D → Prop) : oI (fun i j R => CMul i j ∧ R (.int (i * j))) (.int i) (.int j) Q = (CMul i j ∧ Q (.int (i * j))) := rfl
def isNon : D → Bool | .non => true | _ => false
def oIsN (neg : Bool) : O2 := fun d e R => match e with | .non => R (.bl (if neg then !isNon d else isNon d)) | _ => False
theorem RR.isNon {g : G} {F : Hp} {σ : L2.St} {ρ : PEnv} {x : V} {d : D} {n : Nat} {H : Hp} (ok : Ok g n F H σ ρ) (h : RR g F σ ρ x d) : decide (x = V.non) = isNon d := by
  rcases h with h | ⟨i, hi, hs⟩
  · cases h <;> rfl
  · obtain ⟨a, o, e1, _, _, _, _, z⟩ := ok.cells i _ hi
    rw [hs] at e1
    cases e1
    cases z <;> rfl
theorem opp_isN {K : PySem.W.Frag} (neg : Bool) : OpP K (fun x y H Q => y = .non ∧ Q (.bl (if neg then !decide (x = .non) else decide (x = .non))) H) (oIsN neg) := fun g n F H σ ρ x y d e R Q hK ok r1 r2 q k => by
  have q : oIsN neg d e R := q
  unfold oIsN at q
  split at q
  · refine ⟨r2.non ok, ?_⟩
    rw [r1.isNon ok]
    exact k F H _ _ (Same.refl F) ok (.bl _) q
  · exact q.elim
theorem de_is (ha : SE X a pa) (hb : SE X b pb) : DE X (.Compare a [.Is] [b] pos) (pBin (oIsN false) pa pb) := de_cmp op_isN (opp_isN false) ha hb (nomark _)
theorem dt_is (ha : SE X a pa) (hb : SE X b pb) : DT X (.Compare a [.Is] [b] pos) (pB (pBin (oIsN false) pa pb)) := dt_cmp op_isN (opp_isN false) ha hb (nomark _)
theorem de_isnot (ha : SE X a pa) (hb : SE X b pb) : DE X (.Compare a [.IsNot] [b] pos) (pBin (oIsN true) pa pb) := de_cmp op_notN (opp_isN true) ha hb (nomark _)
theorem dt_isnot (ha : SE X a pa) (hb : SE X b pb) : DT X (.Compare a [.IsNot] [b] pos) (pB (pBin (oIsN true) pa pb)) := dt_cmp op_notN (opp_isN true) ha hb (nomark _)
/-- a < b < c -/
def pChain (o o' : O2) (a b c : TPE) : TPE := fun ρ n R => a ρ n fun d n1 => b ρ n1 fun e n2 => o d e fun z => match z with
  | .bl t => if t = true then c ρ n2 fun f n3 => o' e f fun w => R w n3 else R (.bl false) n2
  | _ => False
theorem LQ.chain {g : G} {r r' : R2} {o o' : O2} (hp : OpP g.c.K r o) (hp' : OpP g.c.K r' o') {σ : L2.St} {H : Hp} {Q : VK} (h : LE g (pChain o o' pa pb pc) σ H Q) : tChain r r' (LQ g pa) (LQ g pb) (LQ g pc) σ H Q := by
  obtain ⟨n, F, ρ, R, ok, hq, k⟩ := h
  refine ⟨n, F, ρ, _, ok, hq, fun n1 F1 H1 x d s1 ok1 r1 h1 => ⟨n1, F1, ρ, _, ok1, h1, fun n2 F2 H2 y e s2 ok2 r2 h2 => ?_⟩⟩
  refine hp g n2 F2 H2 σ ρ x y d e _ _ rfl ok2 (r1.mono s2) r2 h2 fun F3 H3 v z s3 ok3 r3 h3 => ?_
  revert h3 r3
  cases z <;> intro r3 h3 <;> first | exact False.elim h3 | skip
  rename_i t
  cases r3
  refine ⟨t, rfl, ?_⟩
  cases t with
  | false => exact k n2 F3 H3 _ _ (s1.trans (s2.trans s3)) ok3 (.bl _) h3
  | true =>
    exact ⟨n2, F3, ρ, _, ok3, h3, fun n4 F4 H4 w f s4 ok4 r4 h4 => hp' g n4 F4 H4 σ ρ y w e f _ Q rfl ok4 ((r2.mono s3).mono s4) r4 h4 fun F5 H5 v z s5 ok5 r5 h5 => k n4 F5 H5 v z (s1.trans (s2.trans (s3.trans (s4.trans s5)))) ok5 r5 h5⟩
theorem de_chain {op op' : CmpOp} {r r' : R2} {o o' : O2} (ho : OpR X (compareOp op) r) (ho' : OpR X (compareOp op') r') (hp : OpP X.K r o) (hp' : OpP X.K r' o') (ha : SE X a pa) (hb : SE X b pb) (hc : SE X c pc) (hm : lastMarks [op, op'] [b, c] = false) : DE X (.Compare a [op, op'] [b, c] pos) (pChain o o' pa pb pc) ∧ DT X (.Compare a [op, op'] [b, c] pos) (pB (pChain o o' pa pb pc)) :=
  ⟨fun g hK => (pe_chain ho ho' (ha g hK) (hb g hK) (hc g hK) hm).imp fun σ H Q h => LQ.chain (by rw [hK]; exact hp) (by rw [hK]; exact hp') h,
   fun g hK => (pt_chain ho ho' (ha g hK) (hb g hK) (hc g hK) hm).imp fun σ H Q h => LQ.chain (by rw [hK]; exact hp) (by rw [hK]; exact hp') (LE.bool h)⟩
theorem opp_le {K : PySem.W.Frag} : OpP K (rI0 fun i j => V.bl (decide (i ≤ j))) oLe := op_rI0 fun _ _ _ _ => .bl _
theorem opp_ltI {K : PySem.W.Frag} : OpP K (rI0 fun i j => V.bl (decide (i < j))) (oI fun i j R => R (.bl (decide (i < j)))) := op_rI0 fun _ _ _ _ => .bl _
def oLtI : O2 := oI fun i j R => R (.bl (decide (i < j)))
theorem o_ltI (i j : Int) (Q : D → Prop) : oLtI (.int i) (.int j) Q = Q (.bl (decide (i < j))) := rfl
/-- a <= b < c, ints -/
theorem de_lelt (ha : SE X a pa) (hb : SE X b pb) (hc : SE X c pc) (hm : lastMarks [.LtE, .Lt] [b, c] = false := by with_unfolding_all rfl) : DE X (.Compare a [.LtE, .Lt] [b, c] pos) (pChain oLe oLtI pa pb pc) := (de_chain op_le op_lt opp_le opp_ltI ha hb hc hm).1
theorem dt_lelt (ha : SE X a pa) (hb : SE X b pb) (hc : SE X c pc) (hm : lastMarks [.LtE, .Lt] [b, c] = false := by with_unfolding_all rfl) : DT X (.Compare a [.LtE, .Lt] [b, c] pos) (pB (pChain oLe oLtI pa pb pc)) := (de_chain op_le op_lt opp_le opp_ltI ha hb hc hm).2
/-! ### a tuple of the module -/
theorem de_gtup {x : Str} {q : Addr} {xs : List V} {ds : List D} (hg : Gl X x) (hm : X.mg x = some (.ref q)) (hq : SqT X.K (fun _ => none) q xs) (hr : ∀ c F, Reps c F xs ds) (hd : (x == ("__debug__" : Str)) = false := by decide) : DE X (.Name x pos) (pC (.tup ds)) := fun g hK => (pe_glob (v := .ref q) hg hm rfl hd).imp fun σ H Q ⟨n, F, ρ, R, ok, hp, k⟩ => by
  refine k n F H _ _ (Same.refl F) ok (.tup ?_ (hr _ _)) hp
  rw [hK]
  rcases hq with hq | hq
  · rcases hq with hq | ⟨o, hq⟩ <;> cases hq
  · exact .inr hq
end
section
variable (ρ : PEnv) (n : Nat) (R : D → Nat → Prop) (Q : D → Prop) (W : Bool → Nat → Prop) (Z : List D → Nat → Prop) (C : List Cell → Nat → Prop) (P : Post) (p q r : TPE) (t : TPA) (tm : TPM) (o o' : O2)
theorem q_dget : pDGet p q ρ n R = p ρ n fun d m => q ρ m fun e k => match d with
  | .dic ks es => (match dKey e with | some j => (match dGet ks es j with | some z => R z k | none => False) | none => False)
  | _ => False := rfl
theorem q_dgett : pDGetT p q ρ n R = p ρ n fun d m => q ρ m fun e k => match d, e with
  | .dit ks es, .tup ds => (match dKeyL ds with | some j => (match dGet ks es j with | some z => R z k | none => False) | none => False)
  | _, _ => False := rfl
theorem q_int (neg : Bool) : pInT neg p q ρ n R = p ρ n fun e m => q ρ m fun d k => match d, e with
  | .dit ks es, .tup ds => (match dKeyL ds with | some j => ks.length = es.length ∧ R (.bl (if neg then !hasK j ks else hasK j ks)) k | none => False)
  | _, _ => False := rfl
theorem q_dput (i : Nat) : pDPut i q p P ρ n = match ρ[i]? with
  | some (.own (.dic ks es)) => p ρ n fun d m => q ρ m fun e k => (match dKey e with | some j => ks.length < sizeLine ∧ P.nx (ρ.set i (.own (.dic (dKeys ks j) (dVals ks es j d)))) k | none => False)
  | _ => False := rfl
theorem q_dputt (i : Nat) : pDPutT i q p P ρ n = match ρ[i]? with
  | some (.own (.dit ks es)) => p ρ n fun d m => q ρ m fun e k => (match e with | .tup ds => (match dKeyL ds with | some j => ks.length < sizeLine ∧ P.nx (ρ.set i (.own (.dit (dKeys ks j) (dVals ks es j d)))) k | none => False) | _ => False)
  | _ => False := rfl
theorem q_mnil : pMNil ρ n C = C [] n := rfl
theorem q_msh : pMSh p tm ρ n C = p ρ n fun d m => tm ρ m fun cs k => C (.sh d :: cs) k := rfl
theorem q_mown : pMOwn p tm ρ n C = p ρ n fun d m => tm ρ m fun cs k => C (.own d :: cs) k := rfl
theorem q_parm (is : List Nat) : pParM is tm P ρ n = tm ρ n fun cs m => cs.length = is.length ∧ P.nx (setC ρ is cs) m := rfl
theorem q_rd3 : pRangeD t ρ n Z = t ρ n fun ds m => match ds with
  | [.int i, .int j, .int k] => (-(2 ^ 62) ≤ i ∧ i < 2 ^ 62 ∧ -(2 ^ 62) ≤ j ∧ j < 2 ^ 62) ∧ k = -1 ∧ Z (downD i (i - j).toNat) m
  | _ => False := rfl
theorem q_chain : pChain o o' p q r ρ n R = p ρ n fun d n1 => q ρ n1 fun e n2 => o d e fun z => match z with
  | .bl t => if t = true then r ρ n2 fun f n3 => o' e f fun w => R w n3 else R (.bl false) n2
  | _ => False := rfl
theorem q_while (c : TPT) (b : TPS) : pWhile c b P ρ n = ∃ W : Nat → PEnv → Nat → Prop, (∃ m, W m ρ n) ∧ ∀ m ρ n, W m ρ n → c ρ n fun t n1 => if t = true then b { nx := fun ρ' n' => ∃ m', m' < m ∧ W m' ρ' n', ct := fun ρ' n' => ∃ m', m' < m ∧ W m' ρ' n', bk := P.nx, rt := P.rt } ρ n1 else P.nx ρ n1 := rfl
variable (i j : Int) (x y : Str) (ds es : List D) (neg : Bool) (d : D) (ks : List Key)
theorem o_in_lst : oInN neg d (.lst ds) Q = (flatD d = true ∧ ds.all flatD = true ∧ Q (.bl (if neg then !memD d ds else memD d ds))) := rfl
theorem o_in_tup : oInN neg d (.tup ds) Q = (flatD d = true ∧ ds.all flatD = true ∧ Q (.bl (if neg then !memD d ds else memD d ds))) := rfl
theorem o_in_dic : oInN neg d (.dic ks es) Q = match dKey d with | some k => ks.length = es.length ∧ Q (.bl (if neg then !hasK k ks else hasK k ks)) | none => False := rfl
theorem o_isn : oIsN neg d .non Q = Q (.bl (if neg then !isNon d else isNon d)) := rfl
theorem o_mult : oMulT (.tup ds) (.int i) Q = (ds ≠ [] ∧ 1 ≤ i ∧ i ≤ 1000 ∧ ds.length ≤ 1000 ∧ Q (.tup (List.replicate i.toNat ds).flatten)) := rfl
theorem o_suma_lst : oSumA [.lst ds] Q = match asInts ds with | some bs => Q (.int bs.sum) | none => False := rfl
theorem o_suma_tup : oSumA [.tup ds] Q = match asInts ds with | some bs => Q (.int bs.sum) | none => False := rfl
theorem o_lend : oLenD [.dic ks es] Q = Q (.int ks.length) := rfl
theorem o_tuplel : oTupleL [.lst ds] Q = Q (.tup ds) := rfl
theorem k_int : dKey (.int i) = some (.inl i) := rfl
theorem k_str : dKey (.str x) = some (.inr x) := rfl
end
end PL

/-! PL: further equations for the walk. -/
namespace PL
open PySem PySem.Spec L2
theorem o_suma_lstI (ns : List Int) (Q : D → Prop) : oSumA [.lst (ns.map D.int)] Q = Q (.int ns.sum) := by
  show (match asInts (ns.map D.int) with | some bs => Q (.int bs.sum) | none => False) = _
  rw [asInts_map]
theorem o_suma_tupI (ns : List Int) (Q : D → Prop) : oSumA [.tup (ns.map D.int)] Q = Q (.int ns.sum) := by
  show (match asInts (ns.map D.int) with | some bs => Q (.int bs.sum) | none => False) = _
  rw [asInts_map]
theorem o_sumI (ns : List Int) (Q : D → Prop) : oSum [.lst (ns.map D.int)] Q = Q (.int ns.sum) := by
  show (match asInts (ns.map D.int) with | some bs => Q (.int bs.sum) | none => False) = _
  rw [asInts_map]
end PL

namespace K39
open PySem L2 PL
def bit (b : Bool) : Int := if b then 1 else 0
def cpB (b : Bool) : Nat := if b then 49 else 48
def strOf (bs : List Bool) : Str := ⟨(bs.map cpB).toArray⟩
/-- drawn (true, which, by how many tosses), or open (false, places, place) -/
abbrev Res := Bool × Int × Int
def toD : Res → D
  | (true, i, u) => .tup [.str "drawn", .int i, .int u]
  | (false, i, u) => .tup [.str "open", .int i, .int u]
def drawP (m : Int) : Int → List Bool → Int → Int → Res
  | _, [], p, q => (false, p, q)
  | u, b :: bs, p, q => if m ≤ 2 * p then (if 2 * q + bit b < m then (true, 2 * q + bit b, u + 1) else drawP m (u + 1) bs (2 * p - m) (2 * q + bit b - m)) else drawP m (u + 1) bs (2 * p) (2 * q + bit b)
def drawR (m : Int) (bs : List Bool) : Res := if m = 1 then (true, 0, 0) else drawP m 0 bs 1 0
def leav (m W : Int) : Int := if (W / m) % 2 = 1 then m else 0
def dueP (m : Int) : Int → List Bool → Int → Int → Int → Res
  | t, [], p, q, W => if q < leav m W then (true, q, t) else (false, p - leav m W, q - leav m W)
  | t, b :: bs, p, q, W => if q < leav m W then (true, q, t) else dueP m (t + 1) bs (2 * (p - leav m W)) (2 * (q - leav m W) + bit b) (2 * W)
theorem bit_bd (b : Bool) : 0 ≤ bit b ∧ bit b ≤ 1 := by cases b <;> decide
theorem odd_step {m W p : Int} (hm : 1 < m) (hp : p = W % m) : ((2 * W) / m) % 2 = (if m ≤ 2 * p then 1 else 0) := by
  have h0 := Int.emod_nonneg W (show m ≠ 0 by omega)
  have h1 := Int.emod_lt_of_pos W (show 0 < m by omega)
  have e : 2 * W = m * (2 * (W / m)) + 2 * p := by
    have := Int.emod_def W m
    rw [← hp] at this
    rw [show m * (2 * (W / m)) = 2 * (m * (W / m)) by rw [Int.mul_left_comm]]
    omega
  rw [e, Int.add_comm, Int.add_mul_ediv_left _ _ (show m ≠ 0 by omega)]
  split
  · rename_i h
    have : 2 * p / m = 1 := by
      have a : 2 * p = (2 * p - m) + m * 1 := by omega
      rw [a, Int.add_mul_ediv_left _ _ (show m ≠ 0 by omega), Int.ediv_eq_zero_of_lt (by omega) (by omega)]
      rfl
    rw [this]; omega
  · rename_i h
    have : 2 * p / m = 0 := Int.ediv_eq_zero_of_lt (by omega) (by omega)
    rw [this]; omega
theorem mod_step {m W p : Int} (hm : 1 < m) (hp : p = W % m) : (if m ≤ 2 * p then 2 * p - m else 2 * p) = (2 * W) % m := by
  have h0 := Int.emod_nonneg W (show m ≠ 0 by omega)
  have h1 := Int.emod_lt_of_pos W (show 0 < m by omega)
  have e : (2 * W) % m = (2 * p) % m := by
    rw [hp, Int.mul_emod, Int.mul_emod 2 (W % m), Int.emod_emod_of_dvd _ (Int.dvd_refl m)]
  rw [e]
  split
  · rw [← Int.sub_emod_right (2 * p) m]
    exact (Int.emod_eq_of_lt (by omega) (by omega)).symm
  · exact (Int.emod_eq_of_lt (by omega) (by omega)).symm
/-- from a state of the program on, both go alike -/
theorem due_draw {m : Int} (hm : 1 < m) : ∀ (bs : List Bool) (b : Bool) (t p q W : Int), p = W % m → 0 ≤ q → dueP m (t + 1) bs (2 * p) (2 * q + bit b) (2 * W) = drawP m t (b :: bs) p q
  | [], b, t, p, q, W, hp, hq => by
    have h := odd_step hm hp
    have hb := bit_bd b
    unfold dueP drawP drawP leav
    rw [h]
    by_cases c : m ≤ 2 * p
    · simp only [if_pos c, if_true]
    · simp only [if_neg c, show ¬ (0 : Int) = 1 by decide, if_false, Int.sub_zero]
      rw [if_neg (by omega)]
  | b' :: bs, b, t, p, q, W, hp, hq => by
    have h := odd_step hm hp
    have hs := mod_step hm hp
    have hb := bit_bd b
    rw [dueP, drawP]
    unfold leav
    rw [h]
    by_cases c : m ≤ 2 * p
    · simp only [if_pos c, if_true] at hs ⊢
      by_cases d : 2 * q + bit b < m
      · rw [if_pos d, if_pos d]
      · rw [if_neg d, if_neg d]
        exact due_draw hm bs b' (t + 1) (2 * p - m) (2 * q + bit b - m) (2 * W) hs (by omega)
    · simp only [if_neg c, show ¬ (0 : Int) = 1 by decide, if_false, Int.sub_zero] at hs ⊢
      rw [if_neg (by omega)]
      exact due_draw hm bs b' (t + 1) (2 * p) (2 * q + bit b) (2 * W) hs (by omega)
theorem leav_one (m : Int) (hm : 1 ≤ m) : leav m 1 = if m = 1 then 1 else 0 := by
  unfold leav
  by_cases h : m = 1
  · subst h; decide
  · rw [Int.ediv_eq_zero_of_lt (by omega) (by omega), if_neg h, if_neg (by decide)]
theorem due_is (m : Int) (hm : 1 ≤ m) (bs : List Bool) : dueP m 0 bs 1 0 1 = drawR m bs := by
  have h1 := leav_one m hm
  unfold drawR
  by_cases h : m = 1
  · rw [if_pos h] at h1 ⊢
    cases bs with
    | nil => rw [dueP, h1]; rfl
    | cons b bs => rw [dueP, h1]; rfl
  · rw [if_neg h] at h1 ⊢
    cases bs with
    | nil => rw [dueP, h1, drawP]; rfl
    | cons b bs =>
      rw [dueP, h1, if_neg (by omega), Int.sub_zero, Int.sub_zero]
      exact due_draw (by omega) bs b 0 1 0 1 (Int.emod_eq_of_lt (by omega) (by omega)).symm (by omega)
/-! ### what is drawn -/
theorem draw_facts {m : Int} (hm : 1 < m) : ∀ (bs : List Bool) (u p q : Int), 0 ≤ q → q < p → p < m → match drawP m u bs p q with
    | (true, i, v) => 0 ≤ i ∧ i < m ∧ u < v ∧ v ≤ u + bs.length ∧ (∀ bs' : List Bool, bs'.take (v - u).toNat = bs.take (v - u).toNat → drawP m u bs' p q = (true, i, v)) ∧ ∃ a b, drawP m u (bs.take (v - u - 1).toNat) p q = (false, a, b)
    | (false, a, b) => 0 ≤ b ∧ b < a ∧ a < m
  | [], u, p, q, h0, h1, h2 => by
    show 0 ≤ q ∧ q < p ∧ p < m
    exact ⟨h0, h1, h2⟩
  | b :: bs, u, p, q, h0, h1, h2 => by
    have hb := bit_bd b
    rw [drawP]
    by_cases c : m ≤ 2 * p
    · rw [if_pos c]
      by_cases d : 2 * q + bit b < m
      · rw [if_pos d]
        refine ⟨by omega, d, by omega, by rw [List.length_cons]; omega, fun bs' hbs => ?_, ?_⟩
        · rw [show (u + 1 - u).toNat = 1 by omega] at hbs
          cases bs' with
          | nil => simp at hbs
          | cons b' r =>
            have e : b' = b := by simpa using hbs
            subst e
            rw [drawP, if_pos c, if_pos d]
        · rw [show (u + 1 - u - 1).toNat = 0 by omega]
          exact ⟨p, q, rfl⟩
      · rw [if_neg d]
        have ih := draw_facts hm bs (u + 1) (2 * p - m) (2 * q + bit b - m) (by omega) (by omega) (by omega)
        revert ih
        rcases hr : drawP m (u + 1) bs (2 * p - m) (2 * q + bit b - m) with ⟨_ | _, i, v⟩
        · exact fun ih => ih
        · intro ih
          obtain ⟨i1, i2, i3, i4, i5, x, y, i6⟩ := ih
          refine ⟨i1, i2, by omega, by rw [List.length_cons]; omega, fun bs' hbs => ?_, x, y, ?_⟩
          · rw [show (v - u).toNat = (v - (u + 1)).toNat + 1 by omega] at hbs
            cases bs' with
            | nil => simp at hbs
            | cons b' r =>
              rw [List.take_succ_cons, List.take_succ_cons] at hbs
              injection hbs with e1 e2
              subst e1
              rw [drawP, if_pos c, if_neg d]
              exact i5 r e2
          · rw [show (v - u - 1).toNat = (v - (u + 1) - 1).toNat + 1 by omega, List.take_succ_cons, drawP, if_pos c, if_neg d]
            exact i6
    · rw [if_neg c]
      have ih := draw_facts hm bs (u + 1) (2 * p) (2 * q + bit b) (by omega) (by omega) (by omega)
      revert ih
      rcases hr : drawP m (u + 1) bs (2 * p) (2 * q + bit b) with ⟨_ | _, i, v⟩
      · exact fun ih => ih
      · intro ih
        obtain ⟨i1, i2, i3, i4, i5, x, y, i6⟩ := ih
        refine ⟨i1, i2, by omega, by rw [List.length_cons]; omega, fun bs' hbs => ?_, x, y, ?_⟩
        · rw [show (v - u).toNat = (v - (u + 1)).toNat + 1 by omega] at hbs
          cases bs' with
          | nil => simp at hbs
          | cons b' r =>
            rw [List.take_succ_cons, List.take_succ_cons] at hbs
            injection hbs with e1 e2
            subst e1
            rw [drawP, if_neg c]
            exact i5 r e2
        · rw [show (v - u - 1).toNat = (v - (u + 1) - 1).toNat + 1 by omega, List.take_succ_cons, drawP, if_neg c]
          exact i6
/-- open: the places are what the power leaves -/
theorem draw_open {m : Int} (hm : 1 < m) : ∀ (bs : List Bool) (u p q W : Int), p = W % m → ∀ a b, drawP m u bs p q = (false, a, b) → a = (W * 2 ^ bs.length) % m
  | [], u, p, q, W, hp, a, b, h => by
    cases h
    rw [hp]; simp
  | b' :: bs, u, p, q, W, hp, a, b, h => by
    have hs := mod_step hm hp
    rw [drawP] at h
    have e : W * 2 ^ (b' :: bs).length = 2 * W * 2 ^ bs.length := by
      rw [List.length_cons, Int.pow_succ, Int.mul_comm (2 ^ bs.length) 2, ← Int.mul_assoc, Int.mul_comm W 2]
    rw [e]
    by_cases c : m ≤ 2 * p
    · rw [if_pos c] at h hs
      by_cases d : 2 * q + bit b' < m
      · rw [if_pos d] at h; cases h
      · rw [if_neg d] at h
        exact draw_open hm bs (u + 1) _ _ (2 * W) hs a b h
    · rw [if_neg c] at h hs
      exact draw_open hm bs (u + 1) _ _ (2 * W) hs a b h
/-! ### the rows of open places -/
def opn (m : Int) : Nat → Int → List Int
  | 0, _ => []
  | k + 1, x => (2 * x).fmod m :: opn m k ((2 * x).fmod m)
theorem opn_len (m : Int) : ∀ k x, (opn m k x).length = k
  | 0, _ => rfl
  | k + 1, x => congrArg (· + 1) (opn_len m k _)
theorem opn_get {m : Int} (hm : 1 ≤ m) : ∀ (k : Nat) (x W : Int) (i : Nat), x = W % m → i < k → (opn m k x)[i]? = some ((W * 2 ^ (i + 1)) % m)
  | 0, _, _, _, _, h => absurd h (Nat.not_lt_zero _)
  | k + 1, x, W, i, hx, h => by
    have e : (2 * x).fmod m = (2 * W) % m := by
      rw [fmod_pos (by omega), hx, Int.mul_emod, Int.emod_emod_of_dvd _ (Int.dvd_refl m), ← Int.mul_emod]
    cases i with
    | zero =>
      show some _ = some _
      rw [e, Int.mul_comm W]; rfl
    | succ i =>
      show (opn m k _)[i]? = _
      rw [e, opn_get hm k _ (2 * W) i rfl (by omega)]
      congr 2
      rw [Int.pow_succ 2 (i + 1), Int.mul_comm (2 ^ (i + 1)) 2, ← Int.mul_assoc, Int.mul_comm W 2]
theorem leav_pow {m : Int} (hm : 1 ≤ m) (d : Nat) : 2 * ((2 : Int) ^ d % m) - (2 : Int) ^ (d + 1) % m = leav m (2 ^ (d + 1)) := by
  by_cases h : m = 1
  · subst h
    have e1 : (2 : Int) ^ d % 1 = 0 := Int.emod_one _
    have e2 : (2 : Int) ^ (d + 1) % 1 = 0 := Int.emod_one _
    unfold leav
    rw [e1, e2, Int.ediv_one, Int.pow_succ, Int.mul_emod_left]
    decide
  · have hs := mod_step (m := m) (W := 2 ^ d) (by omega) rfl
    have ho := odd_step (m := m) (W := 2 ^ d) (by omega) rfl
    have e : (2 : Int) ^ (d + 1) = 2 * 2 ^ d := by rw [Int.pow_succ, Int.mul_comm]
    unfold leav
    rw [e, ← hs, ho]
    split <;> simp <;> omega
end K39

namespace K38
def sg (b : Int) : Int := if 0 < b then 1 else -1
/-- t / b, reduced -/
def fr (t b : Int) : Int × Int := (sg b * t / (Int.gcd t b : Int), sg b * b / (Int.gcd t b : Int))
theorem sg_mul {b : Int} (h : b ≠ 0) : 0 < sg b * b := by
  unfold sg; split <;> omega
theorem sg_sq (b : Int) : sg b * sg b = 1 := by unfold sg; split <;> rfl
theorem gcd_pos {t b : Int} (h : b ≠ 0) : 0 < (Int.gcd t b : Int) := by
  have : Int.gcd t b ≠ 0 := fun z => h (Int.gcd_eq_zero_iff.mp z).2
  omega
theorem fr_eqs (t : Int) {b : Int} (h : b ≠ 0) : (fr t b).1 * (Int.gcd t b : Int) = sg b * t ∧ (fr t b).2 * (Int.gcd t b : Int) = sg b * b := by
  refine ⟨Int.ediv_mul_cancel ?_, Int.ediv_mul_cancel ?_⟩
  · exact Int.dvd_mul_of_dvd_right (Int.gcd_dvd_left ..)
  · exact Int.dvd_mul_of_dvd_right (Int.gcd_dvd_right ..)
theorem fr_pos (t : Int) {b : Int} (h : b ≠ 0) : 0 < (fr t b).2 := by
  have e := (fr_eqs t h).2
  have g := gcd_pos (t := t) h
  have s := sg_mul h
  rw [← e] at s
  exact Int.pos_of_mul_pos_left s g
theorem fr_cross (t : Int) {b : Int} (h : b ≠ 0) : (fr t b).1 * b = t * (fr t b).2 := by
  obtain ⟨e1, e2⟩ := fr_eqs t h
  have g := gcd_pos (t := t) h
  refine Int.eq_of_mul_eq_mul_right (Int.ne_of_gt g) ?_
  rw [Int.mul_right_comm, e1, Int.mul_assoc t, e2, Int.mul_comm (sg b) t, Int.mul_assoc]
theorem gcd_sg (t b : Int) : Int.gcd (sg b * t) (sg b * b) = Int.gcd t b := by
  unfold sg; split
  · simp
  · simp
theorem fr_gcd (t : Int) {b : Int} (h : b ≠ 0) : Int.gcd (fr t b).1 (fr t b).2 = 1 := by
  have g := gcd_pos (t := t) h
  have := Int.gcd_ediv_gcd_ediv_gcd (i := sg b * t) (j := sg b * b) (by rw [gcd_sg]; omega)
  rw [gcd_sg] at this
  exact this
theorem fr_uniq {t b p q : Int} (h : b ≠ 0) (hq : 0 < q) (hg : Int.gcd p q = 1) (e : p * b = t * q) : fr t b = (p, q) := by
  have c := fr_cross t h
  have g1 := fr_gcd t h
  have p1 := fr_pos t h
  generalize (fr t b) = z at c g1 p1 ⊢
  obtain ⟨u, v⟩ := z
  simp only at c g1 p1
  -- u * q = p * v
  have k : u * q = p * v := by
    refine Int.eq_of_mul_eq_mul_right h ?_
    rw [Int.mul_right_comm, c, Int.mul_right_comm p v b, e, Int.mul_right_comm]
  have d1 : q ∣ v := by
    have : q ∣ p * v := ⟨u, by rw [← k, Int.mul_comm]⟩
    have h2 := Int.dvd_gcd_mul_iff_dvd_mul.mpr this
    rwa [Int.gcd_comm, hg, Int.ofNat_one, Int.one_mul] at h2
  have d2 : v ∣ q := by
    have : v ∣ u * q := ⟨p, by rw [k, Int.mul_comm]⟩
    have h2 := Int.dvd_gcd_mul_iff_dvd_mul.mpr this
    rwa [Int.gcd_comm, g1, Int.ofNat_one, Int.one_mul] at h2
  have ev : v = q := Int.dvd_antisymm (Int.le_of_lt p1) (Int.le_of_lt hq) d2 d1
  subst ev
  have : u = p := Int.eq_of_mul_eq_mul_right (Int.ne_of_gt p1) k
  rw [this]
theorem fr_self {a b : Int} (hb : 0 < b) : (fr a b = (a, b)) ↔ Int.gcd a b = 1 :=
  ⟨fun h => by have := fr_gcd a (b := b) (by omega); rw [h] at this; exact this, fun h => fr_uniq (by omega) hb h rfl⟩
/-- the program's own way -/
theorem fr_prog (t : Int) {b : Int} (h : b ≠ 0) : (t.fdiv (if b < 0 then -(Int.gcd t b : Int) else (Int.gcd t b : Int)), b.fdiv (if b < 0 then -(Int.gcd t b : Int) else (Int.gcd t b : Int))) = fr t b := by
  have g := gcd_pos (t := t) h
  have d1 : (Int.gcd t b : Int) ∣ t := Int.gcd_dvd_left ..
  have d2 : (Int.gcd t b : Int) ∣ b := Int.gcd_dvd_right ..
  unfold fr sg
  generalize (Int.gcd t b : Int) = k at g d1 d2 ⊢
  obtain ⟨u, rfl⟩ := d1
  obtain ⟨v, rfl⟩ := d2
  by_cases hb : k * v < 0
  · rw [if_pos hb, if_neg (by omega)]
    have e : ∀ w : Int, (k * w).fdiv (-k) = -w := fun w => by
      rw [show k * w = -w * -k by rw [Int.neg_mul_neg, Int.mul_comm], Int.mul_fdiv_cancel _ (by omega)]
    have e' : ∀ w : Int, -1 * (k * w) / k = -w := fun w => by
      rw [show -1 * (k * w) = k * -w by rw [Int.mul_neg, Int.neg_mul, Int.one_mul], Int.mul_ediv_cancel_left _ (by omega)]
    rw [e, e, e', e']
  · rw [if_neg hb, if_pos (by omega)]
    have e : ∀ w : Int, (k * w).fdiv k = w := fun w => by
      rw [Int.mul_comm, Int.mul_fdiv_cancel _ (by omega)]
    have e' : ∀ w : Int, 1 * (k * w) / k = w := fun w => by
      rw [Int.one_mul, Int.mul_ediv_cancel_left _ (by omega)]
    rw [e, e, e', e']
/-- the law's own way -/
theorem fr_law (t : Int) {b : Int} (h : b ≠ 0) : ((sg b * t).fdiv (Int.gcd t b : Int), (sg b * b).fdiv (Int.gcd t b : Int)) = fr t b := by
  have g := gcd_pos (t := t) h
  unfold fr
  rw [Int.fdiv_eq_ediv_of_nonneg _ (by omega), Int.fdiv_eq_ediv_of_nonneg _ (by omega)]
/-- Euclid's step -/
theorem gcd_step {a b : Int} (ha : 0 ≤ a) (hb : 0 < b) : Int.gcd b (a.fmod b) = Int.gcd a b := by
  rw [Int.fmod_eq_emod_of_nonneg _ (by omega), ← Int.gcd_add_mul_right_right b (a % b) (a / b), Int.gcd_comm]
  congr 1
  have := Int.mul_ediv_add_emod a b
  rw [Int.mul_comm] at this
  omega
theorem abs_gcd (a b : Int) : Int.gcd (if a < 0 then -a else a) (if b < 0 then -b else b) = Int.gcd a b := by
  split <;> split <;> simp
theorem fr_bound (t : Int) {b : Int} (h : b ≠ 0) {k : Nat} (ht : t.natAbs < 2 ^ k) (hb : b.natAbs < 2 ^ k) : (fr t b).1.natAbs < 2 ^ k ∧ (fr t b).2.natAbs < 2 ^ k := by
  obtain ⟨e1, e2⟩ := fr_eqs t h
  have g := gcd_pos (t := t) h
  have s : (sg b).natAbs = 1 := by unfold sg; split <;> rfl
  have f1 := congrArg Int.natAbs e1
  have f2 := congrArg Int.natAbs e2
  rw [Int.natAbs_mul, Int.natAbs_mul, s, Nat.one_mul] at f1 f2
  have g' : 1 ≤ (Int.gcd t b : Int).natAbs := by omega
  have := Nat.le_mul_of_pos_right (fr t b).1.natAbs g'
  have := Nat.le_mul_of_pos_right (fr t b).2.natAbs g'
  omega
end K38

namespace K40
open PySem L2 PL K39
/-! ### pigeons -/
theorem pigeon : ∀ (m : Nat) (l : List Nat), l.Nodup → (∀ x ∈ l, x < m) → l.length ≤ m
  | 0, l, _, h => by
    cases l with
    | nil => exact Nat.le_refl _
    | cons x l => exact absurd (h x List.mem_cons_self) (Nat.not_lt_zero _)
  | m + 1, l, hn, h => by
    have h2 := pigeon m (l.erase m) (hn.erase m) (fun x hx => by
      have := (hn.mem_erase_iff).mp hx
      have := h x this.2
      omega)
    have h3 : l.length ≤ (l.erase m).length + 1 := by
      by_cases hm : m ∈ l
      · rw [List.length_erase_of_mem hm]; omega
      · rw [List.erase_of_not_mem hm]; omega
    omega
theorem pigeonF {m : Nat} {k : Nat} {f : Nat → Nat} (hf : ∀ i, i < k → f i < m) (hd : ∀ i j, i < j → j < k → f i ≠ f j) : k ≤ m := by
  have h := pigeon m ((List.range k).map f) (by
    unfold List.Nodup
    rw [List.pairwise_map]
    refine List.Pairwise.imp_of_mem ?_ List.pairwise_lt_range
    intro a b ha hb hab
    exact hd a b hab (List.mem_range.mp hb)) (by
    intro x hx
    obtain ⟨i, hi, rfl⟩ := List.mem_map.mp hx
    exact hf i (List.mem_range.mp hi))
  simpa using h
/-! ### powers of 2, by a number -/
theorem pw_step (m : Int) (k : Nat) : (2 * ((2 : Int) ^ k % m)) % m = 2 ^ (k + 1) % m := by
  rw [Int.mul_emod, Int.emod_emod_of_dvd _ (Int.dvd_refl m), ← Int.mul_emod, Int.pow_succ, Int.mul_comm]
theorem mul_step (m w : Int) (k : Nat) : (2 * ((2 : Int) ^ k * w % m)) % m = 2 ^ (k + 1) * w % m := by
  rw [Int.mul_emod, Int.emod_emod_of_dvd _ (Int.dvd_refl m), ← Int.mul_emod, Int.pow_succ, ← Int.mul_assoc, Int.mul_comm 2]
theorem pw_same {m : Int} {i j : Nat} (w : Int) (h : (2 : Int) ^ i % m = 2 ^ j % m) : (2 : Int) ^ i * w % m = 2 ^ j * w % m := by
  rw [Int.mul_emod, h, ← Int.mul_emod]
theorem pw_on {m : Int} {i j : Nat} (h : (2 : Int) ^ i % m = 2 ^ j % m) (d : Nat) : (2 : Int) ^ (i + d) % m = 2 ^ (j + d) % m := by
  rw [Int.pow_add, Int.pow_add]; exact pw_same _ h
/-- come round -/
def Round (m : Int) (f c : Nat) : Prop := 0 < c ∧ (2 : Int) ^ (f + c) % m = 2 ^ f % m ∧ ∀ i j : Nat, i < j → j < f + c → (2 : Int) ^ i % m ≠ 2 ^ j % m
theorem pw_few {m : Int} (hm : 1 ≤ m) {k : Nat} (h : ∀ i j : Nat, i < j → j < k → (2 : Int) ^ i % m ≠ 2 ^ j % m) : k ≤ m.toNat :=
  pigeonF (f := fun i => ((2 : Int) ^ i % m).toNat) (fun i _ => by
    have := Int.emod_lt_of_pos ((2 : Int) ^ i) (show 0 < m by omega)
    have := Int.emod_nonneg ((2 : Int) ^ i) (show m ≠ 0 by omega)
    show ((2 : Int) ^ i % m).toNat < m.toNat
    omega) (fun i j h1 h2 => by
    have a := Int.emod_nonneg ((2 : Int) ^ i) (show m ≠ 0 by omega)
    have b := Int.emod_nonneg ((2 : Int) ^ j) (show m ≠ 0 by omega)
    have := h i j h1 h2
    show ((2 : Int) ^ i % m).toNat ≠ ((2 : Int) ^ j % m).toNat
    omega)
theorem Round.le {m : Int} (hm : 1 ≤ m) {f c : Nat} (h : Round m f c) : f + c ≤ m.toNat := pw_few hm h.2.2
/-! ### sums that come round -/
def Per (p : Nat → Int) (f c : Nat) : Prop := 0 < c ∧ ∀ n, f ≤ n → p (n + c) = p n
def bt (p : Nat → Int) : Nat → Int
  | 0 => 0
  | n + 1 => 2 * bt p n + p n
/-- twice over what is ahead: t n = A * 2 ^ n - D * bt n -/
theorem two_pos (n : Nat) : (0 : Int) < 2 ^ n := Int.pow_pos (by decide)
theorem two_ge (n : Nat) : (1 : Int) ≤ 2 ^ n := two_pos n
def dn (f c : Nat) : Int := 2 ^ f * (2 ^ c - 1)
theorem two_gt {c : Nat} (h : 0 < c) : (1 : Int) < 2 ^ c := by
  obtain ⟨d, rfl⟩ : ∃ d, c = d + 1 := ⟨c - 1, by omega⟩
  have := two_pos d
  rw [Int.pow_succ]; omega
theorem dn_pos {f c : Nat} (h : 0 < c) : 0 < dn f c := Int.mul_pos (two_pos f) (by have := two_gt h; omega)
def tl (p : Nat → Int) (A D : Int) (n : Nat) : Int := A * 2 ^ n - D * bt p n
theorem tl_step (p : Nat → Int) (A D : Int) (n : Nat) : tl p A D (n + 1) = 2 * tl p A D n - D * p n := by
  unfold tl
  rw [bt, Int.pow_succ, Int.mul_add, Int.mul_sub, Int.mul_left_comm D 2, Int.mul_comm (2 ^ n) 2, Int.mul_left_comm A 2]
  omega
theorem tl_per {p : Nat → Int} {f c : Nat} (h : Per p f c) (A D : Int) (n d : Nat) (hn : f ≤ n) : tl p A D (n + d + c) - tl p A D (n + d) = 2 ^ d * (tl p A D (n + c) - tl p A D n) := by
  induction d with
  | zero => simp
  | succ d ih =>
    rw [show n + (d + 1) + c = n + d + c + 1 by omega, show n + (d + 1) = n + d + 1 by omega, tl_step, tl_step, h.2 (n + d) (by omega), Int.pow_succ, Int.mul_comm (2 ^ d) 2, Int.mul_assoc, ← ih]
    omega
theorem bt_uniq {p : Nat → Int} {f c g e : Nat} (h : Per p f c) (k : Per p g e) : (bt p (f + c) - bt p f) * dn g e = (bt p (g + e) - bt p g) * dn f c := by
  -- A, D such that the tail by (f, c) comes round
  have t0 : tl p (bt p (f + c) - bt p f) (dn f c) (f + c) - tl p (bt p (f + c) - bt p f) (dn f c) f = 0 := by
    unfold tl dn
    rw [show (bt p (f + c) - bt p f) * 2 ^ (f + c) - 2 ^ f * (2 ^ c - 1) * bt p (f + c) - ((bt p (f + c) - bt p f) * 2 ^ f - 2 ^ f * (2 ^ c - 1) * bt p f) = (bt p (f + c) - bt p f) * 2 ^ (f + c) - (bt p (f + c) - bt p f) * 2 ^ f - (2 ^ f * (2 ^ c - 1) * bt p (f + c) - 2 ^ f * (2 ^ c - 1) * bt p f) by omega]
    rw [← Int.mul_sub (2 ^ f * (2 ^ c - 1)), ← Int.mul_sub, Int.pow_add, Int.mul_sub (2 ^ f) (2 ^ c) 1, Int.mul_one, Int.mul_comm (2 ^ f * 2 ^ c - 2 ^ f), Int.sub_self]
  generalize hA : bt p (f + c) - bt p f = A at t0 ⊢
  generalize hD : dn f c = D at t0 ⊢
  -- the tail comes round by c from f on
  have r1 : ∀ d, tl p A D (f + d + c) = tl p A D (f + d) := fun d => by
    have := tl_per h A D f d (Nat.le_refl f)
    rw [t0, Int.mul_zero] at this
    omega
  -- by e from a place behind both
  have r2 : tl p A D (f + g + e) - tl p A D (f + g) = 0 := by
    have q := tl_per k A D (f + g) c (by omega)
    have e1 : tl p A D (f + g + c + e) = tl p A D (f + g + e) := by
      rw [show f + g + c + e = f + (g + e) + c by omega, r1, show f + (g + e) = f + g + e by omega]
    rw [e1, r1] at q
    have z := two_gt h.1
    have : (2 ^ c - 1) * (tl p A D (f + g + e) - tl p A D (f + g)) = 0 := by
      rw [Int.sub_mul, Int.one_mul, ← q, Int.sub_self]
    rcases Int.mul_eq_zero.mp this with w | w
    · omega
    · exact w
  have r3 : tl p A D (g + e) - tl p A D g = 0 := by
    have q := tl_per k A D g f (Nat.le_refl g)
    rw [show g + f + e = f + g + e by omega, Nat.add_comm g f, r2] at q
    rcases Int.mul_eq_zero.mp q.symm with w | w
    · have := two_pos f; omega
    · exact w
  unfold tl at r3
  unfold dn
  rw [Int.mul_sub (2 ^ g), Int.mul_one, ← Int.pow_add, Int.mul_sub A, Int.sub_mul, Int.mul_comm (bt p (g + e)) D, Int.mul_comm (bt p g) D]
  omega
/-- the mean of what comes round -/
def mvF (p : Nat → Int) (f c : Nat) : Int × Int := K38.fr (2 * (bt p (f + c) - bt p f)) (dn f c)
theorem mvF_eq {p : Nat → Int} {f c g e : Nat} (h : Per p f c) (k : Per p g e) : mvF p f c = mvF p g e := by
  have d1 := dn_pos (f := f) h.1
  have d2 := dn_pos (f := g) k.1
  refine K38.fr_uniq (by omega) (K38.fr_pos _ (by omega)) (K38.fr_gcd _ (by omega)) ?_
  have c2 := K38.fr_cross (2 * (bt p (g + e) - bt p g)) (b := dn g e) (by omega)
  have u := bt_uniq h k
  show (mvF p g e).1 * dn f c = 2 * (bt p (f + c) - bt p f) * (mvF p g e).2
  have c2 : (mvF p g e).1 * dn g e = 2 * (bt p (g + e) - bt p g) * (mvF p g e).2 := c2
  generalize (mvF p g e).1 = x at c2 ⊢
  generalize (mvF p g e).2 = y at c2 ⊢
  refine Int.eq_of_mul_eq_mul_right (Int.ne_of_gt d2) ?_
  rw [Int.mul_right_comm, c2, Int.mul_right_comm _ y (dn g e), Int.mul_assoc 2 (bt p (f + c) - bt p f), u, ← Int.mul_assoc, Int.mul_right_comm]
open Classical in
noncomputable def mv (p : Nat → Int) : Int × Int := if h : ∃ q : Nat × Nat, Per p q.1 q.2 then mvF p (Classical.choose h).1 (Classical.choose h).2 else (0, 1)
theorem mv_is {p : Nat → Int} {f c : Nat} (h : Per p f c) : mvF p f c = mv p := by
  unfold mv
  have e : ∃ q : Nat × Nat, Per p q.1 q.2 := ⟨(f, c), h⟩
  rw [dif_pos e]
  exact mvF_eq h (Classical.choose_spec e)
theorem mv_zero {p : Nat → Int} (h : ∀ n, p n = 0) : mv p = (0, 1) := by
  rw [← mv_is (p := p) (f := 0) (c := 1) ⟨by decide, fun n _ => by rw [h, h]⟩]
  unfold mvF
  simp only [bt, h]
  decide
/-! ### open places by weights -/
def op (W : Int) (ws : List Int) (t : Nat) : Int := (ws.map fun w => (2 : Int) ^ t * w % W).sum / W
theorem op_per {W : Int} {ws : List Int} {f c : Nat} (hc : 0 < c) (h : ∀ w ∈ ws, (2 : Int) ^ (f + c) * w % W = 2 ^ f * w % W) : Per (op W ws) f c := by
  refine ⟨hc, fun n hn => ?_⟩
  unfold op
  congr 2
  refine List.map_congr_left fun w hw => ?_
  obtain ⟨d, rfl⟩ : ∃ d, n = f + d := ⟨n - f, by omega⟩
  rw [show f + d + c = d + (f + c) by omega, Nat.add_comm f d, Int.pow_add, Int.pow_add _ d f, Int.mul_assoc, Int.mul_assoc, Int.mul_emod, h w hw, ← Int.mul_emod]
theorem op_perR {W : Int} {ws : List Int} {f c : Nat} (h : Round W f c) : Per (op W ws) f c := op_per h.1 fun w _ => pw_same w h.2.1
theorem mul_mod_mul {c a b : Int} (hc : 0 < c) : c * a % (c * b) = c * (a % b) := by
  rw [Int.mul_emod_mul_of_pos _ _ hc]
theorem sum_mul (c : Int) : ∀ l : List Int, (l.map fun x => c * x).sum = c * l.sum
  | [] => by simp
  | x :: l => by simp [sum_mul c l, Int.mul_add]
theorem op_great {c W : Int} (hc : 0 < c) (ws : List Int) (t : Nat) : op (c * W) (ws.map fun w => c * w) t = op W ws t := by
  unfold op
  rw [List.map_map, show ((fun w => (2 : Int) ^ t * w % (c * W)) ∘ fun w => c * w) = (fun x => c * x) ∘ (fun w => (2 : Int) ^ t * w % W) from funext fun w => by
    show (2 : Int) ^ t * (c * w) % (c * W) = c * (2 ^ t * w % W)
    rw [Int.mul_left_comm, mul_mod_mul hc], ← List.map_map, sum_mul, Int.mul_ediv_mul_of_pos _ _ hc]
theorem sum_rep (a : Int) : ∀ n : Nat, (List.replicate n a).sum = n * a
  | 0 => by simp
  | n + 1 => by rw [List.replicate_succ, List.sum_cons, sum_rep a n]; simp [Int.add_mul]; omega
theorem op_alike {a : Int} (ha : 0 < a) {n : Nat} (hn : 0 < n) (t : Nat) : op (n * a) (List.replicate n a) t = 2 ^ t % (n : Int) := by
  unfold op
  have hna : (0 : Int) < n * a := Int.mul_pos (by omega) ha
  rw [List.map_replicate, sum_rep, show (2 : Int) ^ t * a % (n * a) = a * (2 ^ t % n) by rw [Int.mul_comm _ a, Int.mul_comm _ a, mul_mod_mul ha], Int.mul_comm a, ← Int.mul_assoc, Int.mul_right_comm, Int.mul_ediv_cancel_left _ (by omega)]
/-- leaves by weights -/
def idx1 : Int → List Int → List Int
  | _, [] => []
  | i, f :: fs => if f = 1 then i :: idx1 (i + 1) fs else idx1 (i + 1) fs
theorem idx1_app : ∀ (i : Int) (fs gs : List Int), idx1 i (fs ++ gs) = idx1 i fs ++ idx1 (i + fs.length) gs
  | i, [], gs => by simp [idx1]
  | i, f :: fs, gs => by
    rw [List.cons_append, idx1, idx1, idx1_app (i + 1) fs gs, List.length_cons, show i + 1 + (fs.length : Int) = i + ((fs.length + 1 : Nat) : Int) by omega]
    split <;> rfl
theorem idx1_bd : ∀ (i : Int) (fs : List Int), ∀ x ∈ idx1 i fs, i ≤ x ∧ x < i + fs.length
  | i, [], x, h => by simp [idx1] at h
  | i, f :: fs, x, h => by
    rw [idx1] at h
    rw [List.length_cons]
    split at h
    · rcases List.mem_cons.mp h with rfl | h
      · omega
      · have := idx1_bd (i + 1) fs x h; omega
    · have := idx1_bd (i + 1) fs x h; omega
theorem idx1_len : ∀ (i : Int) (fs : List Int), (idx1 i fs).length ≤ fs.length
  | _, [] => Nat.le_refl _
  | i, f :: fs => by
    have := idx1_len (i + 1) fs
    rw [idx1, List.length_cons]
    split
    · rw [List.length_cons]; omega
    · omega
def fig (W : Int) (ws : List Int) (t : Nat) : List Int := ws.map fun w => (2 : Int) ^ t * w / W % 2
def lvs (W : Int) (ws : List Int) (t : Nat) : List Int := idx1 0 (fig W ws t)
theorem lvs_len (W : Int) (ws : List Int) (t : Nat) : (lvs W ws t).length ≤ ws.length := by
  have := idx1_len 0 (fig W ws t)
  unfold lvs
  simpa [fig] using this
theorem lvs_bd {W : Int} {ws : List Int} {t : Nat} {x : Int} (h : x ∈ lvs W ws t) : 0 ≤ x ∧ x < ws.length := by
  have := idx1_bd 0 (fig W ws t) x h
  simpa [fig] using this
def byG (lv : Nat → List Int) : Nat → List Bool → Int → Int → Res
  | t, [], p, q => if q < (lv t).length then (true, (lv t).getD q.toNat 0, t) else (false, p - (lv t).length, q - (lv t).length)
  | t, b :: bs, p, q => if q < (lv t).length then (true, (lv t).getD q.toNat 0, t) else byG lv (t + 1) bs (2 * (p - (lv t).length)) (2 * (q - (lv t).length) + bit b)
def mapR (g : Int → Int) : Res → Res
  | (true, i, u) => (true, g i, u)
  | (false, i, u) => (false, i, u)
theorem byG_map (lv : Nat → List Int) (g : Int → Int) : ∀ (bs : List Bool) (t : Nat) (p q : Int), 0 ≤ q → byG (fun t => (lv t).map g) t bs p q = mapR g (byG lv t bs p q)
  | [], t, p, q, hq => by
    unfold byG
    rw [List.length_map]
    by_cases c : q < (lv t).length
    · rw [if_pos c, if_pos c]
      show (true, _, _) = (true, _, _)
      congr 2
      have : q.toNat < (lv t).length := by omega
      simp [this]
    · rw [if_neg c, if_neg c]; rfl
  | b :: bs, t, p, q, hq => by
    unfold byG
    rw [List.length_map]
    have hb := bit_bd b
    by_cases c : q < (lv t).length
    · rw [if_pos c, if_pos c]
      show (true, _, _) = (true, _, _)
      congr 2
      have : q.toNat < (lv t).length := by omega
      simp [this]
    · rw [if_neg c, if_neg c]
      exact byG_map lv g bs (t + 1) _ _ (by omega)
def upto (n : Nat) : List Int := (List.range n).map fun i : Nat => (i : Int)
theorem byG_due {n : Nat} (hn : 0 < n) : ∀ (bs : List Bool) (t : Nat) (p q : Int), 0 ≤ q → byG (fun t => if ((2 : Int) ^ t / n) % 2 = 1 then upto n else []) t bs p q = dueP n t bs p q (2 ^ t)
  | [], t, p, q, hq => by
    unfold byG dueP leav
    by_cases c : ((2 : Int) ^ t / n) % 2 = 1
    · simp only [if_pos c]
      have hl : ((upto n).length : Int) = n := by simp [upto]
      rw [hl]
      by_cases d : q < n
      · rw [if_pos d, if_pos d]
        congr 2
        have : q.toNat < n := by omega
        simp [upto, this]; omega
      · rw [if_neg d, if_neg d]
    · simp only [if_neg c, List.length_nil, Int.natCast_zero, Int.ofNat_zero]
      rw [if_neg (by omega), if_neg (by omega)]
  | b :: bs, t, p, q, hq => by
    have hb := bit_bd b
    have ih := fun p' q' h => byG_due hn bs (t + 1) p' q' h
    rw [Int.pow_succ, Int.mul_comm _ 2] at ih
    unfold byG dueP
    by_cases c : ((2 : Int) ^ t / n) % 2 = 1
    · have hl : ((upto n).length : Int) = n := by simp [upto]
      simp only [leav, if_pos c, hl]
      by_cases d : q < n
      · rw [if_pos d, if_pos d]
        congr 2
        have : q.toNat < n := by omega
        simp [upto, this]; omega
      · rw [if_neg d, if_neg d]
        exact ih _ _ (by omega)
    · simp only [leav, if_neg c, List.length_nil, Int.natCast_zero, Int.ofNat_zero]
      rw [if_neg (by omega), if_neg (by omega)]
      exact ih _ _ (by omega)
theorem idx1_rep (f : Int) : ∀ (n : Nat) (i : Int), idx1 i (List.replicate n f) = if f = 1 then (List.range n).map fun (j : Nat) => i + (j : Int) else []
  | 0, i => by simp [idx1]
  | n + 1, i => by
    rw [List.replicate_succ, idx1, idx1_rep f n]
    split
    · rw [List.range_succ_eq_map, List.map_cons, List.map_map]
      congr 1
      · simp
      · refine List.map_congr_left fun j _ => ?_
        show i + 1 + (j : Int) = i + ((j + 1 : Nat) : Int)
        omega
    · rfl
theorem lvs_alike {a : Int} (ha : 0 < a) {n : Nat} (hn : 0 < n) (t : Nat) : lvs (n * a) (List.replicate n a) t = if ((2 : Int) ^ t / n) % 2 = 1 then upto n else [] := by
  unfold lvs fig
  rw [List.map_replicate, idx1_rep, Int.mul_ediv_mul_of_pos_left _ _ ha]
  simp only [upto, Int.zero_add]
theorem by_alike {a : Int} (ha : 0 < a) {n : Nat} (hn : 0 < n) (bs : List Bool) : byG (lvs (n * a) (List.replicate n a)) 0 bs 1 0 = drawR n bs := by
  rw [show lvs (n * a) (List.replicate n a) = fun t => if ((2 : Int) ^ t / n) % 2 = 1 then upto n else [] from funext fun t => lvs_alike ha hn t, byG_due hn bs 0 1 0 (by decide)]
  exact due_is n (by omega) bs
theorem lvs_great {c W : Int} (hc : 0 < c) (ws : List Int) (t : Nat) : lvs (c * W) (ws.map fun w => c * w) t = lvs W ws t := by
  unfold lvs fig
  rw [List.map_map]
  congr 1
  refine List.map_congr_left fun w _ => ?_
  show (2 : Int) ^ t * (c * w) / (c * W) % 2 = _
  rw [Int.mul_left_comm, Int.mul_ediv_mul_of_pos _ _ hc]
/-- figures by rests -/
theorem fig_step {W w : Int} (hW : 0 < W) (t : Nat) : (2 * ((2 : Int) ^ t * w % W)) / W = 2 ^ (t + 1) * w / W % 2 := by
  have h0 := Int.emod_nonneg ((2 : Int) ^ t * w) (show W ≠ 0 by omega)
  have h1 := Int.emod_lt_of_pos ((2 : Int) ^ t * w) hW
  have e : (2 : Int) ^ (t + 1) * w = 2 * ((2 : Int) ^ t * w % W) + W * (2 * ((2 : Int) ^ t * w / W)) := by
    have := Int.mul_ediv_add_emod ((2 : Int) ^ t * w) W
    rw [Int.pow_succ, Int.mul_comm _ 2, Int.mul_assoc, Int.mul_left_comm W 2]
    omega
  rw [e, Int.add_mul_ediv_left _ _ (by omega : W ≠ 0)]
  have a : 0 ≤ 2 * ((2 : Int) ^ t * w % W) / W := Int.ediv_nonneg (by omega) (by omega)
  have b : 2 * ((2 : Int) ^ t * w % W) / W < 2 := Int.ediv_lt_of_lt_mul hW (by omega)
  omega
/-- noughts between -/
structure Parted (pre found spots : List Int) : Prop where
  len : spots.length = pre.length
  bd : ∀ s ∈ spots, 0 ≤ s ∧ s < found.length
  sum : found.sum = pre.sum
  nn : (∀ w ∈ pre, 0 ≤ w) → ∀ w ∈ found, 0 ≤ w
  op : ∀ W t, (found.map fun w => (2 : Int) ^ t * w % W).sum = (pre.map fun w => (2 : Int) ^ t * w % W).sum
  lv : ∀ W t, lvs W found t = (lvs W pre t).map fun i => spots.getD i.toNat 0
theorem Parted.nil : Parted [] [] [] := ⟨rfl, (fun _ h => nomatch h), rfl, (fun _ _ h => nomatch h), (fun _ _ => rfl), (fun _ _ => rfl)⟩
theorem sum_app (a b : List Int) : (a ++ b).sum = a.sum + b.sum := by
  induction a with
  | nil => simp
  | cons x a ih => rw [List.cons_append, List.sum_cons, List.sum_cons, ih]; omega
theorem Parted.nought {pre found spots : List Int} (h : Parted pre found spots) : Parted pre (found ++ [0]) spots where
  len := h.len
  bd := fun s hs => by have := h.bd s hs; rw [List.length_append]; simp; omega
  sum := by rw [sum_app, h.sum]; simp
  nn := fun k w hw => by
    rcases List.mem_append.mp hw with hw | hw
    · exact h.nn k w hw
    · simp at hw; omega
  op := fun W t => by rw [List.map_append, sum_app, h.op]; simp
  lv := fun W t => by
    rw [← h.lv]
    unfold lvs fig
    rw [List.map_append, idx1_app]
    simp [idx1]
theorem Parted.put {pre found spots : List Int} (h : Parted pre found spots) (w : Int) : Parted (pre ++ [w]) (found ++ [w]) (spots ++ [(found.length : Int)]) where
  len := by simp [h.len]
  bd := fun s hs => by
    rw [List.length_append]
    rcases List.mem_append.mp hs with hs | hs
    · have := h.bd s hs; simp; omega
    · simp at hs; simp; omega
  sum := by rw [sum_app, sum_app, h.sum]
  nn := fun k x hx => by
    rcases List.mem_append.mp hx with hx | hx
    · exact h.nn (fun y hy => k y (List.mem_append.mpr (.inl hy))) x hx
    · exact k x (List.mem_append.mpr (.inr hx))
  op := fun W t => by rw [List.map_append, List.map_append, sum_app, sum_app, h.op]
  lv := fun W t => by
    have old : (lvs W pre t).map (fun i => (spots ++ [(found.length : Int)]).getD i.toNat 0) = lvs W found t := by
      rw [h.lv]
      refine List.map_congr_left fun i hi => ?_
      obtain ⟨h0, h1⟩ := lvs_bd hi
      have : i.toNat < spots.length := by rw [h.len]; omega
      simp [List.getD, List.getElem?_append_left this]
    have e1 : ∀ l : List Int, lvs W (l ++ [w]) t = lvs W l t ++ if (2 : Int) ^ t * w / W % 2 = 1 then [(l.length : Int)] else [] := fun l => by
      unfold lvs fig
      rw [List.map_append, idx1_app]
      simp [idx1]
    rw [e1, e1, List.map_append, old]
    congr 1
    split
    · simp [List.getD, ← h.len]
    · rfl
end K40

namespace K41
open PySem L2 PL K39 K40
open K38 (fr fr_cross fr_pos fr_gcd fr_uniq)
abbrev on (m : Int) (t : Nat) : Int := (2 : Int) ^ t % m
def lf (m : Int) (t : Nat) : Int := leav m (2 ^ t)
theorem lf_val (m : Int) (t : Nat) : lf m t = 0 ∨ lf m t = m := by
  unfold lf leav; split
  · exact .inr rfl
  · exact .inl rfl
theorem lf_zero {m : Int} (hm : 1 ≤ m) : lf m 0 = 1 - on m 0 := by
  show leav m 1 = 1 - 1 % m
  rw [leav_one m hm]
  by_cases h : m = 1
  · subst h; decide
  · rw [if_neg h, Int.emod_eq_of_lt (by decide) (by omega)]; decide
theorem lf_succ {m : Int} (hm : 1 ≤ m) (t : Nat) : lf m (t + 1) = 2 * on m t - on m (t + 1) := (leav_pow hm t).symm
theorem on_bd {m : Int} (hm : 1 ≤ m) (t : Nat) : 0 ≤ on m t ∧ on m t < m := ⟨Int.emod_nonneg _ (by omega), Int.emod_lt_of_pos _ (by omega)⟩
/-- what is weighed -/
theorem bt_lf {m : Int} (hm : 1 ≤ m) : ∀ L : Nat, bt (lf m) (L + 1) = 2 ^ L - on m L
  | 0 => by
    show 2 * 0 + lf m 0 = _
    rw [lf_zero hm]; simp
  | L + 1 => by
    rw [bt, bt_lf hm L, lf_succ hm, Int.pow_succ]
    omega
theorem bt_len {m : Int} (hm : 1 ≤ m) : ∀ L : Nat, bt (fun t => lf m t * t) (L + 1) + on m L * (L + 1) = bt (on m) (L + 1)
  | 0 => by
    show 2 * 0 + lf m 0 * 0 + on m 0 * (0 + 1) = 2 * 0 + on m 0
    simp
  | L + 1 => by
    have ih := bt_len hm L
    show 2 * bt (fun t => lf m t * t) (L + 1) + lf m (L + 1) * ((L + 1 : Nat) : Int) + on m (L + 1) * (((L + 1 : Nat) : Int) + 1) = 2 * bt (on m) (L + 1) + on m (L + 1)
    rw [← ih, lf_succ hm]
    have e1 : (2 * on m L - on m (L + 1)) * ((L + 1 : Nat) : Int) = 2 * (on m L * (L + 1)) - on m (L + 1) * (L + 1) := by
      rw [Int.sub_mul, Int.mul_assoc]; simp
    have e2 : on m (L + 1) * (((L + 1 : Nat) : Int) + 1) = on m (L + 1) * (L + 1) + on m (L + 1) := by
      rw [Int.mul_add]; simp
    rw [e1, e2]
    omega
theorem sum_bt (p : Nat → Int) : ∀ n : Nat, ((List.range n).map fun t => p t * 2 ^ (n - 1 - t)).sum = bt p n
  | 0 => rfl
  | n + 1 => by
    have e : (List.range n).map (fun t => p t * 2 ^ (n + 1 - 1 - t)) = ((List.range n).map fun t => p t * 2 ^ (n - 1 - t)).map fun x => 2 * x := by
      rw [List.map_map]
      refine List.map_congr_left fun t ht => ?_
      have ht := List.mem_range.mp ht
      show p t * 2 ^ (n + 1 - 1 - t) = 2 * (p t * 2 ^ (n - 1 - t))
      rw [show n + 1 - 1 - t = n - 1 - t + 1 by omega, Int.pow_succ]; ac_rfl
    rw [List.range_succ, List.map_append, sum_app, e, K40.sum_mul, sum_bt p n, bt]
    simp
/-- the rows that draw -/
def tsL (m : Int) (n : Nat) : List Nat := (List.range n).filter fun t => decide (0 < lf m t)
theorem tsL_succ (m : Int) (n : Nat) : tsL m (n + 1) = tsL m n ++ if 0 < lf m n then [n] else [] := by
  unfold tsL
  rw [List.range_succ, List.filter_append]
  congr 1
  by_cases h : 0 < lf m n <;> simp [h]
theorem tsL_sum {m : Int} (hm : 1 ≤ m) (g : Nat → Int) : ∀ n : Nat, m * ((tsL m n).map g).sum = ((List.range n).map fun t => lf m t * g t).sum
  | 0 => by simp [tsL]
  | n + 1 => by
    rw [tsL_succ, List.map_append, sum_app, Int.mul_add, tsL_sum hm g n, List.range_succ, List.map_append, sum_app]
    congr 1
    rcases lf_val m n with h | h
    · rw [h]; simp [h]
    · rw [if_pos (by omega)]
      simp only [List.map_cons, List.map_nil, List.sum_cons, List.sum_nil]
      rw [h, Int.add_zero, Int.add_zero]
theorem rows_sum {m : Int} (hm : 1 ≤ m) (L : Nat) : ((tsL m (L + 1)).map fun t => (2 : Int) ^ (L - t)).sum = 2 ^ L / m := by
  have h := tsL_sum hm (fun t => (2 : Int) ^ (L - t)) (L + 1)
  have e := sum_bt (lf m) (L + 1)
  rw [show L + 1 - 1 = L by omega] at e
  rw [e, bt_lf hm L] at h
  have d := Int.mul_ediv_add_emod ((2 : Int) ^ L) m
  refine Int.eq_of_mul_eq_mul_left (show m ≠ 0 by omega) ?_
  show m * _ = m * _
  have : on m L = 2 ^ L % m := rfl
  omega
def bk (m : Int) : Nat → Int → List Bool
  | 0, _ => []
  | t + 1, x => bk m t (x / 2 + lf m t) ++ [decide (x % 2 = 1)]
theorem bk_len (m : Int) : ∀ (t : Nat) (x : Int), (bk m t x).length = t
  | 0, _ => rfl
  | t + 1, x => by rw [bk, List.length_append, bk_len m t]; rfl
theorem drawP_app {m : Int} : ∀ (r s : List Bool) (u p q p' q' : Int), drawP m u r p q = (false, p', q') → drawP m u (r ++ s) p q = drawP m (u + r.length) s p' q'
  | [], s, u, p, q, p', q', h => by
    cases h
    simp
  | b :: r, s, u, p, q, p', q', h => by
    rw [drawP] at h
    rw [List.cons_append, drawP, List.length_cons, show u + ((r.length + 1 : Nat) : Int) = u + 1 + r.length by omega]
    split at h
    · split at h
      · cases h
      · next c1 c2 =>
        rw [if_pos c1, if_neg c2]
        exact drawP_app r s _ _ _ _ _ h
    · next c1 =>
      rw [if_neg c1]
      exact drawP_app r s _ _ _ _ _ h
theorem bit_of (x : Int) : 2 * (x / 2) + bit (decide (x % 2 = 1)) = x := by
  unfold bit
  by_cases h : x % 2 = 1
  · simp [h]; omega
  · simp [h]; omega
theorem odd_lf {m : Int} (hm : 1 < m) (t : Nat) : lf m (t + 1) = (if m ≤ 2 * on m t then m else 0) ∧ on m (t + 1) = (if m ≤ 2 * on m t then 2 * on m t - m else 2 * on m t) := by
  have h := mod_step (m := m) (W := 2 ^ t) (p := on m t) hm rfl
  have e : (2 : Int) ^ (t + 1) = 2 * 2 ^ t := by rw [Int.pow_succ, Int.mul_comm]
  have hs := lf_succ (m := m) (by omega) t
  have h' : on m (t + 1) = (if m ≤ 2 * on m t then 2 * on m t - m else 2 * on m t) := by
    show (2 : Int) ^ (t + 1) % m = _
    rw [e]; exact h.symm
  refine ⟨?_, h'⟩
  rw [hs, h']
  split <;> omega
theorem reach {m : Int} (hm : 1 < m) : ∀ (t : Nat) (q : Int), 0 ≤ q → q < on m t → drawP m 0 (bk m t (q + lf m t)) 1 0 = (false, on m t, q)
  | 0, q, h0, h1 => by
    have e : on m 0 = 1 := Int.emod_eq_of_lt (by decide) hm
    rw [e] at h1 ⊢
    have : q = 0 := by omega
    subst this
    rfl
  | t + 1, q, h0, h1 => by
    obtain ⟨e1, e2⟩ := odd_lf hm t
    have b0 := on_bd (show 1 ≤ m by omega) t
    have hx := bit_of (q + lf m (t + 1))
    have hb := bit_bd (decide ((q + lf m (t + 1)) % 2 = 1))
    have key : q + lf m (t + 1) < 2 * on m t := by
      rw [e1]; rw [e2] at h1
      split at h1 <;> rename_i c
      · rw [if_pos c]; omega
      · rw [if_neg c]; omega
    have ge : 0 ≤ q + lf m (t + 1) := by rw [e1]; split <;> omega
    rw [bk, drawP_app _ _ _ _ _ _ _ (reach hm t ((q + lf m (t + 1)) / 2) (by omega) (by omega)), drawP, hx]
    by_cases c : m ≤ 2 * on m t
    · rw [if_pos c] at e1 e2
      rw [if_pos c, if_neg (by omega), e2, e1]
      show (false, _, _) = (false, _, _)
      congr 2; omega
    · rw [if_neg c] at e1 e2
      rw [if_neg c, e2, e1]
      show (false, _, _) = (false, _, _)
      congr 2; omega
theorem row_draws {m : Int} (hm : 1 ≤ m) {t : Nat} (ht : 0 < lf m t) {x : Int} (h0 : 0 ≤ x) (h1 : x < m) : drawR m (bk m t x) = (true, x, (t : Int)) ∧ (0 < t → ∃ a b, drawR m ((bk m t x).dropLast) = (false, a, b)) := by
  unfold drawR
  by_cases c : m = 1
  · subst c
    have hx : x = 0 := by omega
    subst hx
    cases t with
    | zero => exact ⟨rfl, fun z => absurd z (by decide)⟩
    | succ t =>
      exfalso
      have a := lf_succ (m := 1) (by decide) t
      have b := on_bd (m := 1) (by decide) t
      have b' := on_bd (m := 1) (by decide) (t + 1)
      omega
  · have hm' : 1 < m := by omega
    rw [if_neg c, if_neg c]
    cases t with
    | zero =>
      exfalso
      have a := lf_zero hm
      have e : on m 0 = 1 := Int.emod_eq_of_lt (by decide) hm'
      omega
    | succ t =>
      obtain ⟨e1, e2⟩ := odd_lf hm' t
      have cc : m ≤ 2 * on m t := by
        by_cases cc : m ≤ 2 * on m t
        · exact cc
        · rw [if_neg cc] at e1; omega
      have r := reach hm' t (x / 2) (by omega) (by omega)
      have hx := bit_of x
      refine ⟨?_, fun _ => ?_⟩
      · rw [bk, drawP_app _ _ _ _ _ _ _ r, drawP, hx, if_pos cc, if_pos h1, bk_len]
        show (true, _, _) = (true, _, _)
        congr 2
        omega
      · rw [bk, List.dropLast_concat]
        exact ⟨_, _, r⟩
/-- come round in one way -/
theorem Round.uniq {m : Int} {f c f' c' : Nat} (h : Round m f c) (h' : Round m f' c') : f = f' ∧ c = c' := by
  have s : f + c = f' + c' := by
    rcases Nat.lt_trichotomy (f + c) (f' + c') with z | z | z
    · exact absurd h.2.1.symm (h'.2.2 f (f + c) (by have := h.1; omega) z)
    · exact z
    · exact absurd h'.2.1.symm (h.2.2 f' (f' + c') (by have := h'.1; omega) z)
  have e : on m f = on m f' := by
    show (2 : Int) ^ f % m = 2 ^ f' % m
    rw [← h.2.1, ← h'.2.1, s]
  have p := h.1
  have p' := h'.1
  have : f = f' := by
    rcases Nat.lt_trichotomy f f' with z | z | z
    · exact absurd e (h.2.2 f f' z (by omega))
    · exact z
    · exact absurd e.symm (h.2.2 f' f z (by omega))
  omega
/-- what is ahead is not more than the whole -/
theorem tl_up {p : Nat → Int} (hp : ∀ n, 0 ≤ p n) {A D : Int} (hD : 0 ≤ D) (n : Nat) : ∀ d, tl p A D (n + d) ≤ 2 ^ d * tl p A D n
  | 0 => by simp
  | d + 1 => by
    have := tl_up hp hD n d (A := A)
    have := Int.mul_nonneg hD (hp (n + d))
    rw [show n + (d + 1) = n + d + 1 by omega, tl_step, Int.pow_succ, Int.mul_comm (2 ^ d) 2, Int.mul_assoc]
    omega
theorem tl_nn {p : Nat → Int} (hp : ∀ n, 0 ≤ p n) {f c : Nat} (h : Per p f c) (n : Nat) : 0 ≤ tl p (bt p (f + c) - bt p f) (dn f c) n := by
  have hD : 0 ≤ dn f c := Int.le_of_lt (dn_pos h.1)
  have t0 : tl p (bt p (f + c) - bt p f) (dn f c) (f + c) = tl p (bt p (f + c) - bt p f) (dn f c) f := by
    unfold tl dn
    have e1 : (bt p (f + c) - bt p f) * 2 ^ (f + c) = (bt p (f + c) - bt p f) * 2 ^ f + (bt p (f + c) - bt p f) * (2 ^ f * (2 ^ c - 1)) := by
      rw [← Int.mul_add, Int.mul_sub (2 ^ f), Int.mul_one, ← Int.pow_add]
      congr 1; omega
    have e2 : 2 ^ f * (2 ^ c - 1) * bt p (f + c) = (bt p (f + c) - bt p f) * (2 ^ f * (2 ^ c - 1)) + 2 ^ f * (2 ^ c - 1) * bt p f := by
      rw [Int.mul_comm (bt p (f + c) - bt p f), ← Int.mul_add]; congr 1; omega
    rw [e1, e2]
    omega
  generalize bt p (f + c) - bt p f = A at t0 ⊢
  generalize dn f c = D at hD t0 ⊢
  have tf : 0 ≤ tl p A D f := by
    have := tl_up hp hD f c (A := A)
    rw [t0] at this
    have g := two_gt h.1
    have : 0 ≤ (2 ^ c - 1) * tl p A D f := by rw [Int.sub_mul, Int.one_mul]; omega
    exact Int.nonneg_of_mul_nonneg_right this (by omega)
  have big : ∀ d, 0 ≤ tl p A D (f + d * c) := fun d => by
    induction d with
    | zero => simpa using tf
    | succ d ih =>
      have q := tl_per h A D f (d * c) (Nat.le_refl _)
      rw [t0, Int.sub_self, Int.mul_zero] at q
      rw [show f + (d + 1) * c = f + d * c + c by rw [Nat.add_mul]; omega]
      omega
  -- n is at most f + n * c
  have hc := h.1
  have le : n ≤ f + n * c := Nat.le_trans (Nat.le_mul_of_pos_right n hc) (by omega)
  obtain ⟨d, hd⟩ : ∃ d, f + n * c = n + d := ⟨f + n * c - n, by omega⟩
  have u := tl_up hp hD n d (A := A)
  have b := big n
  rw [hd] at b
  have t := two_pos d
  exact Int.nonneg_of_mul_nonneg_right (Int.le_trans b u) t
theorem near_le {p : Nat → Int} (hp : ∀ n, 0 ≤ p n) {f c : Nat} (h : Per p f c) (L : Nat) : (fr (bt p (L + 1)) (2 ^ L)).1 * (mv p).2 ≤ (mv p).1 * (fr (bt p (L + 1)) (2 ^ L)).2 := by
  rw [← mv_is h]
  unfold mvF
  have d1 := dn_pos (f := f) h.1
  have d2 := two_pos L
  have c1 := fr_cross (bt p (L + 1)) (b := 2 ^ L) (by omega)
  have c2 := fr_cross (2 * (bt p (f + c) - bt p f)) (b := dn f c) (by omega)
  have p1 := fr_pos (bt p (L + 1)) (b := 2 ^ L) (by omega)
  have p2 := fr_pos (2 * (bt p (f + c) - bt p f)) (b := dn f c) (by omega)
  have t := tl_nn hp h (L + 1)
  unfold tl at t
  generalize bt p (f + c) - bt p f = A at c2 p2 t ⊢
  generalize dn f c = D at c2 d1 p2 t ⊢
  generalize bt p (L + 1) = B at c1 p1 t ⊢
  generalize fr B (2 ^ L) = x at c1 p1 ⊢
  generalize fr (2 * A) D = y at c2 p2 ⊢
  have key : B * D ≤ 2 * A * 2 ^ L := by
    have a1 : 2 * A * 2 ^ L = A * 2 ^ (L + 1) := by rw [Int.pow_succ]; ac_rfl
    have a2 : B * D = D * B := Int.mul_comm _ _
    omega
  refine Int.le_of_mul_le_mul_right ?_ (Int.mul_pos d2 d1)
  rw [show x.1 * y.2 * (2 ^ L * D) = (x.1 * 2 ^ L) * (y.2 * D) by rw [Int.mul_assoc, Int.mul_left_comm y.2, ← Int.mul_assoc], c1,
    show y.1 * x.2 * (2 ^ L * D) = (y.1 * D) * (x.2 * 2 ^ L) by rw [Int.mul_assoc, Int.mul_comm (2 ^ L) D, Int.mul_left_comm x.2, ← Int.mul_assoc], c2,
    show B * x.2 * (y.2 * D) = (B * D) * (x.2 * y.2) by ac_rfl,
    show 2 * A * y.2 * (x.2 * 2 ^ L) = (2 * A * 2 ^ L) * (x.2 * y.2) by ac_rfl]
  exact Int.mul_le_mul_of_nonneg_right key (Int.le_of_lt (Int.mul_pos p1 p2))
/-- among twice as many -/
theorem on_two {m : Int} (hm : 1 ≤ m) : on (2 * m) 0 = 1 ∧ ∀ t, on (2 * m) (t + 1) = 2 * on m t := by
  refine ⟨Int.emod_eq_of_lt (by decide) (by omega), fun t => ?_⟩
  show (2 : Int) ^ (t + 1) % (2 * m) = 2 * (2 ^ t % m)
  rw [Int.pow_succ, Int.mul_comm _ 2, Int.mul_emod_mul_of_pos _ _ (by decide)]
theorem bt_two {m : Int} (hm : 1 ≤ m) : ∀ n, bt (on (2 * m)) (n + 1) = 2 ^ n + 2 * bt (on m) n
  | 0 => by
    show 2 * 0 + on (2 * m) 0 = 2 ^ 0 + 2 * 0
    rw [(on_two hm).1]; rfl
  | n + 1 => by
    rw [bt, bt_two hm n, (on_two hm).2, bt, Int.pow_succ]
    omega
theorem mv_two {m : Int} (hm : 1 ≤ m) {f c : Nat} (h : Per (on m) f c) : mv (on (2 * m)) = fr ((mv (on m)).1 + (mv (on m)).2) (mv (on m)).2 := by
  have h2 : Per (on (2 * m)) (f + 1) c := ⟨h.1, fun n hn => by
    obtain ⟨k, rfl⟩ : ∃ k, n = k + 1 := ⟨n - 1, by omega⟩
    rw [show k + 1 + c = k + c + 1 by omega, (on_two hm).2, (on_two hm).2, h.2 k (by omega)]⟩
  rw [← mv_is h2, ← mv_is h]
  have d1 := dn_pos (f := f) h.1
  have c1 := fr_cross (2 * (bt (on m) (f + c) - bt (on m) f)) (b := dn f c) (by omega)
  have p1 := fr_pos (2 * (bt (on m) (f + c) - bt (on m) f)) (b := dn f c) (by omega)
  unfold mvF
  rw [show f + 1 + c = f + c + 1 by omega, bt_two hm, bt_two hm]
  have e : dn (f + 1) c = 2 * dn f c := by
    unfold dn; rw [Int.pow_succ, Int.mul_comm _ 2, Int.mul_assoc]
  have e2 : (2 : Int) ^ (f + c) - 2 ^ f = dn f c := by
    unfold dn; rw [Int.mul_sub, Int.mul_one, ← Int.pow_add]
  have e3 : 2 * (2 ^ (f + c) + 2 * bt (on m) (f + c) - (2 ^ f + 2 * bt (on m) f)) = 2 * (dn f c + 2 * (bt (on m) (f + c) - bt (on m) f)) := by rw [← e2]; omega
  rw [e, e3]
  generalize 2 * (bt (on m) (f + c) - bt (on m) f) = N at c1 p1 ⊢
  generalize dn f c = D at c1 p1 d1 ⊢
  generalize fr N D = x at c1 p1 ⊢
  have c3 := fr_cross (x.1 + x.2) (b := x.2) (by omega)
  have p3 := fr_pos (x.1 + x.2) (b := x.2) (by omega)
  have g3 := fr_gcd (x.1 + x.2) (b := x.2) (by omega)
  generalize fr (x.1 + x.2) x.2 = y at c3 p3 g3 ⊢
  refine fr_uniq (p := y.1) (q := y.2) (by omega) p3 g3 ?_
  -- y.1 * x.2 = (x.1 + x.2) * y.2,  x.1 * D = N * x.2
  refine Int.eq_of_mul_eq_mul_right (show x.2 ≠ 0 by omega) ?_
  rw [show y.1 * (2 * D) * x.2 = (y.1 * x.2) * (2 * D) by ac_rfl, c3,
    show (x.1 + x.2) * y.2 * (2 * D) = 2 * (y.2 * (x.1 * D + x.2 * D)) by rw [← Int.add_mul]; ac_rfl, c1,
    show 2 * (D + N) * y.2 * x.2 = 2 * (y.2 * (N * x.2 + x.2 * D)) by rw [Int.mul_comm x.2 D, ← Int.add_mul, Int.add_comm N D]; ac_rfl]
end K41

namespace K41
open PySem PySem.Spec L2 PL
def topS (i : Nat) : Stmt := PySem.Challenge.pw_serialhouse_k41_whole_rows_rounds_and_me.main.body.getD i (.Pass ⟨0, 0, 0, 0⟩)
abbrev s_common_part : Stmt := topS 2
theorem sc_common_part : FnScope ["one", "other"] ["one", "other"] (defScope s_common_part) := ⟨rfl, rfl, rfl, by decide +kernel, rfl, by decide +kernel, by decide +kernel⟩
abbrev s_fraction : Stmt := topS 3
theorem sc_fraction : FnScope ["top", "bottom", "part"] ["top", "bottom"] (defScope s_fraction) := ⟨rfl, rfl, rfl, by decide +kernel, rfl, by decide +kernel, by decide +kernel⟩
abbrev s_power : Stmt := topS 4
theorem sc_power : FnScope ["base", "exponent", "found", "turn"] ["base", "exponent"] (defScope s_power) := ⟨rfl, rfl, rfl, by decide +kernel, rfl, by decide +kernel, by decide +kernel⟩
abbrev s_draw : Stmt := topS 8
theorem sc_draw : FnScope ["many", "tosses", "places", "place", "used", "toss"] ["many", "tosses"] (defScope s_draw) := ⟨rfl, rfl, rfl, by decide +kernel, rfl, by decide +kernel, by decide +kernel⟩
abbrev s_opens_to : Stmt := topS 9
theorem sc_opens_to : FnScope ["many", "depth", "found", "turn"] ["many", "depth"] (defScope s_opens_to) := ⟨rfl, rfl, rfl, by decide +kernel, rfl, by decide +kernel, by decide +kernel⟩
abbrev s_leaves_to : Stmt := topS 10
theorem sc_leaves_to : FnScope ["many", "depth", "opens", "ahead", "here"] ["many", "depth"] (defScope s_leaves_to) := ⟨rfl, rfl, rfl, by decide +kernel, rfl, by decide +kernel, by decide +kernel⟩
abbrev s_open_at : Stmt := topS 11
theorem sc_open_at : FnScope ["many", "depth"] ["many", "depth"] (defScope s_open_at) := ⟨rfl, rfl, rfl, by decide +kernel, rfl, by decide +kernel, by decide +kernel⟩
abbrev s_leaves_at : Stmt := topS 12
theorem sc_leaves_at : FnScope ["many", "depth"] ["many", "depth"] (defScope s_leaves_at) := ⟨rfl, rfl, rfl, by decide +kernel, rfl, by decide +kernel, by decide +kernel⟩
abbrev s_open_round : Stmt := topS 13
theorem sc_open_round : FnScope ["many", "known", "rest"] ["many"] (defScope s_open_round) := ⟨rfl, rfl, rfl, by decide +kernel, rfl, by decide +kernel, by decide +kernel⟩
abbrev s_row_back : Stmt := topS 14
theorem sc_row_back : FnScope ["leaves", "index", "depth", "place", "found", "here"] ["leaves", "index", "depth"] (defScope s_row_back) := ⟨rfl, rfl, rfl, by decide +kernel, rfl, by decide +kernel, by decide +kernel⟩
abbrev s_rows_to : Stmt := topS 15
theorem sc_rows_to : FnScope ["many", "index", "most", "leaves", "depth", "count"] ["many", "index", "most"] (defScope s_rows_to) := ⟨rfl, rfl, rfl, by decide +kernel, rfl, by decide +kernel, by decide +kernel⟩
abbrev s_by_twos : Stmt := topS 16
theorem sc_by_twos : FnScope ["numbers", "found", "number"] ["numbers"] (defScope s_by_twos) := ⟨rfl, rfl, rfl, by decide +kernel, rfl, by decide +kernel, by decide +kernel⟩
abbrev s_mean_of : Stmt := topS 17
theorem sc_mean_of : FnScope ["places", "first", "count", "ahead", "around", "less"] ["places", "first", "count"] (defScope s_mean_of) := ⟨rfl, rfl, rfl, by decide +kernel, rfl, by decide +kernel, by decide +kernel⟩
abbrev s_mean : Stmt := topS 18
theorem sc_mean : FnScope ["many", "first", "count"] ["many"] (defScope s_mean) := ⟨rfl, rfl, rfl, by decide +kernel, rfl, by decide +kernel, by decide +kernel⟩
abbrev s_mean_by : Stmt := topS 19
theorem sc_mean_by : FnScope ["weights", "whole", "first", "count", "rests", "places", "depth", "rest"] ["weights"] (defScope s_mean_by) := ⟨rfl, rfl, rfl, by decide +kernel, rfl, by decide +kernel, by decide +kernel⟩
abbrev s_law_deck : Stmt := topS 21
theorem sc_law_deck : FnScope ["_law_script", "_law_cells", "_law_mixed", "_law_cell"] ["_law_script"] (defScope s_law_deck) := ⟨rfl, rfl, rfl, by decide +kernel, rfl, by decide +kernel, by decide +kernel⟩
abbrev s_law_draw : Stmt := topS 22
theorem sc_law_draw : FnScope ["_law_deck_here", "_law_much", "_law_turn", "_law_made", "_law_cell"] ["_law_deck_here", "_law_much"] (defScope s_law_draw) := ⟨rfl, rfl, rfl, by decide +kernel, rfl, by decide +kernel, by decide +kernel⟩
abbrev s_law_pick : Stmt := topS 23
theorem sc_law_pick : FnScope ["_law_deck_here", "_law_some"] ["_law_deck_here", "_law_some"] (defScope s_law_pick) := ⟨rfl, rfl, rfl, by decide +kernel, rfl, by decide +kernel, by decide +kernel⟩
abbrev s_law_twos : Stmt := topS 24
theorem sc_law_twos : FnScope ["_law_much", "_law_found", "_law_k"] ["_law_much"] (defScope s_law_twos) := ⟨rfl, rfl, rfl, by decide +kernel, rfl, by decide +kernel, by decide +kernel⟩
abbrev s_law_ratio : Stmt := topS 25
theorem sc_law_ratio : FnScope ["_law_top", "_law_bottom", "_law_near", "_law_far", "_law_sign"] ["_law_top", "_law_bottom"] (defScope s_law_ratio) := ⟨rfl, rfl, rfl, by decide +kernel, rfl, by decide +kernel, by decide +kernel⟩
abbrev s_law_summed : Stmt := topS 26
theorem sc_law_summed : FnScope ["_law_opens", "_law_found", "_law_places"] ["_law_opens"] (defScope s_law_summed) := ⟨rfl, rfl, rfl, by decide +kernel, rfl, by decide +kernel, by decide +kernel⟩
abbrev s_law_mean_by : Stmt := topS 27
theorem sc_law_mean_by : FnScope ["_law_loads", "_law_whole", "_law_rests", "_law_met", "_law_opens", "_law_first", "_law_ahead", "_law_again", "_law_near", "_law_far", "_law_rest"] ["_law_loads"] (defScope s_law_mean_by) := ⟨rfl, rfl, rfl, by decide +kernel, rfl, by decide +kernel, by decide +kernel⟩
abbrev s_law_round : Stmt := topS 28
theorem sc_law_round : FnScope ["_law_much", "_law_met", "_law_rest"] ["_law_much"] (defScope s_law_round) := ⟨rfl, rfl, rfl, by decide +kernel, rfl, by decide +kernel, by decide +kernel⟩
abbrev s_law_rows_right : Stmt := topS 29
theorem sc_law_rows_right : FnScope ["_law_much", "_law_piece", "_law_limit", "_law_rows", "_law_depths", "_law_power", "_law_level", "_law_row"] ["_law_much", "_law_piece", "_law_limit"] (defScope s_law_rows_right) := ⟨rfl, rfl, rfl, by decide +kernel, rfl, by decide +kernel, by decide +kernel⟩
abbrev s_law_sums_right : Stmt := topS 30
theorem sc_law_sums_right : FnScope ["_law_much", "_law_limit", "_law_due", "_law_weighed", "_law_lengths", "_law_near", "_law_level"] ["_law_much", "_law_limit"] (defScope s_law_sums_right) := ⟨rfl, rfl, rfl, by decide +kernel, rfl, by decide +kernel, by decide +kernel⟩
abbrev s_law : Stmt := topS 31
theorem sc_law : FnScope ["_law_script", "_law_deck_here", "_law_turn", "_law_some", "_law_much", "_law_due", "_law_go", "_law_piece"] ["_law_script"] (defScope s_law) := ⟨rfl, rfl, rfl, by decide +kernel, rfl, by decide +kernel, by decide +kernel⟩
theorem dp_ints {K : PySem.W.Frag} {H : Hp} : ∀ cs : List Int, DpAll K H (cs.map V.int) (cs.map PyData.int)
  | [] => .nil
  | _ :: r => .cons (.int _) (dp_ints r)
theorem shaped_ints (cs : List Int) : SeqAt.shaped (.list (cs.map PyData.int)) = true := by
  have h1 : PyData.canLayAll0 (cs.map PyData.int) = true := by
    induction cs with
    | nil => rfl
    | cons x r ih => rw [List.map_cons, PyData.canLayAll0, ih]; rfl
  have h2 : PyData.depthAll (cs.map PyData.int) ≤ 1 := by
    clear h1
    induction cs with
    | nil => exact Nat.zero_le _
    | cons x r ih => rw [List.map_cons, PyData.depthAll]; simp only [PyData.depth]; omega
  have h3 : (PyData.list (cs.map PyData.int)).depth ≤ 64 := by rw [PyData.depth]; omega
  unfold SeqAt.shaped
  rw [PyData.canLay0, h1, decide_eq_true h3]
  rfl
section
variable {P : Program} {w : World} {K : PySem.W.Frag} {mg : Str → Option Value} {base : Heap}
/-- the deck's dict -/
abbrev dkv (a b c : V) : List (Key × V) := [(Sum.inr NM.1, a), (Sum.inr NM.2.1, b), (Sum.inr NM.2.2, c)]
theorem val1 (a b c : V) : valV (dkv a b c) (Sum.inr NM.1) = some a := rfl
theorem val2 (a b c : V) : valV (dkv a b c) (Sum.inr NM.2.1) = some b := rfl
theorem val3 (a b c : V) : valV (dkv a b c) (Sum.inr NM.2.2) = some c := rfl
theorem put3 (a b c d : V) : putK (dkv a b c) (Sum.inr NM.2.2) d = dkv a b d := rfl
theorem dget1 {H : Hp} {l : Addr} {a b c : V} (h : H l = some (.dK (dkv a b c))) : DGet H l (.str NM.1) (some a) := .inl ⟨_, Sum.inr NM.1, .inl h, rfl, (val1 a b c).symm⟩
theorem dget2 {H : Hp} {l : Addr} {a b c : V} (h : H l = some (.dK (dkv a b c))) : DGet H l (.str NM.2.1) (some b) := .inl ⟨_, Sum.inr NM.2.1, .inl h, rfl, (val2 a b c).symm⟩
theorem dget3 {H : Hp} {l : Addr} {a b c : V} (h : H l = some (.dK (dkv a b c))) : DGet H l (.str NM.2.2) (some c) := .inl ⟨_, Sum.inr NM.2.2, .inl h, rfl, (val3 a b c).symm⟩
theorem dput3 {H : Hp} {l : Addr} {a b c d : V} (h : H l = some (.dK (dkv a b c))) : DPut H l (.str NM.2.2) d (upd H l (.dK (dkv a b d))) := .inl ⟨_, Sum.inr NM.2.2, h, rfl, by show 3 < sizeLine; decide, by rw [put3]⟩
/-- a draw below b -/
def S_law_draw : PL.Spec := fun ds n R => ∃ b : Int, ds = [.res, .int b] ∧ 0 < b ∧ b < 1073741824 ∧ n < lim ∧ ∀ m : Int, 0 ≤ m → m < b → R (.int m) (n + 1)
abbrev getK {X : Cx} (hu : X.A.units + 1 < cLine) {o i : Expr} {td ty : TE} {pos : Pos} (ho : PE X o td) (hi : PE X i ty) (hs : NoSl i) : PE X (.Subscript o i pos) (tDGet td ty) := pe_dget hu ho hi hs
theorem ok_law_draw {f : Addr} {fd : FuncData} (F : Fun K "_law_draw" "_law_draw" s_law_draw f fd) (hm : mg "_law_draw" = some (.ref f)) (B : BI mg) : FnC P w K mg base 1 "_law_draw" ["_law_deck_here", "_law_much"] [] S_law_draw := by
  have hb := (F.binds (ps := ["_law_deck_here", "_law_much"]) fun _ _ _ _ _ _ us hl => match us, hl with | [_, _], _ => rfl)
  have hnb : ∀ q ∈ ([] : List (List Str × List Nat)), NBinds K fd ["_law_deck_here", "_law_much"] q.1 q.2 := (fun q hq => nomatch hq)
  refine fncH F hm hb hnb (k := 1) ?_
  refine F.okG (k := 0) sc_law_draw (fun vs H Q E h => ?_) (fun cdv A outer s H vs Q E hgd hr h => ?_)
  · obtain ⟨c, n, F0, ds, R, hK, h1, h2, h3, r, ⟨b, rfl, _⟩, _⟩ := h
    exact r.length
  · obtain ⟨c, n, F0, ds, R, hK, h1, h2, ⟨ne, cs, mx, k, d1, d2, d3, d4, d5, d6⟩, r, ⟨b, rfl, b1, b2, hn, hR⟩, hq⟩ := h
    cases r with
    | cons r r' =>
    cases r' with
    | cons r' r'' =>
    cases r''
    cases r
    cases r'
    have hu := hu_of hr
    refine ⟨_, (pss_cons (ps_dput hu (pv 0) pe_str (pe_op op_add (pe_dget hu (pv 0) pe_str (fun _ _ => rfl)) pe_int) rfl)
      (pss_cons (ps_par (i := 2) (j := 3) rfl sc_law_draw.nd rfl rfl (by decide) rfl rfl (pa_cons (pe_dget hu (pv 0) pe_str (fun _ _ => rfl)) (pa_cons (pe_dget hu (pv 0) pe_str (fun _ _ => rfl)) pa_nil)) (by rfl))
      (pss_cons (ps_if (pt_cmpR (op_neD hr.units) (pe_dget hu (pv 0) pe_str (fun _ _ => rfl)) (pe_lst pa_nil) (nomark _))
        (pss_cons (ps_set (i := 4) sc_law_draw.nd rfl (.inl rfl) (pe_bm0 PySem.F.plainAttrs_list PySem.F.slot_list_pop PySem.F.type_list_pop mt_pop (pe_dget hu (pv 0) pe_str (fun _ _ => rfl))))
        (pss_cons (ps_if (pt_cmpR op_ge (pv 4) (pe_op op_pow pe_int pe_int) (nomark _))
          (pss_cons (ps_expr (pe_bm PySem.F.plainAttrs_list PySem.F.slot_list_append PySem.F.type_list_append mt_append (pe_dget hu (pv 0) pe_str (fun _ _ => rfl)) (pa_cons (pe_op op_fdiv (pv 4) (pv 1)) pa_nil)))
            (pss_one (ps_ret (pe_op op_mod (pe_callTy call_int1 rfl B.int (by decide +kernel) (pa_cons (pv 4) pa_nil)) (pv 1))))) pss_nil)
        (pss_one (ps_set (i := 3) sc_law_draw.nd rfl (.inl rfl) (pe_op op_add (pv 3) (pe_op op_mod (pe_callTy call_int1 rfl B.int (by decide +kernel) (pa_cons (pv 4) pa_nil)) pe_int)))))) pss_nil)
      (pss_cons (ps_set (i := 3) sc_law_draw.nd rfl (.inl rfl) (pe_op op_mod (pe_callTy call_int1 rfl B.int (by decide +kernel) (pa_cons (pe_op op_add (pe_op op_add (pv 3) (pe_op op_mul (pe_op op_mul pe_int (pv 2)) (pv 2))) pe_int) pa_nil)) pe_int))
      (pss_cons (ps_set (i := 3) sc_law_draw.nd rfl (.inl rfl) (pe_op op_mod (pe_callTy call_int1 rfl B.int (by decide +kernel) (pa_cons (pe_op op_mul (pv 3) pe_int) pa_nil)) pe_int))
      (pss_cons (ps_set (i := 3) sc_law_draw.nd rfl (.inl rfl) (pe_op op_mod (pe_callTy call_int1 rfl B.int (by decide +kernel) (pa_cons (pe_op op_add (pe_op op_add (pe_op op_mul (pv 3) (pv 3)) (pe_op op_mul pe_int (pv 2))) pe_int) pa_nil)) pe_int))
      (pss_one (ps_ret (pe_op op_mod (pe_op op_fdiv (pe_op op_mod (pe_callTy call_int1 rfl B.int (by decide +kernel) (pa_cons (pe_op op_mul (pv 3) pe_int) pa_nil)) pe_int) pe_int) (pv 1)))))))))), ?_⟩
    -- deck['draws'] = deck['draws'] + 1
    refine ⟨_, rfl, _, _, rfl, dget3 d1, k, 1, rfl, rfl, _, rfl, _, _, rfl, dput3 d1, ?_⟩
    have e1 : (upd H c.dd (.dK (dkv (.ref c.de) (.int mx) (.int (k + 1))))) c.dd = some (.dK (dkv (.ref c.de) (.int mx) (.int (k + 1)))) := upd_same
    have e2 : (upd H c.dd (.dK (dkv (.ref c.de) (.int mx) (.int (k + 1))))) c.de = some (.lst (cs.map V.int)) := by rw [upd_ne (Ne.symm ne)]; exact d2
    have e3 : ∀ b x, H b = some x → ¬ c.fp b → (upd H c.dd (.dK (dkv (.ref c.de) (.int mx) (.int (k + 1))))) b = some x := fun b x hb hf => by
      rw [upd_ne (fun z => hf (.inl z))]; exact hb
    have e4 : ∀ b, (upd H c.dd (.dK (dkv (.ref c.de) (.int mx) (.int (k + 1))))) b = none → H b = none := fun b hb => by
      by_cases z : b = c.dd
      · subst z; rw [upd_same] at hb; cases hb
      · rw [upd_ne z] at hb; exact hb
    generalize upd H c.dd (.dK (dkv (.ref c.de) (.int mx) (.int (k + 1)))) = H1 at e1 e2 e3 e4
    -- what is handed back
    have fin : ∀ (H' : Hp) (cs' : List Int) (v : Int), H' c.dd = some (.dK (dkv (.ref c.de) (.int mx) (.int (k + 1)))) → H' c.de = some (.lst (cs'.map V.int)) → cs'.length ≤ 63 → (∀ b x, H b = some x → ¬ c.fp b → H' b = some x) → 0 ≤ v → v < b → Q (.int v) H' := by
      intro H' cs' v g1 g2 g3 g4 g5 g6
      refine hq (n + 1) F0 H' _ (.int v) (Same.refl _) g4 (fun b x hb => g4 b x (h1 b x hb) fun hf => ?_) h2 (fun b _ z => z) ⟨ne, cs', mx, k + 1, g1, g2, g3, by omega, by omega, by unfold lim at hn ⊢; omega⟩ (.int v) (hR v g5 g6)
      rw [h2 b hf] at hb; cases hb
    -- turn, made
    refine ⟨_, rfl, _, _, rfl, dget3 e1, _, rfl, _, _, rfl, dget2 e1, _, _, rfl, ?_⟩
    have hk0 : 0 ≤ k + 1 := by omega
    have hk1 : k + 1 < 2 ^ 64 := by unfold lim at hn; omega
    -- if deck['cells'] != []
    refine ⟨_, rfl, _, _, rfl, dget1 e1, Nat.zero_le _, fun p hp => ?_⟩
    have np1 : c.dd ≠ p := ne_of_none e1 hp
    have np2 : c.de ≠ p := ne_of_none e2 hp
    have f1 : (upd H1 p (.lst [])) c.dd = some (.dK (dkv (.ref c.de) (.int mx) (.int (k + 1)))) := by rw [upd_ne np1]; exact e1
    have f2 : (upd H1 p (.lst [])) c.de = some (.lst (cs.map V.int)) := by rw [upd_ne np2]; exact e2
    have f3 : ∀ b x, H b = some x → ¬ c.fp b → (upd H1 p (.lst [])) b = some x := fun b x hb hf => by
      rw [upd_ne (ne_of_none (e3 b x hb hf) hp)]; exact e3 b x hb hf
    have f0 : (upd H1 p (.lst [])) p = some (.lst []) := upd_same
    generalize upd H1 p (.lst []) = H2 at f1 f2 f3 f0
    refine ⟨.list (cs.map PyData.int), .list [], .lst (SqL.of f2) (dp_ints cs), .lst (SqL.of f0) .nil, shaped_ints cs, by decide, _, rfl, ?_⟩
    by_cases hc : cs = []
    · subst hc
      refine iteF ?_
      refine ⟨_, rfl, _, rfl, _, _, rfl, rfl, .inl ⟨by decide, by decide⟩, _, rfl, _, _, rfl, rfl, .inr ⟨by omega, by omega⟩, _, _, rfl, rfl, _, _, rfl, rfl, .inl ⟨_, rfl, _, _, rfl, rfl, (by show (0 : Int) < _; decide), ?_⟩⟩
      refine ⟨_, rfl, _, _, rfl, rfl, .inr ⟨by decide, by decide⟩, .inl ⟨_, rfl, _, _, rfl, rfl, (by show (0 : Int) < _; decide), ?_⟩⟩
      refine ⟨_, rfl, _, rfl, _, _, rfl, rfl, .inl ⟨by omega, by omega⟩, _, rfl, _, _, rfl, rfl, .inl ⟨by decide, by decide⟩, _, _, rfl, rfl, _, _, rfl, rfl, .inl ⟨_, rfl, _, _, rfl, rfl, (by show (0 : Int) < _; decide), ?_⟩⟩
      refine ⟨_, rfl, _, _, rfl, rfl, .inr ⟨by decide, by decide⟩, .inl ⟨_, rfl, _, _, rfl, rfl, (by show (0 : Int) < _; decide), _, _, rfl, rfl, ⟨by decide, by decide⟩, _, rfl, _, _, rfl, rfl, b1, ?_⟩⟩
      exact fin _ [] _ f1 f2 (Nat.zero_le _) f3 (Int.emod_nonneg _ (by omega)) (Int.emod_lt_of_pos _ b1)
    · have hne : (!PyData.eqv (.list (cs.map PyData.int)) (.list [])) = true := by
        cases cs with
        | nil => exact absurd rfl hc
        | cons x r => rfl
      rw [hne]
      refine iteT ?_
      obtain ⟨cs0, x, rfl⟩ : ∃ cs0 x, cs = cs0 ++ [x] := ⟨cs.dropLast, cs.getLast hc, (List.dropLast_concat_getLast hc).symm⟩
      have hdl : ((cs0 ++ [x]).map V.int).dropLast = cs0.map V.int := by rw [List.map_append]; simp
      have hla : ((cs0 ++ [x]).map V.int)[((cs0 ++ [x]).map V.int).length - 1]? = some (V.int x) := by simp
      refine ⟨_, rfl, _, _, rfl, dget1 f1, .inl ⟨rfl, _, SqL.of f2⟩, _, _, _, rfl, rfl, f2, hla, ?_⟩
      rw [hdl]
      have g1 : (upd H2 c.de (.lst (cs0.map V.int))) c.dd = some (.dK (dkv (.ref c.de) (.int mx) (.int (k + 1)))) := by rw [upd_ne ne]; exact f1
      have g2 : (upd H2 c.de (.lst (cs0.map V.int))) c.de = some (.lst (cs0.map V.int)) := upd_same
      have g3 : ∀ b x, H b = some x → ¬ c.fp b → (upd H2 c.de (.lst (cs0.map V.int))) b = some x := fun b x hb hf => by
        rw [upd_ne (fun z => hf (.inr z))]; exact f3 b x hb hf
      generalize upd H2 c.de (.lst (cs0.map V.int)) = H3 at g1 g2 g3
      have hlen : cs0.length + 1 ≤ 63 := by simpa using d3
      -- if cell >= 10 ** 18
      refine ⟨_, rfl, _, _, rfl, rfl, ⟨by decide, by decide, by decide⟩, _, _, rfl, rfl, _, rfl, ite2 (fun _ => ?_) (fun _ => ?_)⟩
      · refine ⟨_, rfl, _, _, rfl, dget1 g1, .inl ⟨rfl, _, SqL.of g2⟩, _, rfl, _, rfl, _, _, rfl, rfl, ⟨b1, b2⟩, _, _, _, rfl, rfl, g2, ?_, ?_⟩
        · rw [List.length_map, sizeLine_val]; omega
        · refine ⟨_, rfl, .inl ⟨_, rfl, _, rfl, _, _, rfl, rfl, b1, ?_⟩⟩
          refine fin _ (cs0 ++ [x / b]) _ ?_ ?_ (by rw [List.length_append]; exact hlen) ?_ (Int.emod_nonneg _ (by omega)) (Int.emod_lt_of_pos _ b1)
          · rw [upd_ne ne]; exact g1
          · rw [upd_same, List.map_append]; rfl
          · intro b x hb hf
            rw [upd_ne (fun z => hf (.inr z))]; exact g3 b x hb hf
      · refine ⟨_, rfl, _, rfl, .inl ⟨_, rfl, _, _, rfl, rfl, (by show (0 : Int) < _; decide), _, _, rfl, rfl, ?_⟩⟩
        refine ⟨_, rfl, _, rfl, _, _, rfl, rfl, .inl ⟨by decide, by decide⟩, _, rfl, _, _, rfl, rfl, .inr ⟨by omega, by omega⟩, _, _, rfl, rfl, _, _, rfl, rfl, .inl ⟨_, rfl, _, _, rfl, rfl, (by show (0 : Int) < _; decide), ?_⟩⟩
        refine ⟨_, rfl, _, _, rfl, rfl, .inr ⟨by decide, by decide⟩, .inl ⟨_, rfl, _, _, rfl, rfl, (by show (0 : Int) < _; decide), ?_⟩⟩
        refine ⟨_, rfl, _, rfl, _, _, rfl, rfl, .inl ⟨by omega, by omega⟩, _, rfl, _, _, rfl, rfl, .inl ⟨by decide, by decide⟩, _, _, rfl, rfl, _, _, rfl, rfl, .inl ⟨_, rfl, _, _, rfl, rfl, (by show (0 : Int) < _; decide), ?_⟩⟩
        refine ⟨_, rfl, _, _, rfl, rfl, .inr ⟨by decide, by decide⟩, .inl ⟨_, rfl, _, _, rfl, rfl, (by show (0 : Int) < _; decide), _, _, rfl, rfl, ⟨by decide, by decide⟩, _, rfl, _, _, rfl, rfl, b1, ?_⟩⟩
        exact fin _ cs0 _ g1 g2 (by omega) g3 (Int.emod_nonneg _ (by omega)) (Int.emod_lt_of_pos _ b1)
theorem deck_ok {f : Addr} {fd : FuncData} (F : Fun K "_law_deck" "_law_deck" s_law_deck f fd) (B : BI mg) : FnG P w K mg base 1 f fd ["_law_script"] (spDeck K) := by
  refine F.okG (k := 0) sc_law_deck (fun vs H Q E h => ?_) (fun cdv A outer s H vs Q E hgd hr h => ?_)
  · obtain ⟨a, ns, rfl, _⟩ := h
    rfl
  · obtain ⟨a, ns, rfl, hS, hl, hq⟩ := h
    refine ⟨_, (pss_cons (ps_par (i := 1) (j := 2) rfl sc_law_deck.nd rfl rfl (by decide) rfl rfl (pa_cons (pe_callTy call_list_of rfl B.list (by decide +kernel) (pa_cons (pe_slice sl_list (pv 0) po_none (po_some pe_int)) pa_nil)) (pa_cons pe_int pa_nil)) (by rfl))
      (pss_cons (ps_for PassesOwn.never rfl (pi_list (pv 1)) (pg_name (i := 3) sc_law_deck.nd rfl (.inl rfl))
        (pss_one (ps_set (i := 2) sc_law_deck.nd rfl (.inl rfl) (pe_op op_mod (pe_callTy call_int1 rfl B.int (by decide +kernel) (pa_cons (pe_op op_add (pe_op op_add (pe_op op_mul (pv 2) pe_int) (pe_op op_mod (pe_callTy call_int1 rfl B.int (by decide +kernel) (pa_cons (pv 3) pa_nil)) pe_int)) pe_int) pa_nil)) pe_int))))
      (pss_one (ps_ret (pe_disp (pps_cons pe_str (pe_revL (pv 1)) (pps_cons pe_str (pv 2) (pps_cons pe_str pe_int pps_nil))) (by rfl) (by rfl) (fun z => by cases z) (by decide)))))), ?_⟩
    have hcut : ∀ xs : List V, ∃ ys : List V, cutV xs none (some 63) = ys ∧ ys = xs.take (min 63 xs.length) := fun xs => ⟨_, rfl, by
      unfold cutV
      rw [show HT.sIx xs.length xs.length (some 63) = min 63 xs.length from HT.sIx_nat xs.length xs.length 63, HT.sIx_none]
      simp⟩
    refine ⟨_, rfl, _, rfl, _, _, rfl, hS, fun p hp => ⟨p, _, rfl, .inl (SqL.of upd_same), fun q hq2 => ⟨_, _, rfl, ?_⟩⟩⟩
    obtain ⟨ys, e1, e2⟩ := hcut (ns.map V.int)
    rw [e1]
    have e3 : ys = (ns.take (min 63 ns.length)).map V.int := by rw [e2, List.length_map, List.map_take]
    have hlen : (ns.take (min 63 ns.length)).length ≤ 63 := by rw [List.length_take]; omega
    generalize ns.take (min 63 ns.length) = ms at e3 hlen
    subst e3
    have hL : (upd (upd H p (.lst (ms.map V.int))) q (.lst (ms.map V.int))) q = some (.lst (ms.map V.int)) := upd_same
    generalize upd (upd H p (.lst (ms.map V.int))) q (.lst (ms.map V.int)) = H1 at hL
    refine ⟨_, rfl, q, rfl, ⟨_, SqL.of hL⟩, for_list (xs := ms.map V.int) (fun i σ H2 => ∃ (mx : Int) (x3 : Option V), σ = [some (.ref a), some (.ref q), some (.int mx), x3] ∧ H2 = H1) ⟨_, none, rfl, rfl⟩ (fun i σ H2 _ ⟨_, _, _, e⟩ => by rw [e]; exact SqL.of hL) (fun i x σ H2 hx ⟨mx, x3, e, e'⟩ => ?_) (fun σ H2 ⟨mx, x3, e, e'⟩ => ?_)⟩
    · subst e e'
      obtain ⟨v, rfl⟩ : ∃ v : Int, x = .int v := by
        rw [List.getElem?_map] at hx
        cases z : ms[i]? with
        | none => rw [z] at hx; cases hx
        | some v => rw [z] at hx; cases hx; exact ⟨v, rfl⟩
      exact ⟨_, rfl, _, _, rfl, rfl, .inr ⟨by decide, by decide⟩, _, rfl, .inl ⟨_, rfl, _, _, rfl, rfl, (by show (0 : Int) < _; decide), _, _, rfl, rfl, _, _, rfl, rfl, .inl ⟨_, rfl, _, _, rfl, rfl, (by show (0 : Int) < _; decide), _, _, rfl, rfl⟩⟩⟩
    · subst e e'
      intro d hd
      have nq : q ≠ d := ne_of_none hL hd
      refine ⟨_, rfl, q, _, rfl, SqL.of (show (upd H2 d (.dK [])) q = some (.lst (ms.map V.int)) by rw [upd_ne nq]; exact hL), fun r hr2 => ⟨_, rfl, ?_⟩⟩
      have nr : d ≠ r := ne_of_none (show (upd H2 d (.dK [])) d = some (.dK []) from upd_same) hr2
      refine ⟨by rw [upd_ne nr, upd_same], [(Sum.inr "cells", .ref r), (Sum.inr "mixed", .int mx), (Sum.inr "draws", .int 0)], rfl, (by show 3 ≤ 15; decide), ?_⟩
      refine hq _ d r ⟨nr, ms.reverse, mx, 0, ?_, ?_, by rw [List.length_reverse]; exact hlen, Int.le_refl 0, Int.le_refl 0, Nat.zero_le _⟩
      · rw [upd_same]; rfl
      · show (upd _ d _) r = _
        rw [upd_ne (Ne.symm nr), upd_same, List.map_reverse]
end
end K41

namespace K41
open PySem PySem.Spec L2 PL K39 K40
open K38 (fr sg gcd_pos fr_prog fr_law gcd_step abs_gcd fr_bound)
local macro_rules | `(tactic| walk_at "pl") => `(tactic| simp (maxSteps := 3000000) (dsimp := false) only [env0, List.map_cons, List.map_nil, List.length_cons, List.length_nil, List.replicate_succ, List.replicate_zero, List.cons_append, List.nil_append, List.getElem?_cons_zero, List.getElem?_cons_succ, List.set_cons_zero, List.set_cons_succ, Nat.reduceAdd, Nat.reduceSub, Nat.zero_add, ↓q_seq, ↓o_augm_int, ↓o_ltI, ↓q_dget, ↓q_dgett, ↓q_int, ↓q_dput, ↓q_dputt, ↓q_mnil, ↓q_msh, ↓q_mown, ↓q_parm, ↓q_rd3, ↓q_chain, ↓o_in_lst, ↓o_in_tup, ↓o_in_dic, ↓o_isn, ↓o_mult, ↓o_suma_lstI, ↓o_suma_tupI, ↓o_sumI, ↓o_lend, ↓o_tuplel, k_int, k_str, setC_cons, setC_nil, ↓q_next, ↓q_brk, ↓q_cnt, ↓q_ret, ↓q_ifs, ↓q_drop, ↓q_asg, ↓q_own, ↓q_par, ↓q_par3, ↓q_append, ↓q_for, ↓q_gset, ↓q_gtup, ↓q_gcons, ↓q_gnil, ↓q_aug, ↓q_var, ↓q_rd, ↓q_c, ↓q_bin, ↓q_un, ↓q_b, ↓q_not, ↓q_and, ↓q_or, ↓q_andv, ↓q_orv, ↓q_notv, ↓q_if, ↓q_nil, ↓q_cons, ↓q_consts, ↓q_tup, ↓q_lst, ↓q_sl, ↓q_no, ↓q_part, ↓q_rev, ↓q_call, ↓q_fn, ↓q_fnb, ↓q_fnk, ↓q_isi, ↓q_join, ↓q_lc, ↓q_yes, ↓q_r1, ↓q_r2, ↓q_iter, ↓q_enum, ↓q_enumk, ↓q_zip, ↓q_frz, ↓q_fmt, ↓q_js0, ↓q_js, ↓o_add_int, ↓o_add_str, ↓o_add_lst, ↓o_add_tup, ↓o_sub, ↓o_mul_int, ↓o_mul_lst, ↓o_mod, ↓o_div, ↓o_pow, ↓o_lt_int, ↓o_lt_str, ↓o_le, ↓o_gt, ↓o_ge, ↓o_ix_lst, ↓o_ix_tup, ↓o_ix_str, ↓o_sl_lst, ↓o_sl_tup, ↓o_sl_str, ↓o_len_lst, ↓o_len_tup, ↓o_len_str, ↓o_int_int, ↓o_int_bl, ↓o_int_str, ↓o_list_lst, ↓o_list_tup, ↓o_tuple_lst, ↓o_tuple_tup, ↓o_abs, ↓o_max, ↓o_min, ↓o_str, ↓o_all, ↓o_any, ↓o_aug_int, ↓i_lst, ↓i_tup, ↓i_str, ↓w_nil, ↓w_cons, ↓pk_cons', ↓pk_nil', ↓oEq_int, ↓oNe_int, ↓oEq_str, ↓oNe_str, noOwn, List.all_cons, List.all_nil, Bool.and_self, Bool.and_true, Bool.true_and, b_nd, decide_eq_true_eq, true_and, and_true, atI0, atI1, atI2, atI3, ↓ty_non, ↓ty_bl, ↓ty_int, ↓ty_str, ↓ty_lst, ↓ty_tup, ↓ty_dic, kk_NoneType_bool, kk_NoneType_int, kk_NoneType_str, kk_NoneType_list, kk_NoneType_tuple, kk_NoneType_dict, kk_bool_bool, kk_bool_int, kk_bool_str, kk_bool_list, kk_bool_tuple, kk_bool_dict, kk_int_bool, kk_int_int, kk_int_str, kk_int_list, kk_int_tuple, kk_int_dict, kk_str_bool, kk_str_int, kk_str_str, kk_str_list, kk_str_tuple, kk_str_dict, kk_list_bool, kk_list_int, kk_list_str, kk_list_list, kk_list_tuple, kk_list_dict, kk_tuple_bool, kk_tuple_int, kk_tuple_str, kk_tuple_list, kk_tuple_tuple, kk_tuple_dict, kk_dict_bool, kk_dict_int, kk_dict_str, kk_dict_list, kk_dict_tuple, kk_dict_dict, Bool.not_true, Bool.not_false, Bool.false_eq_true, if_true, if_false, ↓reduceIte, Bool.not_eq_true, List.isEmpty_nil, List.isEmpty_cons, not_true_eq_false, not_false_eq_true, decide_true, decide_false, List.flatten_cons, List.flatten_nil, sizeLine_val, Nat.reduceLeDiff, Nat.reduceLT, Nat.reduceMul, Int.reducePow, Int.reduceNeg, Int.reduceLE, Int.reduceLT, Int.reduceToNat, Int.reduceAdd, Int.reduceSub, Int.reduceMul])
local macro_rules | `(tactic| walk_at "dep") => `(tactic| (simp only [depD, depL, bulkD, bulkL]; first | decide | omega | (rw [← Nat.ble_eq]; rfl)))
local macro_rules | `(tactic| walk_at "nice") => `(tactic| (simp only [niceD, niceL, Bool.and_true, Bool.true_and, Bool.and_eq_true, decide_eq_true_eq, and_true, true_and]))
section
variable {P : Program} {w : World} {K : PySem.W.Frag} {mg : Str → Option Value} {base : Heap}
/-! ### fractions -/
def S_common_part : PL.Spec := fun ds n R => ∃ a b : Int, ds = [.int a, .int b] ∧ R (.int (Int.gcd a b)) n
theorem ok_common_part {f : Addr} {fd : FuncData} (F : Fun K "common_part" "common_part" s_common_part f fd) (hm : mg "common_part" = some (.ref f)) (B : BI mg) : FnC P w K mg base 1 "common_part" ["one", "other"] [] S_common_part := by
  refine fnc F hm sc_common_part (F.binds (ps := ["one", "other"]) fun _ _ _ _ _ _ us hl => match us, hl with | [_, _], _ => rfl)
    (fun q hq => nomatch hq) ?_ (fun cdv A outer s H E hgd hr => ⟨_, (dss_cons (ds_par (i := 0) (j := 1) sc_common_part.nd (by decide) (da_cons (de_abs B.abs rfl (sa_cons (se_var (pv 0)) sa_nil)) (da_cons (de_abs B.abs rfl (sa_cons (se_var (pv 1)) sa_nil)) da_nil)) (by rfl))
      (dss_cons (ds_while PassesOwn.never (dt_gt (se_var (pv 1)) (SE.of de_int)) (dss_one (ds_par (i := 0) (j := 1) sc_common_part.nd (by decide) (da_cons (de_var (pv 1)) (da_cons (de_mod (se_var (pv 0)) (se_var (pv 1))) da_nil)) (by rfl))))
      (dss_one (ds_ret (se_var (pv 0)))))), ?_⟩)
  · rintro ds n R ⟨a, b, rfl, _⟩; rfl
  · rintro ds n R ⟨a, b, rfl, hR⟩
    walk_at "pl"
    refine ⟨fun m ρ k => ∃ x y : Int, 0 ≤ x ∧ 0 ≤ y ∧ m = y.toNat ∧ ρ = [.sh (.int x), .sh (.int y)] ∧ k = n ∧ Int.gcd x y = Int.gcd a b, ⟨_, _, _, by split <;> omega, by split <;> omega, rfl, rfl, rfl, abs_gcd a b⟩, ?_⟩
    rintro m ρ k ⟨x, y, hx, hy, rfl, rfl, rfl, hg⟩
    walk_at "pl"
    by_cases c : 0 < y
    · rw [if_pos c]
      refine ⟨by omega, (x.fmod y).toNat, ?_, _, _, hy, Int.fmod_nonneg_of_pos _ c, rfl, rfl, (gcd_step hx c).trans hg⟩
      have := Int.fmod_lt_of_pos x c
      omega
    · rw [if_neg c]
      have : y = 0 := by omega
      subst this
      rw [Int.gcd_zero] at hg
      rw [← hg] at hR
      rwa [Int.natAbs_of_nonneg hx] at hR
theorem lg {i : Int} {k : Nat} (h : i.natAbs < 2 ^ k) (hk : k ≤ 8000) : i.natAbs.log2 < 9000 := by
  by_cases z : i.natAbs = 0
  · rw [z]; decide
  · have := (Nat.log2_lt z).mpr h
    omega
theorem gcd_lt {t b : Int} (h : b ≠ 0) {k : Nat} (hb : b.natAbs < 2 ^ k) : (Int.gcd t b : Int).natAbs < 2 ^ k := by
  have : Int.gcd t b ≤ b.natAbs := Nat.gcd_le_right _ (by omega)
  omega
def frP (x : Int × Int) : D := .tup [.int x.1, .int x.2]
def S_fraction : PL.Spec := fun ds n R => ∃ t b : Int, ds = [.int t, .int b] ∧ b ≠ 0 ∧ b.natAbs < 2 ^ 1900 ∧ R (frP (fr t b)) n
theorem ok_fraction {f : Addr} {fd : FuncData} (F : Fun K "fraction" "fraction" s_fraction f fd) (hm : mg "fraction" = some (.ref f)) (B : BI mg) (h_common_part : FnC P w K mg base 1 "common_part" ["one", "other"] [] S_common_part) : FnC P w K mg base 2 "fraction" ["top", "bottom"] [] S_fraction := by
  refine fnc F hm sc_fraction (F.binds (ps := ["top", "bottom"]) fun _ _ _ _ _ _ us hl => match us, hl with | [_, _], _ => rfl)
    (fun q hq => nomatch hq) ?_ (fun cdv A outer s H E hgd hr => ⟨_, (dss_cons (ds_asg (de_fnC h_common_part hgd hr (da_cons (de_var (pv 0)) (da_cons (de_var (pv 1)) da_nil))) (dg_name (pg_name (i := 2) sc_fraction.nd rfl (Or.inl rfl))))
      (dss_cons (ds_if (dt_lt (se_var (pv 1)) (SE.of de_int)) (dss_one (ds_asg (de_neg (se_var (pv 2))) (dg_name (pg_name (i := 2) sc_fraction.nd rfl (Or.inl rfl))))) dss_nil)
      (dss_one (ds_ret (SE.of (de_tup (da_cons (de_fdiv (se_var (pv 0)) (se_var (pv 2))) (da_cons (de_fdiv (se_var (pv 1)) (se_var (pv 2))) da_nil)))))))), ?_⟩)
  · rintro ds n R ⟨t, b, rfl, _⟩; rfl
  · rintro ds n R ⟨t, b, rfl, h0, hb, hR⟩
    walk_at "pl"
    refine callS_of _ _ ⟨t, b, rfl, ?_⟩
    walk_at "pl"
    have g := gcd_pos (t := t) h0
    have g2 := lg (gcd_lt (t := t) h0 hb) (by decide)
    have e := fr_prog t h0
    unfold frP at hR
    rw [← e] at hR
    split
    · next c =>
      rw [if_pos c] at hR
      have g3 : (-(Int.gcd t b : Int)).natAbs.log2 < 9000 := by rwa [Int.natAbs_neg]
      exact ⟨⟨by omega, g3⟩, ⟨by omega, g3⟩, hR⟩
    · next c =>
      rw [if_neg c] at hR
      exact ⟨⟨by omega, g2⟩, ⟨by omega, g2⟩, hR⟩
def S_law_ratio : PL.Spec := S_fraction
theorem ok_law_ratio {f : Addr} {fd : FuncData} (F : Fun K "_law_ratio" "_law_ratio" s_law_ratio f fd) (hm : mg "_law_ratio" = some (.ref f)) (B : BI mg) : FnC P w K mg base 1 "_law_ratio" ["_law_top", "_law_bottom"] [] S_law_ratio := by
  refine fnc F hm sc_law_ratio (F.binds (ps := ["_law_top", "_law_bottom"]) fun _ _ _ _ _ _ us hl => match us, hl with | [_, _], _ => rfl)
    (fun q hq => nomatch hq) ?_ (fun cdv A outer s H E hgd hr => ⟨_, (dss_cons (ds_par (i := 2) (j := 3) sc_law_ratio.nd (by decide) (da_cons (de_abs B.abs rfl (sa_cons (se_var (pv 0)) sa_nil)) (da_cons (de_abs B.abs rfl (sa_cons (se_var (pv 1)) sa_nil)) da_nil)) (by rfl))
      (dss_cons (ds_while PassesOwn.never (dt_gt (se_var (pv 3)) (SE.of de_int)) (dss_one (ds_par (i := 2) (j := 3) sc_law_ratio.nd (by decide) (da_cons (de_var (pv 3)) (da_cons (de_mod (se_var (pv 2)) (se_var (pv 3))) da_nil)) (by rfl))))
      (dss_cons (ds_asg (de_ife (dt_gt (se_var (pv 1)) (SE.of de_int)) de_int (de_neg (SE.of de_int))) (dg_name (pg_name (i := 4) sc_law_ratio.nd rfl (Or.inl rfl))))
      (dss_one (ds_ret (SE.of (de_tup (da_cons (de_fdiv (SE.of (de_mul (se_var (pv 4)) (se_var (pv 0)))) (se_var (pv 2))) (da_cons (de_fdiv (SE.of (de_mul (se_var (pv 4)) (se_var (pv 1)))) (se_var (pv 2))) da_nil))))))))), ?_⟩)
  · rintro ds n R ⟨t, b, rfl, _⟩; rfl
  · rintro ds n R ⟨t, b, rfl, h0, hb, hR⟩
    walk_at "pl"
    have g := gcd_pos (t := t) h0
    have g2 := lg (gcd_lt (t := t) h0 hb) (by decide)
    have e := fr_law t h0
    unfold frP at hR
    rw [← e] at hR
    refine ⟨fun m ρ k => ∃ x y : Int, 0 ≤ x ∧ 0 ≤ y ∧ m = y.toNat ∧ ρ = [.sh (.int t), .sh (.int b), .sh (.int x), .sh (.int y), .any] ∧ k = n ∧ Int.gcd x y = Int.gcd t b, ⟨_, _, _, by split <;> omega, by split <;> omega, rfl, rfl, rfl, abs_gcd t b⟩, ?_⟩
    rintro m ρ k ⟨x, y, hx, hy, rfl, rfl, rfl, hg⟩
    walk_at "pl"
    by_cases c : 0 < y
    · rw [if_pos c]
      refine ⟨by omega, (x.fmod y).toNat, ?_, _, _, hy, Int.fmod_nonneg_of_pos _ c, rfl, rfl, (gcd_step hx c).trans hg⟩
      have := Int.fmod_lt_of_pos x c
      omega
    · rw [if_neg c]
      have : y = 0 := by omega
      subst this
      rw [Int.gcd_zero] at hg
      have ex : x = (Int.gcd t b : Int) := by omega
      subst ex
      unfold sg at hR
      split
      · next c =>
        rw [if_pos c] at hR
        exact ⟨.small (.inl (by decide)), ⟨by omega, g2⟩, .small (.inl (by decide)), ⟨by omega, g2⟩, hR⟩
      · next c =>
        rw [if_neg c] at hR
        exact ⟨.small (.inl (by decide)), ⟨by omega, g2⟩, .small (.inl (by decide)), ⟨by omega, g2⟩, hR⟩
def S_power : PL.Spec := fun ds n R => ∃ d : Int, ds = [.int 2, .int d] ∧ 0 ≤ d ∧ d ≤ 400 ∧ R (.int ((2 : Int) ^ d.toNat)) n
theorem ok_power {f : Addr} {fd : FuncData} (F : Fun K "power" "power" s_power f fd) (hm : mg "power" = some (.ref f)) (B : BI mg) : FnC P w K mg base 1 "power" ["base", "exponent"] [] S_power := by
  refine fnc F hm sc_power (F.binds (ps := ["base", "exponent"]) fun _ _ _ _ _ _ us hl => match us, hl with | [_, _], _ => rfl)
    (fun q hq => nomatch hq) ?_ (fun cdv A outer s H E hgd hr => ⟨_, (dss_cons (ds_asg de_int (dg_name (pg_name (i := 2) sc_power.nd rfl (Or.inl rfl))))
      (dss_cons (ds_for PassesOwn.never rfl (di_range1 B.range rfl (da_cons (de_var (pv 1)) da_nil)) (dg_name (pg_name (i := 3) sc_power.nd rfl (Or.inl rfl))) (dss_one (ds_augMul (i := 2) sc_power.nd (Or.inl rfl) (se_var (pv 0)))))
      (dss_one (ds_ret (se_var (pv 2)))))), ?_⟩)
  · rintro ds n R ⟨d, rfl, _⟩; rfl
  · rintro ds n R ⟨d, rfl, h1, h2, hR⟩
    walk_at "pl"
    refine ⟨by omega, by omega, ?_⟩
    refine (fun (loop : ∀ (k : Nat) (lo x : Int) (c : Cell), R (.int (x * 2 ^ k)) n → forW ?t ?b (intsD lo k) ?P [Cell.sh (D.int 2), Cell.sh (D.int d), Cell.sh (D.int x), c] n) => loop d.toNat 0 1 .any (by simpa using hR)) ?_
    intro k
    induction k with
    | zero =>
      intro lo x c h
      simp only [intsD_zero, forW_nil]
      walk_at "pl"
      simpa using h
    | succ k ih =>
      intro lo x c h
      simp only [intsD_succ, forW_cons]
      walk_at "pl"
      refine ⟨.inr (by decide), ?_⟩
      refine ih _ _ _ ?_
      rwa [show x * 2 ^ (k + 1) = x * 2 * 2 ^ k by rw [Int.pow_succ, Int.mul_comm (2 ^ k) 2, ← Int.mul_assoc]] at h
def S_law_twos : PL.Spec := fun ds n R => ∃ d : Int, ds = [.int d] ∧ 0 ≤ d ∧ d ≤ 400 ∧ R (.int ((2 : Int) ^ d.toNat)) n
theorem ok_law_twos {f : Addr} {fd : FuncData} (F : Fun K "_law_twos" "_law_twos" s_law_twos f fd) (hm : mg "_law_twos" = some (.ref f)) (B : BI mg) : FnC P w K mg base 1 "_law_twos" ["_law_much"] [] S_law_twos := by
  refine fnc F hm sc_law_twos (F.binds (ps := ["_law_much"]) fun _ _ _ _ _ _ us hl => match us, hl with | [_], _ => rfl)
    (fun q hq => nomatch hq) ?_ (fun cdv A outer s H E hgd hr => ⟨_, (dss_cons (ds_asg de_int (dg_name (pg_name (i := 1) sc_law_twos.nd rfl (Or.inl rfl))))
      (dss_cons (ds_for PassesOwn.never rfl (di_range1 B.range rfl (da_cons (de_var (pv 0)) da_nil)) (dg_name (pg_name (i := 2) sc_law_twos.nd rfl (Or.inl rfl))) (dss_one (ds_asg (de_mul (SE.of de_int) (se_var (pv 1))) (dg_name (pg_name (i := 1) sc_law_twos.nd rfl (Or.inl rfl))))))
      (dss_one (ds_ret (se_var (pv 1)))))), ?_⟩)
  · rintro ds n R ⟨d, rfl, _⟩; rfl
  · rintro ds n R ⟨d, rfl, h1, h2, hR⟩
    walk_at "pl"
    refine ⟨by omega, by omega, ?_⟩
    refine (fun (loop : ∀ (k : Nat) (lo x : Int) (c : Cell), R (.int (x * 2 ^ k)) n → forW ?t ?b (intsD lo k) ?P [Cell.sh (D.int d), Cell.sh (D.int x), c] n) => loop d.toNat 0 1 .any (by simpa using hR)) ?_
    intro k
    induction k with
    | zero =>
      intro lo x c h
      simp only [intsD_zero, forW_nil]
      walk_at "pl"
      simpa using h
    | succ k ih =>
      intro lo x c h
      simp only [intsD_succ, forW_cons]
      walk_at "pl"
      refine ⟨MulOk.left (by decide) (by decide), ?_⟩
      refine ih _ _ _ ?_
      rwa [show x * 2 ^ (k + 1) = 2 * x * 2 ^ k by rw [Int.pow_succ, Int.mul_comm (2 ^ k) 2, ← Int.mul_assoc, Int.mul_comm x 2]] at h
/-! ### sums by twos -/
def S_by_twos : PL.Spec := fun ds n R => ∃ ns : List Int, ds = [.lst (ns.map D.int)] ∧ R (.int (ns.foldl (fun a x => 2 * a + x) 0)) n
theorem ok_by_twos {f : Addr} {fd : FuncData} (F : Fun K "by_twos" "by_twos" s_by_twos f fd) (hm : mg "by_twos" = some (.ref f)) (B : BI mg) : FnC P w K mg base 1 "by_twos" ["numbers"] [] S_by_twos := by
  refine fnc F hm sc_by_twos (F.binds (ps := ["numbers"]) fun _ _ _ _ _ _ us hl => match us, hl with | [_], _ => rfl)
    (fun q hq => nomatch hq) ?_ (fun cdv A outer s H E hgd hr => ⟨_, (dss_cons (ds_asg de_int (dg_name (pg_name (i := 1) sc_by_twos.nd rfl (Or.inl rfl))))
      (dss_cons (ds_for PassesOwn.never rfl (di_iter (de_var (pv 0))) (dg_name (pg_name (i := 2) sc_by_twos.nd rfl (Or.inl rfl))) (dss_one (ds_asg (de_add (SE.of (de_mul (SE.of de_int) (se_var (pv 1)))) (se_var (pv 2))) (dg_name (pg_name (i := 1) sc_by_twos.nd rfl (Or.inl rfl))))))
      (dss_one (ds_ret (se_var (pv 1)))))), ?_⟩)
  · rintro ds n R ⟨d, rfl, _⟩; rfl
  · rintro ds n R ⟨ns, rfl, hR⟩
    walk_at "pl"
    refine (fun (loop : ∀ (l : List Int) (x : Int) (c : Cell), R (.int (l.foldl (fun a x => 2 * a + x) x)) n → forW ?t ?b (l.map D.int) ?P [Cell.sh (D.lst (ns.map D.int)), Cell.sh (D.int x), c] n) => loop ns 0 .any hR) ?_
    intro l
    induction l with
    | nil =>
      intro x c h
      simp only [List.map_nil, forW_nil]
      walk_at "pl"
      exact h
    | cons y l ih =>
      intro x c h
      simp only [List.map_cons, forW_cons]
      walk_at "pl"
      exact ⟨MulOk.left (by decide) (by decide), ih _ _ h⟩
def S_law_summed : PL.Spec := fun ds n R => ∃ ns : List Int, ds = [.lst (ns.map D.int)] ∧ R (.int (2 * ns.foldl (fun a x => 2 * a + x) 0)) n
theorem ok_law_summed {f : Addr} {fd : FuncData} (F : Fun K "_law_summed" "_law_summed" s_law_summed f fd) (hm : mg "_law_summed" = some (.ref f)) (B : BI mg) : FnC P w K mg base 1 "_law_summed" ["_law_opens"] [] S_law_summed := by
  refine fnc F hm sc_law_summed (F.binds (ps := ["_law_opens"]) fun _ _ _ _ _ _ us hl => match us, hl with | [_], _ => rfl)
    (fun q hq => nomatch hq) ?_ (fun cdv A outer s H E hgd hr => ⟨_, (dss_cons (ds_asg de_int (dg_name (pg_name (i := 1) sc_law_summed.nd rfl (Or.inl rfl))))
      (dss_cons (ds_for PassesOwn.never rfl (di_iter (de_var (pv 0))) (dg_name (pg_name (i := 2) sc_law_summed.nd rfl (Or.inl rfl))) (dss_one (ds_asg (de_mul (SE.of de_int) (SE.of (de_add (se_var (pv 1)) (se_var (pv 2))))) (dg_name (pg_name (i := 1) sc_law_summed.nd rfl (Or.inl rfl))))))
      (dss_one (ds_ret (se_var (pv 1)))))), ?_⟩)
  · rintro ds n R ⟨d, rfl, _⟩; rfl
  · rintro ds n R ⟨ns, rfl, hR⟩
    walk_at "pl"
    refine (fun (loop : ∀ (l : List Int) (x : Int) (c : Cell), R (.int (2 * l.foldl (fun a x => 2 * a + x) x)) n → forW ?t ?b (l.map D.int) ?P [Cell.sh (D.lst (ns.map D.int)), Cell.sh (D.int (2 * x)), c] n) => loop ns 0 .any hR) ?_
    intro l
    induction l with
    | nil =>
      intro x c h
      simp only [List.map_nil, forW_nil]
      walk_at "pl"
      exact h
    | cons y l ih =>
      intro x c h
      simp only [List.map_cons, forW_cons]
      walk_at "pl"
      exact ⟨MulOk.left (by decide) (by decide), ih _ _ h⟩
/-- what stands at the first places -/
def pl (p : Nat → Int) (n : Nat) : List Int := (List.range n).map p
theorem pl_len (p : Nat → Int) (n : Nat) : (pl p n).length = n := by simp [pl]
theorem pl_succ (p : Nat → Int) (n : Nat) : pl p (n + 1) = pl p n ++ [p n] := by simp [pl, List.range_succ]
theorem fold_pl (p : Nat → Int) : ∀ n, (pl p n).foldl (fun a x => 2 * a + x) 0 = bt p n
  | 0 => rfl
  | n + 1 => by rw [pl_succ, List.foldl_append, fold_pl p n]; rfl
theorem pl_take (p : Nat → Int) {f n : Nat} (h : f ≤ n) : (pl p n).take f = pl p f := by
  simp [pl, ← List.map_take, List.take_range, Nat.min_eq_left h]
theorem pl_drop (p : Nat → Int) (f : Nat) : ∀ c, ((pl p (f + c)).drop f).foldl (fun a x => 2 * a + x) 0 = bt p (f + c) - 2 ^ c * bt p f
  | 0 => by rw [List.drop_of_length_le (by simp [pl_len])]; simp
  | c + 1 => by
    rw [show f + (c + 1) = f + c + 1 by omega, pl_succ, List.drop_append_of_le_length (by rw [pl_len]; omega), List.foldl_append, pl_drop p f c]
    show 2 * (bt p (f + c) - 2 ^ c * bt p f) + p (f + c) = 2 * bt p (f + c) + p (f + c) - _
    rw [Int.pow_succ, Int.mul_comm (2 ^ c) 2, Int.mul_assoc, Int.mul_sub]
    omega
theorem cut_to {α : Type} (xs : List α) (k : Nat) : cutL xs none (some (k : Int)) = xs.take k := by
  unfold cutL
  rw [HT.sIx_none, show HT.sIx xs.length xs.length (some (k : Int)) = min k xs.length from HT.sIx_nat _ _ k]
  simp only [List.drop_zero, Nat.sub_zero]
  by_cases h : k ≤ xs.length
  · rw [Nat.min_eq_left h]
  · rw [Nat.min_eq_right (by omega), List.take_of_length_le (Nat.le_refl _), List.take_of_length_le (by omega)]
theorem cut_from {α : Type} (xs : List α) (k : Nat) : cutL xs (some (k : Int)) none = xs.drop k := by
  unfold cutL
  rw [HT.sIx_none, show HT.sIx xs.length 0 (some (k : Int)) = min k xs.length from HT.sIx_nat _ _ k]
  by_cases h : k ≤ xs.length
  · rw [Nat.min_eq_left h, List.take_of_length_le (by simp)]
  · rw [Nat.min_eq_right (by omega), List.take_of_length_le (by simp), List.drop_of_length_le (Nat.le_refl _), List.drop_of_length_le (by omega)]
theorem bt_bd {p : Nat → Int} (h : ∀ n, 0 ≤ p n ∧ p n ≤ 512) : ∀ n, 0 ≤ bt p n ∧ bt p n + 512 ≤ 512 * 2 ^ n
  | 0 => ⟨Int.le_refl _, by show (0 : Int) + 512 ≤ 512 * 1; decide⟩
  | n + 1 => by
    have ih := bt_bd h n
    have := h n
    rw [bt, Int.pow_succ]
    omega
theorem abs_lt {x : Int} {k : Nat} (h0 : 0 ≤ x) (h : x < 2 ^ k) : x.natAbs < 2 ^ k := by
  have : (x.natAbs : Int) < 2 ^ k := by omega
  exact_mod_cast this
theorem bt_lt {p : Nat → Int} (h : ∀ n, 0 ≤ p n ∧ p n ≤ 512) (n : Nat) : (bt p n).natAbs < 2 ^ (n + 9) := by
  have := bt_bd h n
  refine abs_lt this.1 ?_
  rw [Int.pow_add, show (2 : Int) ^ 9 = 512 by decide]
  omega
theorem tw_lt (n : Nat) : ((2 : Int) ^ n).natAbs < 2 ^ (n + 1) := abs_lt (Int.le_of_lt (two_pos n)) (by rw [Int.pow_succ]; have := two_pos n; omega)
theorem tw1_lt (n : Nat) : ((2 : Int) ^ n - 1).natAbs < 2 ^ (n + 1) := abs_lt (by have := two_pos n; omega) (by rw [Int.pow_succ]; have := two_pos n; omega)
theorem nlt {k : Nat} {a b : Int} {i j : Nat} (ha : a.natAbs < 2 ^ i) (hb : b.natAbs < 2 ^ j) (h : i + j ≤ k) : (a * b).natAbs < 2 ^ k := by
  rw [Int.natAbs_mul]
  refine Nat.lt_of_lt_of_le (Nat.mul_lt_mul_of_lt_of_le ha (Nat.le_of_lt hb) (Nat.pow_pos (by decide))) ?_
  rw [← Nat.pow_add]
  exact Nat.pow_le_pow_right (by decide) h
theorem plt {a : Int} {i k : Nat} (ha : a.natAbs < 2 ^ i) (h : i ≤ k) : a.natAbs < 2 ^ k := Nat.lt_of_lt_of_le ha (Nat.pow_le_pow_right (by decide) h)
def bdP (x : Int × Int) : Prop := x.1.natAbs < 2 ^ 900 ∧ x.2.natAbs < 2 ^ 900
theorem dn_lt {f c : Nat} (h : f + c ≤ 300) : (dn f c).natAbs < 2 ^ 900 := nlt (tw_lt f) (tw1_lt c) (by omega)
theorem mvF_bd {p : Nat → Int} (hp : ∀ n, 0 ≤ p n ∧ p n ≤ 512) {f c : Nat} (hc : 0 < c) (h : f + c ≤ 300) : bdP (mvF p f c) := by
  refine fr_bound _ (Int.ne_of_gt (dn_pos hc)) ?_ (dn_lt h)
  have a := plt (k := 400) (bt_lt hp (f + c)) (by omega)
  have b := plt (k := 400) (bt_lt hp f) (by omega)
  have e : (2 : Nat) ^ 400 * 4 ≤ 2 ^ 900 := by decide
  omega
/-- the mean of open places that come round -/
def S_mean_of : PL.Spec := fun ds n R => ∃ (p : Nat → Int) (f c : Nat), ds = [.lst ((pl p (f + c)).map D.int), .int f, .int c] ∧ 0 < c ∧ f + c ≤ 300 ∧ (∀ n, 0 ≤ p n ∧ p n ≤ 512) ∧ (bdP (mvF p f c) → R (frP (mvF p f c)) n)
theorem ok_mean_of {f : Addr} {fd : FuncData} (F : Fun K "mean_of" "mean_of" s_mean_of f fd) (hm : mg "mean_of" = some (.ref f)) (B : BI mg) (h_fraction : FnC P w K mg base 2 "fraction" ["top", "bottom"] [] S_fraction) (h_by_twos : FnC P w K mg base 1 "by_twos" ["numbers"] [] S_by_twos) (h_power : FnC P w K mg base 1 "power" ["base", "exponent"] [] S_power) : FnC P w K mg base 3 "mean_of" ["places", "first", "count"] [] S_mean_of := by
  refine fnc F hm sc_mean_of (F.binds (ps := ["places", "first", "count"]) fun _ _ _ _ _ _ us hl => match us, hl with | [_, _, _], _ => rfl)
    (fun q hq => nomatch hq) ?_ (fun cdv A outer s H E hgd hr => ⟨_, (dss_cons (ds_par (i := 3) (j := 4) sc_mean_of.nd (by decide) (da_cons (de_fnC h_by_twos hgd (hr.mono (by decide)) (da_cons (de_slice (se_var (pv 0)) do_none (do_some (se_var (pv 1)))) da_nil)) (da_cons (de_fnC h_by_twos hgd (hr.mono (by decide)) (da_cons (de_slice (se_var (pv 0)) (do_some (se_var (pv 1))) do_none) da_nil)) da_nil)) (by rfl))
      (dss_cons (ds_asg (de_sub (SE.of (de_fnC h_power hgd (hr.mono (by decide)) (da_cons de_int (da_cons (de_var (pv 2)) da_nil)))) (SE.of de_int)) (dg_name (pg_name (i := 5) sc_mean_of.nd rfl (Or.inl rfl))))
      (dss_one (ds_ret (SE.of (de_fnC h_fraction hgd hr (da_cons (de_mul (SE.of de_int) (SE.of (de_add (SE.of (de_mul (se_var (pv 3)) (se_var (pv 5)))) (se_var (pv 4))))) (da_cons (de_mul (SE.of (de_fnC h_power hgd (hr.mono (by decide)) (da_cons de_int (da_cons (de_var (pv 1)) da_nil)))) (se_var (pv 5))) da_nil)))))))), ?_⟩)
  · rintro ds n R ⟨p, f, c, rfl, _⟩; rfl
  · rintro ds n R ⟨p, f, c, rfl, hc, hfc, hp, hR⟩
    have hR := hR (mvF_bd hp hc hfc)
    walk_at "pl"
    rw [cut_to, ← List.map_take, pl_take p (by omega)]
    refine callS_of _ _ ⟨_, rfl, ?_⟩
    rw [fold_pl]
    walk_at "pl"
    rw [cut_from, ← List.map_drop]
    refine callS_of _ _ ⟨_, rfl, ?_⟩
    rw [pl_drop]
    walk_at "pl"
    refine callS_of _ _ ⟨c, rfl, by omega, by omega, ?_⟩
    rw [Int.toNat_natCast]
    have a := plt (k := 400) (bt_lt hp f) (by omega)
    have b := plt (k := 400) (bt_lt hp (f + c)) (by omega)
    walk_at "pl"
    refine ⟨.wide a (tw1_lt c), MulOk.left (by decide) (by decide), callS_of _ _ ⟨f, rfl, by omega, by omega, ?_⟩⟩
    rw [Int.toNat_natCast]
    walk_at "pl"
    refine ⟨.wide (tw_lt f) (tw1_lt c), callS_of _ _ ⟨_, _, rfl, Int.ne_of_gt (dn_pos hc), plt (dn_lt hfc) (by decide), ?_⟩⟩
    have e : 2 * (bt p f * (2 ^ c - 1) + (bt p (f + c) - 2 ^ c * bt p f)) = 2 * (bt p (f + c) - bt p f) := by
      rw [Int.mul_sub (bt p f), Int.mul_one, Int.mul_comm (bt p f)]
      omega
    rw [e]
    exact hR
end
end K41

namespace K41
open PySem PySem.Spec L2 PL K39 K40
open K38 (fr sg gcd_pos fr_prog fr_law gcd_step abs_gcd fr_bound)
local macro_rules | `(tactic| walk_at "pl") => `(tactic| simp (maxSteps := 3000000) (dsimp := false) only [env0, List.map_cons, List.map_nil, List.length_cons, List.length_nil, List.replicate_succ, List.replicate_zero, List.cons_append, List.nil_append, List.getElem?_cons_zero, List.getElem?_cons_succ, List.set_cons_zero, List.set_cons_succ, Nat.reduceAdd, Nat.reduceSub, Nat.zero_add, ↓q_seq, ↓o_augm_int, ↓o_ltI, ↓q_dget, ↓q_dgett, ↓q_int, ↓q_dput, ↓q_dputt, ↓q_mnil, ↓q_msh, ↓q_mown, ↓q_parm, ↓q_rd3, ↓q_chain, ↓o_in_lst, ↓o_in_tup, ↓o_in_dic, ↓o_isn, ↓o_mult, ↓o_suma_lstI, ↓o_suma_tupI, ↓o_sumI, ↓o_lend, ↓o_tuplel, k_int, k_str, setC_cons, setC_nil, ↓q_next, ↓q_brk, ↓q_cnt, ↓q_ret, ↓q_ifs, ↓q_drop, ↓q_asg, ↓q_own, ↓q_par, ↓q_par3, ↓q_append, ↓q_for, ↓q_gset, ↓q_gtup, ↓q_gcons, ↓q_gnil, ↓q_aug, ↓q_var, ↓q_rd, ↓q_c, ↓q_bin, ↓q_un, ↓q_b, ↓q_not, ↓q_and, ↓q_or, ↓q_andv, ↓q_orv, ↓q_notv, ↓q_if, ↓q_nil, ↓q_cons, ↓q_consts, ↓q_tup, ↓q_lst, ↓q_sl, ↓q_no, ↓q_part, ↓q_rev, ↓q_call, ↓q_fn, ↓q_fnb, ↓q_fnk, ↓q_isi, ↓q_join, ↓q_lc, ↓q_yes, ↓q_r1, ↓q_r2, ↓q_iter, ↓q_enum, ↓q_enumk, ↓q_zip, ↓q_frz, ↓q_fmt, ↓q_js0, ↓q_js, ↓o_add_int, ↓o_add_str, ↓o_add_lst, ↓o_add_tup, ↓o_sub, ↓o_mul_int, ↓o_mul_lst, ↓o_mod, ↓o_div, ↓o_pow, ↓o_lt_int, ↓o_lt_str, ↓o_le, ↓o_gt, ↓o_ge, ↓o_ix_lst, ↓o_ix_tup, ↓o_ix_str, ↓o_sl_lst, ↓o_sl_tup, ↓o_sl_str, ↓o_len_lst, ↓o_len_tup, ↓o_len_str, ↓o_int_int, ↓o_int_bl, ↓o_int_str, ↓o_list_lst, ↓o_list_tup, ↓o_tuple_lst, ↓o_tuple_tup, ↓o_abs, ↓o_max, ↓o_min, ↓o_str, ↓o_all, ↓o_any, ↓o_aug_int, ↓i_lst, ↓i_tup, ↓i_str, ↓w_nil, ↓w_cons, ↓pk_cons', ↓pk_nil', ↓oEq_int, ↓oNe_int, ↓oEq_str, ↓oNe_str, noOwn, List.all_cons, List.all_nil, Bool.and_self, Bool.and_true, Bool.true_and, b_nd, decide_eq_true_eq, true_and, and_true, atI0, atI1, atI2, atI3, ↓ty_non, ↓ty_bl, ↓ty_int, ↓ty_str, ↓ty_lst, ↓ty_tup, ↓ty_dic, kk_NoneType_bool, kk_NoneType_int, kk_NoneType_str, kk_NoneType_list, kk_NoneType_tuple, kk_NoneType_dict, kk_bool_bool, kk_bool_int, kk_bool_str, kk_bool_list, kk_bool_tuple, kk_bool_dict, kk_int_bool, kk_int_int, kk_int_str, kk_int_list, kk_int_tuple, kk_int_dict, kk_str_bool, kk_str_int, kk_str_str, kk_str_list, kk_str_tuple, kk_str_dict, kk_list_bool, kk_list_int, kk_list_str, kk_list_list, kk_list_tuple, kk_list_dict, kk_tuple_bool, kk_tuple_int, kk_tuple_str, kk_tuple_list, kk_tuple_tuple, kk_tuple_dict, kk_dict_bool, kk_dict_int, kk_dict_str, kk_dict_list, kk_dict_tuple, kk_dict_dict, Bool.not_true, Bool.not_false, Bool.false_eq_true, if_true, if_false, ↓reduceIte, Bool.not_eq_true, List.isEmpty_nil, List.isEmpty_cons, not_true_eq_false, not_false_eq_true, decide_true, decide_false, List.flatten_cons, List.flatten_nil, sizeLine_val, Nat.reduceLeDiff, Nat.reduceLT, Nat.reduceMul, Int.reducePow, Int.reduceNeg, Int.reduceLE, Int.reduceLT, Int.reduceToNat, Int.reduceAdd, Int.reduceSub, Int.reduceMul])
local macro_rules | `(tactic| walk_at "dep") => `(tactic| (simp only [depD, depL, bulkD, bulkL]; first | decide | omega | (rw [← Nat.ble_eq]; rfl)))
local macro_rules | `(tactic| walk_at "nice") => `(tactic| (simp only [niceD, niceL, Bool.and_true, Bool.true_and, Bool.and_eq_true, decide_eq_true_eq, and_true, true_and]))
section
variable {P : Program} {w : World} {K : PySem.W.Frag} {mg : Str → Option Value} {base : Heap}
/-! ### dicts by rows -/
section
variable {κ : Type} [DecidableEq κ]
def rg {α : Type} (k : Nat) (f : Nat → α) : List α := (List.range k).map f
theorem rg_len {α : Type} (k : Nat) (f : Nat → α) : (rg k f).length = k := by simp [rg]
theorem rg_get {α : Type} {k : Nat} {f : Nat → α} {i : Nat} (h : i < k) : (rg k f)[i]? = some (f i) := by simp [rg, h]
theorem rg_succ {α : Type} (k : Nat) (f : Nat → α) : rg (k + 1) f = rg k f ++ [f k] := by simp [rg, List.range_succ]
theorem rg_mem {α : Type} {k : Nat} {f : Nat → α} {x : α} : x ∈ rg k f ↔ ∃ i, i < k ∧ f i = x := by simp [rg]
theorem dGet_at {j : κ} {d : D} : ∀ (i : Nat) (ks : List κ) (ds : List D), ks[i]? = some j → ds[i]? = some d → (∀ i', i' < i → ks[i']? ≠ some j) → dGet ks ds j = some d
  | 0, k :: ks, e :: ds, h1, h2, _ => by
    simp at h1 h2; subst h1; subst h2
    unfold dGet; rw [if_pos rfl]
  | i + 1, k :: ks, e :: ds, h1, h2, h3 => by
    have ne : k ≠ j := fun z => h3 0 (by omega) (by simp [z])
    unfold dGet; rw [if_neg ne]
    exact dGet_at i ks ds (by simpa using h1) (by simpa using h2) fun i' hi => by simpa using h3 (i' + 1) (by omega)
  | _, [], _, h1, _, _ => by simp at h1
  | _, _ :: _, [], _, h2, _ => by simp at h2
theorem dGet_rg {k : Nat} {f : Nat → κ} {g : Nat → D} (hd : ∀ i j, i < j → j < k → f i ≠ f j) {i : Nat} (hi : i < k) : dGet (rg k f) (rg k g) (f i) = some (g i) :=
  dGet_at i _ _ (rg_get hi) (rg_get hi) fun i' hi' => by rw [rg_get (by omega)]; exact fun z => hd i' i hi' hi (Option.some.inj z)
theorem dKeys_rg {k : Nat} {f : Nat → κ} (h : f k ∉ rg k f) : dKeys (rg k f) (f k) = rg (k + 1) f := by
  unfold dKeys; rw [if_neg h, rg_succ]
theorem dVals_rg {k : Nat} {f : Nat → κ} {g : Nat → D} (h : f k ∉ rg k f) : dVals (rg k f) (rg k g) (f k) (g k) = rg (k + 1) g := by
  unfold dVals; rw [if_neg h, rg_succ]
theorem hasK_rg {k : Nat} {f : Nat → κ} {j : κ} : hasK j (rg k f) = true ↔ ∃ i, i < k ∧ f i = j := by
  unfold hasK; rw [decide_eq_true_eq, rg_mem]
end
abbrev ixD (i : Nat) : D := .int (i : Int)
abbrev kyR (m : Int) (i : Nat) : Key := .inl ((2 : Int) ^ i % m)
/-! ### how open places come round -/
def S_open_round : PL.Spec := fun ds n R => ∃ m : Int, ds = [.int m] ∧ 1 ≤ m ∧ m ≤ 100000 ∧ ∀ f c : Nat, Round m f c → R (.tup [.int f, .int c]) n
theorem ok_open_round {f : Addr} {fd : FuncData} (F : Fun K "open_round" "open_round" s_open_round f fd) (hm : mg "open_round" = some (.ref f)) (B : BI mg) : FnC P w K mg base 1 "open_round" ["many"] [(["many"], [0])] S_open_round := by
  refine fnc F hm sc_open_round (F.binds (ps := ["many"]) fun _ _ _ _ _ _ us hl => match us, hl with | [_], _ => rfl)
    (fun q hq => by
    simp only [List.mem_cons, List.not_mem_nil, or_false] at hq
    rcases hq with rfl
    · exact F.nbinds fun _ _ _ _ _ _ ws hl => match ws, hl with | [_], _ => rfl) ?_ (fun cdv A outer s H E hgd hr => ⟨_, (dss_cons (ds_parM2 (i := 1) (j := 2) sc_open_round.nd (by decide) (dm_own fe_dnew (dm_sh (de_mod (SE.of de_int) (se_var (pv 0))) dm_nil)) (by rfl))
      (dss_cons (ds_while PassesOwn.never (dt_notin hr.units (se_var (pv 2)) (se_var (pv 1))) (dss_cons (ds_dput hr.units (pv 1) (se_var (pv 2)) (de_lenD B.len rfl (sa_cons (se_var (pv 1)) sa_nil)))
      (dss_one (ds_asg (de_mod (SE.of (de_mul (SE.of de_int) (se_var (pv 2)))) (se_var (pv 0))) (dg_name (pg_name (i := 2) sc_open_round.nd rfl (Or.inl rfl)))))))
      (dss_one (ds_ret (SE.of (de_tup (da_cons (de_dget hr.units (se_var (pv 1)) (se_var (pv 2))) (da_cons (de_sub (SE.of (de_lenD B.len rfl (sa_cons (se_var (pv 1)) sa_nil))) (SE.of (de_dget hr.units (se_var (pv 1)) (se_var (pv 2))))) da_nil)))))))), ?_⟩)
  · rintro ds n R ⟨m, rfl, _⟩; rfl
  · rintro ds n R ⟨m, rfl, h1, h2, hR⟩
    walk_at "pl"
    have e0 : (1 : Int).fmod m = (2 : Int) ^ 0 % m := fmod_pos (by omega)
    refine ⟨by omega, ?_⟩
    rw [e0]
    refine ⟨fun μ ρ k => ∃ t : Nat, μ = m.toNat - t ∧ ρ = [.sh (.int m), .own (.dic (rg t (kyR m)) (rg t ixD)), .sh (.int ((2 : Int) ^ t % m))] ∧ k = n ∧ ∀ i j : Nat, i < j → j < t → (2 : Int) ^ i % m ≠ 2 ^ j % m, ⟨_, 0, rfl, rfl, rfl, fun i j _ h => by omega⟩, ?_⟩
    rintro μ ρ k ⟨t, rfl, rfl, rfl, hd⟩
    walk_at "pl"
    refine ⟨by rw [rg_len, rg_len], ?_⟩
    by_cases c : hasK (kyR m t) (rg t (kyR m)) = true
    · rw [c]
      walk_at "pl"
      obtain ⟨f, hf, e⟩ := hasK_rg.mp c
      have e' : (2 : Int) ^ f % m = 2 ^ t % m := Sum.inl.inj e
      have hdk : ∀ i j : Nat, i < j → j < t → kyR m i ≠ kyR m j := fun i j a b z => hd i j a b (Sum.inl.inj z)
      have g : dGet (rg t (kyR m)) (rg t ixD) (kyR m t) = some (ixD f) := by
        rw [show kyR m t = kyR m f from e.symm]
        exact dGet_rg hdk hf
      have g' : dGet (rg t (kyR m)) (rg t ixD) (Sum.inl ((2 : Int) ^ t % m)) = some (ixD f) := g
      simp only [g']
      walk_at "pl"
      rw [rg_len]
      have r := hR f (t - f) ⟨by omega, by rw [show f + (t - f) = t by omega]; exact e'.symm, by rw [show f + (t - f) = t by omega]; exact hd⟩
      rwa [show (((t - f : Nat) : Int)) = (t : Int) - f by omega] at r
    · have c' : hasK (kyR m t) (rg t (kyR m)) = false := by simpa using c
      have nm : kyR m t ∉ rg t (kyR m) := fun z => c (hasK_rg.mpr (rg_mem.mp z))
      have hd' : ∀ i j : Nat, i < j → j < t + 1 → (2 : Int) ^ i % m ≠ 2 ^ j % m := fun i j a b z => by
        by_cases q : j < t
        · exact hd i j a q z
        · have : j = t := by omega
          subst this
          exact nm (rg_mem.mpr ⟨i, a, by show Sum.inl _ = Sum.inl _; rw [z]⟩)
      have few := pw_few h1 hd'
      rw [c']
      walk_at "pl"
      rw [rg_len]
      refine ⟨by omega, MulOk.left (by decide) (by decide), by omega, m.toNat - (t + 1), by omega, t + 1, rfl, ?_, hd'⟩
      rw [fmod_pos (by omega), pw_step, ← dKeys_rg nm, ← dVals_rg (g := ixD) nm]
/-! ### open places -/
def S_opens_to : PL.Spec := fun ds n R => ∃ m d : Int, ds = [.int m, .int d] ∧ 1 ≤ m ∧ 0 ≤ d ∧ d ≤ 400 ∧ R (.lst ((pl (fun t => (2 : Int) ^ t % m) (d.toNat + 1)).map D.int)) n
theorem ok_opens_to {f : Addr} {fd : FuncData} (F : Fun K "opens_to" "opens_to" s_opens_to f fd) (hm : mg "opens_to" = some (.ref f)) (B : BI mg) : FnC P w K mg base 1 "opens_to" ["many", "depth"] [] S_opens_to := by
  refine fnc F hm sc_opens_to (F.binds (ps := ["many", "depth"]) fun _ _ _ _ _ _ us hl => match us, hl with | [_, _], _ => rfl)
    (fun q hq => nomatch hq) ?_ (fun cdv A outer s H E hgd hr => ⟨_, (dss_cons (ds_own (i := 2) (fe_lst (da_cons (de_mod (SE.of de_int) (se_var (pv 0))) da_nil)) (pg_name (i := 2) sc_opens_to.nd rfl (Or.inl rfl)))
      (dss_cons (ds_for PassesOwn.never rfl (di_range1 B.range rfl (da_cons (de_var (pv 1)) da_nil)) (dg_name (pg_name (i := 3) sc_opens_to.nd rfl (Or.inl rfl))) (dss_one (ds_append (pv 2) (de_mod (SE.of (de_mul (SE.of de_int) (SE.of (de_sub_ix (se_var (pv 2)) (SE.of (de_neg (SE.of de_int))))))) (se_var (pv 0))))))
      (dss_one (ds_ret (se_var (pv 2)))))), ?_⟩)
  · rintro ds n R ⟨m, d, rfl, _⟩; rfl
  · rintro ds n R ⟨m, d, rfl, h1, h2, h3, hR⟩
    walk_at "pl"
    have e0 : (1 : Int).fmod m = (2 : Int) ^ 0 % m := fmod_pos (by omega)
    refine ⟨by omega, by omega, by omega, ?_⟩
    rw [e0]
    refine (fun (loop : ∀ (k j : Nat) (lo : Int) (c3 : Cell), j + k = d.toNat → forW ?t ?b (intsD lo k) ?P [Cell.sh (D.int m), Cell.sh (D.int d), Cell.own (D.lst ((pl (fun t => (2 : Int) ^ t % m) j).map D.int ++ [D.int ((2 : Int) ^ j % m)])), c3] n) => loop d.toNat 0 0 .any (by omega)) ?_
    intro k
    induction k with
    | zero =>
      intro j lo c3 hl
      simp only [intsD_zero, forW_nil]
      walk_at "pl"
      have : j = d.toNat := by omega
      subst this
      rw [pl_succ, List.map_append] at hR
      exact hR
    | succ k ih =>
      intro j lo c3 hl
      simp only [intsD_succ, forW_cons]
      walk_at "pl"
      simp only [atI_lastD]
      refine ⟨MulOk.left (by decide) (by decide), by omega, by simp [pl_len]; omega, ?_⟩
      have := ih (j + 1) (lo + 1) (.sh (.int lo)) (by omega)
      rw [fmod_pos (by omega), pw_step]
      rw [pl_succ, List.map_append] at this
      exact this
def S_mean : PL.Spec := fun ds n R => ∃ m : Int, ds = [.int m] ∧ 1 ≤ m ∧ m ≤ 300 ∧ (bdP (mv fun t => (2 : Int) ^ t % m) → R (frP (mv fun t => (2 : Int) ^ t % m)) n)
theorem pw_per {m : Int} {f c : Nat} (h : Round m f c) : Per (fun t => (2 : Int) ^ t % m) f c := by
  refine ⟨h.1, fun n hn => ?_⟩
  obtain ⟨d, rfl⟩ : ∃ d, n = f + d := ⟨n - f, by omega⟩
  show (2 : Int) ^ (f + d + c) % m = 2 ^ (f + d) % m
  rw [show f + d + c = f + c + d by omega]
  exact pw_on h.2.1 d
theorem ok_mean {f : Addr} {fd : FuncData} (F : Fun K "mean" "mean" s_mean f fd) (hm : mg "mean" = some (.ref f)) (B : BI mg) (h_open_round : FnC P w K mg base 1 "open_round" ["many"] [(["many"], [0])] S_open_round) (h_mean_of : FnC P w K mg base 3 "mean_of" ["places", "first", "count"] [] S_mean_of) (h_opens_to : FnC P w K mg base 1 "opens_to" ["many", "depth"] [] S_opens_to) : FnC P w K mg base 4 "mean" ["many"] [(["many"], [0])] S_mean := by
  refine fnc F hm sc_mean (F.binds (ps := ["many"]) fun _ _ _ _ _ _ us hl => match us, hl with | [_], _ => rfl)
    (fun q hq => by
    simp only [List.mem_cons, List.not_mem_nil, or_false] at hq
    rcases hq with rfl
    · exact F.nbinds fun _ _ _ _ _ _ ws hl => match ws, hl with | [_], _ => rfl) ?_ (fun cdv A outer s H E hgd hr => ⟨_, (dss_cons (ds_asg (de_fnC h_open_round hgd (hr.mono (by decide)) (da_cons (de_var (pv 0)) da_nil)) (dg_tup (m := 2) (dgs_cons (dg_name (pg_name (i := 1) sc_mean.nd rfl (Or.inl rfl))) (dgs_cons (dg_name (pg_name (i := 2) sc_mean.nd rfl (Or.inl rfl))) dgs_nil))))
      (dss_one (ds_ret (SE.of (de_fnC h_mean_of hgd hr (da_cons (de_fnC h_opens_to hgd (hr.mono (by decide)) (da_cons (de_var (pv 0)) (da_cons (de_sub (SE.of (de_add (se_var (pv 1)) (se_var (pv 2)))) (SE.of de_int)) da_nil))) (da_cons (de_var (pv 1)) (da_cons (de_var (pv 2)) da_nil)))))))), ?_⟩)
  · rintro ds n R ⟨m, rfl, _⟩; rfl
  · rintro ds n R ⟨m, rfl, h1, h2, hR⟩
    walk_at "pl"
    refine callS_of _ _ ⟨m, rfl, h1, by omega, fun f c hr => ?_⟩
    have hle := hr.le h1
    have hc := hr.1
    walk_at "pl"
    refine callS_of _ _ ⟨m, _, rfl, h1, by omega, by omega, ?_⟩
    walk_at "pl"
    rw [show ((f : Int) + c - 1).toNat + 1 = f + c by omega]
    refine callS_of _ _ ⟨_, f, c, rfl, hc, by omega, fun t => ⟨Int.emod_nonneg _ (by omega), ?_⟩, ?_⟩
    · have := Int.emod_lt_of_pos ((2 : Int) ^ t) (show 0 < m by omega)
      show (2 : Int) ^ t % m ≤ 512
      omega
    · rw [mv_is (pw_per hr)]
      exact hR
/-! ### means by weights -/
theorem le_sum : ∀ {ws : List Int}, (∀ w ∈ ws, 0 ≤ w) → (0 ≤ ws.sum) ∧ ∀ w ∈ ws, w ≤ ws.sum
  | [], _ => ⟨by simp, fun _ h => nomatch h⟩
  | x :: ws, h => by
    have ih := le_sum fun w hw => h w (List.mem_cons_of_mem _ hw)
    have hx := h x List.mem_cons_self
    rw [List.sum_cons]
    refine ⟨by omega, fun w hw => ?_⟩
    rcases List.mem_cons.mp hw with rfl | hw
    · omega
    · have := ih.2 w hw; omega
theorem sum_one : ∀ {ws : List Int} {W : Int}, (∀ w ∈ ws, 0 ≤ w) → W ∈ ws → ws.sum = W → ∀ w ∈ ws, w = 0 ∨ w = W
  | [], _, _, h, _ => nomatch h
  | x :: ws, W, hn, h, hs => by
    have hx := hn x List.mem_cons_self
    have hn' := fun w hw => hn w (List.mem_cons_of_mem _ hw)
    have l := le_sum hn'
    rw [List.sum_cons] at hs
    intro w hw
    rcases List.mem_cons.mp h with rfl | h
    · rcases List.mem_cons.mp hw with rfl | hw
      · exact .inr rfl
      · have := l.2 w hw; have := hn' w hw; left; omega
    · have := l.2 W h
      rcases List.mem_cons.mp hw with rfl | hw
      · left; omega
      · exact sum_one hn' h (by omega) w hw
theorem op_one {ws : List Int} {W : Int} (h : ∀ w ∈ ws, w = 0 ∨ w = W) (t : Nat) : op W ws t = 0 := by
  have e : ws.map (fun w => (2 : Int) ^ t * w % W) = ws.map fun _ => 0 := List.map_congr_left fun w hw => by
    rcases h w hw with rfl | rfl
    · simp
    · exact Int.mul_emod_left _ _
  unfold op
  rw [e]
  have z : ∀ l : List Int, (l.map fun _ => (0 : Int)).sum = 0 := fun l => by
    induction l with
    | nil => rfl
    | cons _ _ ih => rw [List.map_cons, List.sum_cons, ih]; rfl
  rw [z]; simp
theorem rest_bd {W : Int} (hW : 1 ≤ W) (t : Nat) : ∀ ws : List Int, 0 ≤ (ws.map fun w => (2 : Int) ^ t * w % W).sum ∧ (ws.map fun w => (2 : Int) ^ t * w % W).sum ≤ W * ws.length
  | [] => by simp
  | x :: ws => by
    have ih := rest_bd hW t ws
    have a := Int.emod_nonneg ((2 : Int) ^ t * x) (show W ≠ 0 by omega)
    have b := Int.emod_lt_of_pos ((2 : Int) ^ t * x) (show 0 < W by omega)
    rw [List.map_cons, List.sum_cons, List.length_cons, Int.natCast_add, Int.mul_add]
    have : W * ((1 : Nat) : Int) = W := by simp
    omega
theorem op_bd {W : Int} (hW : 1 ≤ W) {ws : List Int} (hl : ws.length ≤ 500) (t : Nat) : 0 ≤ op W ws t ∧ op W ws t ≤ 512 := by
  have := rest_bd hW t ws
  unfold op
  refine ⟨Int.ediv_nonneg this.1 (by omega), ?_⟩
  have q : (ws.map fun w => (2 : Int) ^ t * w % W).sum / W ≤ ws.length := Int.ediv_le_of_le_mul (by omega) (by rw [Int.mul_comm]; exact this.2)
  omega
theorem memD_int (W : Int) (ws : List Int) : memD (.int W) (ws.map D.int) = decide (W ∈ ws) := by
  unfold memD
  induction ws with
  | nil => rfl
  | cons x ws ih =>
    rw [List.map_cons, List.any_cons, ih, Bool.eq_iff_iff]
    have : eqD (.int x) (.int W) = decide (x = W) := by
      simp only [eqD]
    rw [this, Bool.or_eq_true, decide_eq_true_eq, decide_eq_true_eq, decide_eq_true_eq, List.mem_cons]
    exact or_congr ⟨Eq.symm, Eq.symm⟩ Iff.rfl
theorem flat_ints (ws : List Int) : (ws.map D.int).all flatD = true := by simp [flatD]
/-- on ints -/
def dI (g : Int → Int) : D → D
  | .int r => .int (g r)
  | z => z
abbrev rst (W : Int) (ws : List Int) (t : Nat) : List Int := ws.map fun w => (2 : Int) ^ t * w % W
theorem rst_step (W : Int) (hW : 1 ≤ W) (ws : List Int) (t : Nat) : ((rst W ws t).map D.int).map (dI fun r => (2 * r).fmod W) = (rst W ws (t + 1)).map D.int := by
  unfold rst
  rw [List.map_map, List.map_map, List.map_map]
  refine List.map_congr_left fun w _ => ?_
  show D.int ((2 * ((2 : Int) ^ t * w % W)).fmod W) = _
  rw [fmod_pos (by omega), mul_step]; rfl
theorem divS {x m : Int} (h1 : 1 ≤ m) (h2 : m ≤ 300) : DivOk x m := by
  refine ⟨by omega, ?_⟩
  have h : m.natAbs < 2 ^ 10 := by omega
  exact lg h (by decide)
def S_mean_by : PL.Spec := fun ds n R => ∃ ws : List Int, ds = [.tup (ws.map D.int)] ∧ (∀ w ∈ ws, 0 ≤ w) ∧ 1 ≤ ws.sum ∧ ws.sum ≤ 300 ∧ ws.length ≤ 300 ∧ (bdP (mv (op ws.sum ws)) → R (frP (mv (op ws.sum ws))) n)
theorem ok_mean_by {f : Addr} {fd : FuncData} (F : Fun K "mean_by" "mean_by" s_mean_by f fd) (hm : mg "mean_by" = some (.ref f)) (B : BI mg) {a_NOUGHT : Addr} (c_NOUGHT : mg "NOUGHT" = some (.ref a_NOUGHT)) (q_NOUGHT : SqT K (fun _ => none) a_NOUGHT [.int 0, .int 1]) (h_open_round : FnC P w K mg base 1 "open_round" ["many"] [(["many"], [0])] S_open_round) (h_mean_of : FnC P w K mg base 3 "mean_of" ["places", "first", "count"] [] S_mean_of) : FnC P w K mg base 4 "mean_by" ["weights"] [] S_mean_by := by
  refine fnc F hm sc_mean_by (F.binds (ps := ["weights"]) fun _ _ _ _ _ _ us hl => match us, hl with | [_], _ => rfl)
    (fun q hq => nomatch hq) ?_ (fun cdv A outer s H E hgd hr => ⟨_, (dss_cons (ds_asg (de_sumA B.sum rfl (sa_cons (se_var (pv 0)) sa_nil)) (dg_name (pg_name (i := 1) sc_mean_by.nd rfl (Or.inr rfl))))
      (dss_cons (ds_if (dt_in hr.units (se_var (pv 1)) (se_var (pv 0))) (dss_one (ds_ret (SE.of (de_gtup rfl c_NOUGHT q_NOUGHT (fun _ _ => (.cons (.int _) (.cons (.int _) .nil))))))) dss_nil)
      (dss_cons (ds_asg (de_fnC h_open_round hgd (hr.mono (by decide)) (da_cons (de_var (pv 1)) da_nil)) (dg_tup (m := 2) (dgs_cons (dg_name (pg_name (i := 2) sc_mean_by.nd rfl (Or.inl rfl))) (dgs_cons (dg_name (pg_name (i := 3) sc_mean_by.nd rfl (Or.inl rfl))) dgs_nil))))
      (dss_cons (ds_parM2 (i := 4) (j := 5) sc_mean_by.nd (by decide) (dm_sh (DE.of (fe_list B.list rfl (sa_cons (se_var (pv 0)) sa_nil))) (dm_own (fe_lst da_nil) dm_nil)) (by rfl))
      (dss_cons (ds_for PassesOwn.never rfl (di_range1 B.range rfl (da_cons (de_add (se_var (pv 2)) (se_var (pv 3))) da_nil)) (dg_name (pg_name (i := 6) sc_mean_by.nd rfl (Or.inl rfl))) (dss_cons (ds_append (pv 5) (de_fdiv (SE.of (de_sumA B.sum rfl (sa_cons (se_var (pv 4)) sa_nil))) (se_var (pv 1))))
      (dss_one (ds_setF (ds_setLc (i := 4) (own := [("rest", 7)]) (di_iter (de_var (pv 4))) sc_mean_by.nd (blkOk_by (N := ["weights", "whole", "first", "count", "rests", "places", "depth", "rest"]) (sc := defScope s_mean_by) (own := [("rest", 7)]) (by decide +kernel)) (by decide) (fun _ _ _ _ _ => (dg_name (pg_name (i := 7) sc_mean_by.nd rfl (Or.inl rfl)))) (fun _ _ _ _ _ => dts_nil) (fun _ _ _ _ _ => (de_mod (SE.of (de_mul (SE.of de_int) (se_var (pv 7)))) (se_var (pv 1)))) (sw_true rfl rfl rfl (by decide +kernel)))))))
      (dss_one (ds_frz 5 (ds_ret (SE.of (de_fnC h_mean_of hgd hr (da_cons (de_var (pv 5)) (da_cons (de_var (pv 2)) (da_cons (de_var (pv 3)) da_nil))))))))))))), ?_⟩)
  · rintro ds n R ⟨ws, rfl, _⟩; rfl
  · rintro ds n R ⟨ws, rfl, hn, h1, h2, hl, hR⟩
    walk_at "pl"
    rw [memD_int]
    refine ⟨rfl, flat_ints ws, ?_⟩
    have le := le_sum hn
    by_cases hW : ws.sum ∈ ws
    · rw [decide_eq_true hW]
      have e := mv_zero (op_one (sum_one hn hW rfl))
      rw [e] at hR
      walk_at "pl"
      exact hR ⟨by decide, by decide⟩
    · rw [decide_eq_false hW]
      generalize eW : ws.sum = W at h1 h2 hR hW le ⊢
      walk_at "pl"
      refine callS_of _ _ ⟨W, rfl, h1, by omega, fun f c hr => ?_⟩
      have hle := hr.le h1
      have hc := hr.1
      walk_at "pl"
      refine ⟨by omega, by omega, ?_⟩
      have e0 : ws = rst W ws 0 := by
        unfold rst
        conv => lhs; rw [← List.map_id ws]
        refine List.map_congr_left fun w hw => ?_
        have a := le.2 w hw
        have b := hn w hw
        have : w ≠ W := fun z => hW (z ▸ hw)
        show w = 1 * w % W
        rw [Int.one_mul, Int.emod_eq_of_lt b (by omega)]
      rw [show ((f : Int) + c).toNat = f + c by omega]
      refine (fun (loop : ∀ (k j : Nat) (lo : Int) (rs : List Int) (c6 : Cell), rs = rst W ws j → j + k = f + c → forW ?t ?b (intsD lo k) ?P [Cell.sh (D.tup (ws.map D.int)), Cell.sh (D.int W), Cell.sh (D.int f), Cell.sh (D.int c), Cell.sh (D.lst (rs.map D.int)), Cell.own (D.lst ((pl (op W ws) j).map D.int)), c6, Cell.any] n) => loop (f + c) 0 0 ws .any e0 (by omega)) ?_
      intro k
      induction k with
      | zero =>
        rintro j lo _ c6 rfl hj
        simp only [intsD_zero, forW_nil]
        walk_at "pl"
        have : j = f + c := by omega
        subst this
        refine callS_of _ _ ⟨_, f, c, rfl, hc, by omega, op_bd h1 (by omega), ?_⟩
        rw [mv_is (op_perR hr)]
        exact hR
      | succ k ih =>
        rintro j lo _ c6 rfl hj
        simp only [intsD_succ, forW_cons]
        walk_at "pl"
        refine ⟨divS h1 h2, by simp [pl_len]; omega, by simp; omega, ?_⟩
        refine lcW_m (dI fun r => (2 * r).fmod W) (fun d hd acc L hL => ?_) ?_
        · obtain ⟨r, _, rfl⟩ := List.mem_map.mp hd
          walk_at "pl"
          exact ⟨MulOk.left (by decide) (by decide), by omega, hL⟩
        · rw [rst_step W h1]
          have := ih (j + 1) (lo + 1) _ (.sh (.int lo)) rfl (by omega)
          rw [pl_succ, List.map_append] at this
          rw [fdiv_pos (by omega)]
          exact this
end
end K41

namespace K41
open PySem PySem.Spec L2 PL K39 K40
open K38 (fr sg gcd_pos fr_prog fr_law gcd_step abs_gcd fr_bound)
local macro_rules | `(tactic| walk_at "pl") => `(tactic| simp (maxSteps := 3000000) (dsimp := false) only [env0, List.map_cons, List.map_nil, List.length_cons, List.length_nil, List.replicate_succ, List.replicate_zero, List.cons_append, List.nil_append, List.getElem?_cons_zero, List.getElem?_cons_succ, List.set_cons_zero, List.set_cons_succ, Nat.reduceAdd, Nat.reduceSub, Nat.zero_add, ↓q_seq, ↓o_augm_int, ↓o_ltI, ↓q_dget, ↓q_dgett, ↓q_int, ↓q_dput, ↓q_dputt, ↓q_mnil, ↓q_msh, ↓q_mown, ↓q_parm, ↓q_rd3, ↓q_chain, ↓o_in_lst, ↓o_in_tup, ↓o_in_dic, ↓o_isn, ↓o_mult, ↓o_suma_lstI, ↓o_suma_tupI, ↓o_sumI, ↓o_lend, ↓o_tuplel, k_int, k_str, setC_cons, setC_nil, ↓q_next, ↓q_brk, ↓q_cnt, ↓q_ret, ↓q_ifs, ↓q_drop, ↓q_asg, ↓q_own, ↓q_par, ↓q_par3, ↓q_append, ↓q_for, ↓q_gset, ↓q_gtup, ↓q_gcons, ↓q_gnil, ↓q_aug, ↓q_var, ↓q_rd, ↓q_c, ↓q_bin, ↓q_un, ↓q_b, ↓q_not, ↓q_and, ↓q_or, ↓q_andv, ↓q_orv, ↓q_notv, ↓q_if, ↓q_nil, ↓q_cons, ↓q_consts, ↓q_tup, ↓q_lst, ↓q_sl, ↓q_no, ↓q_part, ↓q_rev, ↓q_call, ↓q_fn, ↓q_fnb, ↓q_fnk, ↓q_isi, ↓q_join, ↓q_lc, ↓q_yes, ↓q_r1, ↓q_r2, ↓q_iter, ↓q_enum, ↓q_enumk, ↓q_zip, ↓q_frz, ↓q_fmt, ↓q_js0, ↓q_js, ↓o_add_int, ↓o_add_str, ↓o_add_lst, ↓o_add_tup, ↓o_sub, ↓o_mul_int, ↓o_mul_lst, ↓o_mod, ↓o_div, ↓o_pow, ↓o_lt_int, ↓o_lt_str, ↓o_le, ↓o_gt, ↓o_ge, ↓o_ix_lst, ↓o_ix_tup, ↓o_ix_str, ↓o_sl_lst, ↓o_sl_tup, ↓o_sl_str, ↓o_len_lst, ↓o_len_tup, ↓o_len_str, ↓o_int_int, ↓o_int_bl, ↓o_int_str, ↓o_list_lst, ↓o_list_tup, ↓o_tuple_lst, ↓o_tuple_tup, ↓o_abs, ↓o_max, ↓o_min, ↓o_str, ↓o_all, ↓o_any, ↓o_aug_int, ↓i_lst, ↓i_tup, ↓i_str, ↓w_nil, ↓w_cons, ↓pk_cons', ↓pk_nil', ↓oEq_int, ↓oNe_int, ↓oEq_str, ↓oNe_str, noOwn, List.all_cons, List.all_nil, Bool.and_self, Bool.and_true, Bool.true_and, b_nd, decide_eq_true_eq, true_and, and_true, atI0, atI1, atI2, atI3, ↓ty_non, ↓ty_bl, ↓ty_int, ↓ty_str, ↓ty_lst, ↓ty_tup, ↓ty_dic, kk_NoneType_bool, kk_NoneType_int, kk_NoneType_str, kk_NoneType_list, kk_NoneType_tuple, kk_NoneType_dict, kk_bool_bool, kk_bool_int, kk_bool_str, kk_bool_list, kk_bool_tuple, kk_bool_dict, kk_int_bool, kk_int_int, kk_int_str, kk_int_list, kk_int_tuple, kk_int_dict, kk_str_bool, kk_str_int, kk_str_str, kk_str_list, kk_str_tuple, kk_str_dict, kk_list_bool, kk_list_int, kk_list_str, kk_list_list, kk_list_tuple, kk_list_dict, kk_tuple_bool, kk_tuple_int, kk_tuple_str, kk_tuple_list, kk_tuple_tuple, kk_tuple_dict, kk_dict_bool, kk_dict_int, kk_dict_str, kk_dict_list, kk_dict_tuple, kk_dict_dict, Bool.not_true, Bool.not_false, Bool.false_eq_true, if_true, if_false, ↓reduceIte, Bool.not_eq_true, List.isEmpty_nil, List.isEmpty_cons, not_true_eq_false, not_false_eq_true, decide_true, decide_false, List.flatten_cons, List.flatten_nil, sizeLine_val, Nat.reduceLeDiff, Nat.reduceLT, Nat.reduceMul, Int.reducePow, Int.reduceNeg, Int.reduceLE, Int.reduceLT, Int.reduceToNat, Int.reduceAdd, Int.reduceSub, Int.reduceMul])
local macro_rules | `(tactic| walk_at "dep") => `(tactic| (simp only [depD, depL, bulkD, bulkL]; first | decide | omega | (rw [← Nat.ble_eq]; rfl)))
local macro_rules | `(tactic| walk_at "nice") => `(tactic| (simp only [niceD, niceL, Bool.and_true, Bool.true_and, Bool.and_eq_true, decide_eq_true_eq, and_true, true_and]))
section
variable {P : Program} {w : World} {K : PySem.W.Frag} {mg : Str → Option Value} {base : Heap}
/-! ### texts of tosses -/
theorem chars_strOf (bs : List Bool) : chars (strOf bs) = bs.map fun b => .str ⟨#[cpB b]⟩ := by
  unfold chars strOf
  rw [List.map_map]; rfl
theorem len_strOf (bs : List Bool) : (strOf bs).length = bs.length := by simp [strOf, Str.length]
theorem int_bit (b : Bool) : PySem.intText? ⟨#[cpB b]⟩ = some (bit b) := by cases b <;> decide +kernel
theorem len_bit (b : Bool) : (⟨#[cpB b]⟩ : Str).length ≤ 640 := by show 1 ≤ 640; decide
/-! ### draw -/
def S_draw : PL.Spec := fun ds n R => ∃ (m : Int) (bs : List Bool), ds = [.int m, .str (strOf bs)] ∧ 1 ≤ m ∧ bs.length ≤ 400 ∧ R (toD (drawR m bs)) n
theorem ok_draw {f : Addr} {fd : FuncData} (F : Fun K "draw" "draw" s_draw f fd) (hm : mg "draw" = some (.ref f)) (B : BI mg) {t_OPEN : Tok} (c_OPEN : mg "OPEN" = some (.str "open" t_OPEN)) {t_DRAWN : Tok} (c_DRAWN : mg "DRAWN" = some (.str "drawn" t_DRAWN)) : FnC P w K mg base 1 "draw" ["many", "tosses"] [] S_draw := by
  refine fnc F hm sc_draw (F.binds (ps := ["many", "tosses"]) fun _ _ _ _ _ _ us hl => match us, hl with | [_, _], _ => rfl)
    (fun q hq => nomatch hq) ?_ (fun cdv A outer s H E hgd hr => ⟨_, (dss_cons (ds_if (dt_eq hr.units (se_var (pv 0)) (SE.of de_int)) (dss_one (ds_ret (SE.of (de_tup (da_cons (de_gstr rfl c_DRAWN) (da_cons de_int (da_cons de_int da_nil))))))) dss_nil)
      (dss_cons (ds_asg (de_tup (da_cons de_int (da_cons de_int da_nil))) (dg_tup (m := 2) (dgs_cons (dg_name (pg_name (i := 2) sc_draw.nd rfl (Or.inl rfl))) (dgs_cons (dg_name (pg_name (i := 3) sc_draw.nd rfl (Or.inl rfl))) dgs_nil))))
      (dss_cons (ds_for PassesOwn.never rfl (di_enumK B.enumerate rfl (da_cons (de_var (pv 1)) da_nil) (dk_cons de_int dk_nil)) (dg_tup (m := 2) (dgs_cons (dg_name (pg_name (i := 4) sc_draw.nd rfl (Or.inl rfl))) (dgs_cons (dg_name (pg_name (i := 5) sc_draw.nd rfl (Or.inl rfl))) dgs_nil))) (dss_cons (ds_par (i := 2) (j := 3) sc_draw.nd (by decide) (da_cons (de_mul (SE.of de_int) (se_var (pv 2))) (da_cons (de_add (SE.of (de_mul (SE.of de_int) (se_var (pv 3)))) (SE.of (de_int1 B.int rfl (sa_cons (se_var (pv 5)) sa_nil)))) da_nil)) (by rfl))
      (dss_one (ds_if (dt_ge (se_var (pv 2)) (se_var (pv 0))) (dss_cons (ds_if (dt_lt (se_var (pv 3)) (se_var (pv 0))) (dss_one (ds_ret (SE.of (de_tup (da_cons (de_gstr rfl c_DRAWN) (da_cons (de_var (pv 3)) (da_cons (de_var (pv 4)) da_nil))))))) dss_nil)
      (dss_one (ds_par (i := 2) (j := 3) sc_draw.nd (by decide) (da_cons (de_sub (se_var (pv 2)) (se_var (pv 0))) (da_cons (de_sub (se_var (pv 3)) (se_var (pv 0))) da_nil)) (by rfl)))) dss_nil))))
      (dss_one (ds_ret (SE.of (de_tup (da_cons (de_gstr rfl c_OPEN) (da_cons (de_var (pv 2)) (da_cons (de_var (pv 3)) da_nil)))))))))), ?_⟩)
  · rintro ds n R ⟨m, bs, rfl, _⟩; rfl
  · rintro ds n R ⟨m, bs, rfl, h1, h2, hR⟩
    try walk_at "pl"
    by_cases hm1 : m = 1
    · rw [if_pos hm1]
      unfold drawR at hR
      rw [if_pos hm1] at hR
      exact hR
    · rw [if_neg hm1]
      unfold drawR at hR
      rw [if_neg hm1] at hR
      rw [chars_strOf]
      refine (fun (loop : ∀ (bs' : List Bool) (u p q : Int) (c4 c5 : Cell), R (toD (drawP m u bs' p q)) n → forW ?t ?b (nums (u + 1) (bs'.map fun b => D.str ⟨#[cpB b]⟩)) ?P [Cell.sh (D.int m), Cell.sh (D.str (strOf bs)), Cell.sh (D.int p), Cell.sh (D.int q), c4, c5] n) => loop bs 0 1 0 .any .any hR) ?_
      intro bs'
      induction bs' with
      | nil =>
        intro u p q c4 c5 h
        simp only [List.map_nil, nums, forW_nil]
        try walk_at "pl"
        exact h
      | cons b bs' ih =>
        intro u p q c4 c5 h
        simp only [List.map_cons, nums, forW_cons]
        try walk_at "pl"
        rw [drawP] at h
        refine ⟨MulOk.left (by decide) (by decide), MulOk.left (by decide) (by decide), len_bit b, ?_⟩
        simp only [int_bit]
        by_cases c : m ≤ 2 * p
        · rw [if_pos c] at h ⊢
          by_cases d : 2 * q + bit b < m
          · rw [if_pos d] at h ⊢
            exact h
          · rw [if_neg d] at h ⊢
            exact ih (u + 1) _ _ _ _ h
        · rw [if_neg c] at h ⊢
          exact ih (u + 1) _ _ _ _ h
/-! ### draws by weights -/
theorem lc_idx {t : TPG} {tt : TPT} {te : TPE} {ρ : PEnv} {n : Nat} {R : List D → Nat → Prop} (h : ∀ (i f : Int) (acc : List D) (L : List D → Nat → Prop), (if f = 1 then L (acc ++ [D.int i]) n else L acc n) → t (.tup [.int i, .int f]) ρ n fun ρ1 n1 => tt ρ1 n1 fun b n2 => if b = true then te ρ1 n2 fun y n3 => L (acc ++ [y]) n3 else L acc n2) :
    ∀ (fs : List Int) (i : Int) (acc : List D), R (acc ++ (idx1 i fs).map D.int) n → lcW t tt te (nums i (fs.map D.int)) acc ρ n R
  | [], i, acc, hR => by simpa [nums, lcW, idx1] using hR
  | f :: fs, i, acc, hR => by
    rw [List.map_cons, nums, lcW_cons]
    refine h i f acc (fun acc k => lcW t tt te (nums (i + 1) (fs.map D.int)) acc ρ k R) ?_
    rw [idx1] at hR
    split at hR
    · next c =>
      rw [if_pos c]
      exact lc_idx h fs (i + 1) _ (by simpa using hR)
    · next c =>
      rw [if_neg c]
      exact lc_idx h fs (i + 1) _ hR
theorem lc_idxL {t : TPG} {tt : TPT} {te : TPE} {ρ : PEnv} {n : Nat} {R : List D → Nat → Prop} (ws : List Int) (g : Int → Int) (h : ∀ (i : Nat) (w : Int), ws[i]? = some w → ∀ (acc : List D) (L : List D → Nat → Prop), (if g w = 1 then L (acc ++ [D.int i]) n else L acc n) → t (.int i) ρ n fun ρ1 n1 => tt ρ1 n1 fun b n2 => if b = true then te ρ1 n2 fun y n3 => L (acc ++ [y]) n3 else L acc n2) :
    ∀ (k i : Nat) (acc : List D), i + k = ws.length → R (acc ++ (idx1 i ((ws.drop i).map g)).map D.int) n → lcW t tt te (intsD i k) acc ρ n R
  | 0, i, acc, hi, hR => by
    rw [List.drop_of_length_le (by omega)] at hR
    simpa [intsD_zero, lcW, idx1] using hR
  | k + 1, i, acc, hi, hR => by
    have hlt : i < ws.length := by omega
    rw [intsD_succ, lcW_cons]
    refine h i ws[i] (by simp [hlt]) acc (fun acc k' => lcW t tt te (intsD ((i : Int) + 1) k) acc ρ k' R) ?_
    rw [List.drop_eq_getElem_cons hlt, List.map_cons, idx1] at hR
    have e : ((i : Int) + 1) = ((i + 1 : Nat) : Int) := by omega
    rw [e] at hR ⊢
    split at hR
    · next c =>
      rw [if_pos c]
      exact lc_idxL ws g h k (i + 1) _ (by omega) (by simpa using hR)
    · next c =>
      rw [if_neg c]
      exact lc_idxL ws g h k (i + 1) _ (by omega) hR
theorem atI_mapD {l : List Int} {q : Int} (h0 : 0 ≤ q) (h1 : q < l.length) : atI (l.map D.int) q = some (.int (l.getD q.toNat 0)) := by
  have hi : q.toNat < l.length := by omega
  have := atI_nat (xs := l.map D.int) (j := q.toNat) (v := .int (l.getD q.toNat 0)) (by simp [hi])
  rwa [show ((q.toNat : Nat) : Int) = q by omega] at this
theorem atI_str {bs : List Bool} {i : Nat} {b : Bool} (h : bs[i]? = some b) : atI (strOf bs).cps.toList (i : Int) = some (cpB b) := by
  refine atI_nat ?_
  show (bs.map cpB)[i]? = _
  rw [List.getElem?_map, h]; rfl
theorem fig_zero {ws : List Int} {W : Int} (hn : ∀ w ∈ ws, 0 ≤ w) (h1 : 1 ≤ W) (hl : ∀ w ∈ ws, w ≤ W) : (ws.map D.int).map (dI fun r => r.fdiv W) = (fig W ws 0).map D.int ∧ (ws.map D.int).map (dI fun r => r.fmod W) = (rst W ws 0).map D.int := by
  unfold fig rst
  rw [List.map_map, List.map_map, List.map_map, List.map_map]
  refine ⟨List.map_congr_left fun w hw => ?_, List.map_congr_left fun w hw => ?_⟩
  · show D.int (w.fdiv W) = D.int (1 * w / W % 2)
    rw [Int.one_mul, fdiv_pos (by omega)]
    have a := hn w hw
    have b := hl w hw
    by_cases e : w = W
    · subst e; rw [Int.ediv_self (by omega)]; rfl
    · rw [Int.ediv_eq_zero_of_lt a (by omega)]; rfl
  · show D.int (w.fmod W) = D.int (1 * w % W)
    rw [Int.one_mul, fmod_pos (by omega)]
theorem fig_next (W : Int) (hW : 1 ≤ W) (ws : List Int) (t : Nat) : ((rst W ws t).map D.int).map (dI fun r => (2 * r).fdiv W) = (fig W ws (t + 1)).map D.int := by
  unfold rst fig
  rw [List.map_map, List.map_map, List.map_map]
  refine List.map_congr_left fun w _ => ?_
  show D.int ((2 * ((2 : Int) ^ t * w % W)).fdiv W) = D.int ((2 : Int) ^ (t + 1) * w / W % 2)
  rw [fdiv_pos (by omega), fig_step (by omega)]
theorem rst_len (W : Int) (ws : List Int) (t : Nat) : (rst W ws t).length = ws.length := by simp
theorem fig_len (W : Int) (ws : List Int) (t : Nat) : (fig W ws t).length = ws.length := by simp [fig]
theorem nums_lenI (fs : List Int) : (nums 0 (fs.map D.int)).length = fs.length := by rw [nums_len]; simp
end
end K41

namespace K41
open PySem PySem.Spec L2 PL K39 K40
open K38 (fr sg gcd_pos fr_prog fr_law gcd_step abs_gcd fr_bound)
local macro_rules | `(tactic| walk_at "pl") => `(tactic| simp (maxSteps := 3000000) (dsimp := false) only [env0, List.map_cons, List.map_nil, List.length_cons, List.length_nil, List.replicate_succ, List.replicate_zero, List.cons_append, List.nil_append, List.getElem?_cons_zero, List.getElem?_cons_succ, List.set_cons_zero, List.set_cons_succ, Nat.reduceAdd, Nat.reduceSub, Nat.zero_add, ↓q_seq, ↓o_augm_int, ↓o_ltI, ↓q_dget, ↓q_dgett, ↓q_int, ↓q_dput, ↓q_dputt, ↓q_mnil, ↓q_msh, ↓q_mown, ↓q_parm, ↓q_rd3, ↓q_chain, ↓o_in_lst, ↓o_in_tup, ↓o_in_dic, ↓o_isn, ↓o_mult, ↓o_suma_lstI, ↓o_suma_tupI, ↓o_sumI, ↓o_lend, ↓o_tuplel, k_int, k_str, setC_cons, setC_nil, ↓q_next, ↓q_brk, ↓q_cnt, ↓q_ret, ↓q_ifs, ↓q_drop, ↓q_asg, ↓q_own, ↓q_par, ↓q_par3, ↓q_append, ↓q_for, ↓q_gset, ↓q_gtup, ↓q_gcons, ↓q_gnil, ↓q_aug, ↓q_var, ↓q_rd, ↓q_c, ↓q_bin, ↓q_un, ↓q_b, ↓q_not, ↓q_and, ↓q_or, ↓q_andv, ↓q_orv, ↓q_notv, ↓q_if, ↓q_nil, ↓q_cons, ↓q_consts, ↓q_tup, ↓q_lst, ↓q_sl, ↓q_no, ↓q_part, ↓q_rev, ↓q_call, ↓q_fn, ↓q_fnb, ↓q_fnk, ↓q_isi, ↓q_join, ↓q_lc, ↓q_yes, ↓q_r1, ↓q_r2, ↓q_iter, ↓q_enum, ↓q_enumk, ↓q_zip, ↓q_frz, ↓q_fmt, ↓q_js0, ↓q_js, ↓o_add_int, ↓o_add_str, ↓o_add_lst, ↓o_add_tup, ↓o_sub, ↓o_mul_int, ↓o_mul_lst, ↓o_mod, ↓o_div, ↓o_pow, ↓o_lt_int, ↓o_lt_str, ↓o_le, ↓o_gt, ↓o_ge, ↓o_ix_lst, ↓o_ix_tup, ↓o_ix_str, ↓o_sl_lst, ↓o_sl_tup, ↓o_sl_str, ↓o_len_lst, ↓o_len_tup, ↓o_len_str, ↓o_int_int, ↓o_int_bl, ↓o_int_str, ↓o_list_lst, ↓o_list_tup, ↓o_tuple_lst, ↓o_tuple_tup, ↓o_abs, ↓o_max, ↓o_min, ↓o_str, ↓o_all, ↓o_any, ↓o_aug_int, ↓i_lst, ↓i_tup, ↓i_str, ↓w_nil, ↓w_cons, ↓pk_cons', ↓pk_nil', ↓oEq_int, ↓oNe_int, ↓oEq_str, ↓oNe_str, noOwn, List.all_cons, List.all_nil, Bool.and_self, Bool.and_true, Bool.true_and, b_nd, decide_eq_true_eq, true_and, and_true, atI0, atI1, atI2, atI3, ↓ty_non, ↓ty_bl, ↓ty_int, ↓ty_str, ↓ty_lst, ↓ty_tup, ↓ty_dic, kk_NoneType_bool, kk_NoneType_int, kk_NoneType_str, kk_NoneType_list, kk_NoneType_tuple, kk_NoneType_dict, kk_bool_bool, kk_bool_int, kk_bool_str, kk_bool_list, kk_bool_tuple, kk_bool_dict, kk_int_bool, kk_int_int, kk_int_str, kk_int_list, kk_int_tuple, kk_int_dict, kk_str_bool, kk_str_int, kk_str_str, kk_str_list, kk_str_tuple, kk_str_dict, kk_list_bool, kk_list_int, kk_list_str, kk_list_list, kk_list_tuple, kk_list_dict, kk_tuple_bool, kk_tuple_int, kk_tuple_str, kk_tuple_list, kk_tuple_tuple, kk_tuple_dict, kk_dict_bool, kk_dict_int, kk_dict_str, kk_dict_list, kk_dict_tuple, kk_dict_dict, Bool.not_true, Bool.not_false, Bool.false_eq_true, if_true, if_false, ↓reduceIte, Bool.not_eq_true, List.isEmpty_nil, List.isEmpty_cons, not_true_eq_false, not_false_eq_true, decide_true, decide_false, List.flatten_cons, List.flatten_nil, sizeLine_val, Nat.reduceLeDiff, Nat.reduceLT, Nat.reduceMul, Int.reducePow, Int.reduceNeg, Int.reduceLE, Int.reduceLT, Int.reduceToNat, Int.reduceAdd, Int.reduceSub, Int.reduceMul])
local macro_rules | `(tactic| walk_at "dep") => `(tactic| (simp only [depD, depL, bulkD, bulkL]; first | decide | omega | (rw [← Nat.ble_eq]; rfl)))
local macro_rules | `(tactic| walk_at "nice") => `(tactic| (simp only [niceD, niceL, Bool.and_true, Bool.true_and, Bool.and_eq_true, decide_eq_true_eq, and_true, true_and]))
section
variable {P : Program} {w : World} {K : PySem.W.Frag} {mg : Str → Option Value} {base : Heap}
/-! ### the law's own mean -/
theorem dKeyL_ints : ∀ l : List Int, dKeyL (l.map D.int) = some (l.map Sum.inl)
  | [] => rfl
  | x :: l => by rw [List.map_cons, dKeyL, dKeyL_ints l]; rfl
abbrev kyT (W : Int) (ws : List Int) (i : Nat) : List Key := (rst W ws i).map Sum.inl
theorem kyT_eq {W : Int} {ws : List Int} {i j : Nat} : kyT W ws i = kyT W ws j ↔ ∀ w ∈ ws, (2 : Int) ^ i * w % W = 2 ^ j * w % W := by
  unfold kyT rst
  rw [List.map_map, List.map_map, List.map_inj_left]
  exact ⟨fun h w hw => Sum.inl.inj (h w hw), fun h w hw => congrArg Sum.inl (h w hw)⟩
def S_law_mean_by : PL.Spec := S_mean_by
theorem ok_law_mean_by {f : Addr} {fd : FuncData} (F : Fun K "_law_mean_by" "_law_mean_by" s_law_mean_by f fd) (hm : mg "_law_mean_by" = some (.ref f)) (B : BI mg) (h_law_ratio : FnC P w K mg base 1 "_law_ratio" ["_law_top", "_law_bottom"] [] S_law_ratio) (h_law_summed : FnC P w K mg base 1 "_law_summed" ["_law_opens"] [] S_law_summed) (h_law_twos : FnC P w K mg base 1 "_law_twos" ["_law_much"] [] S_law_twos) : FnC P w K mg base 2 "_law_mean_by" ["_law_loads"] [] S_law_mean_by := by
  refine fnc F hm sc_law_mean_by (F.binds (ps := ["_law_loads"]) fun _ _ _ _ _ _ us hl => match us, hl with | [_], _ => rfl)
    (fun q hq => nomatch hq) ?_ (fun cdv A outer s H E hgd hr => ⟨_, (dss_cons (ds_parMN (by decide) (dm_sh (de_sumA B.sum rfl (sa_cons (se_var (pv 0)) sa_nil)) (dm_sh (DE.of (fe_list B.list rfl (sa_cons (se_var (pv 0)) sa_nil))) (dm_own fe_dnewT (dm_own (fe_lst da_nil) dm_nil)))) (.cons (pg_name (i := 1) sc_law_mean_by.nd rfl (Or.inr rfl)) rfl (.cons (pg_name (i := 2) sc_law_mean_by.nd rfl (Or.inl rfl)) rfl (.cons (pg_name (i := 3) sc_law_mean_by.nd rfl (Or.inl rfl)) rfl (.cons (pg_name (i := 4) sc_law_mean_by.nd rfl (Or.inl rfl)) rfl .nil)))))
      (dss_cons (ds_setF (ds_setLc (i := 2) (own := [("_law_rest", 10)]) (di_iter (de_var (pv 2))) sc_law_mean_by.nd (blkOk_by (N := ["_law_loads", "_law_whole", "_law_rests", "_law_met", "_law_opens", "_law_first", "_law_ahead", "_law_again", "_law_near", "_law_far", "_law_rest"]) (sc := defScope s_law_mean_by) (own := [("_law_rest", 10)]) (by decide +kernel)) (by decide) (fun _ _ _ _ _ => (dg_name (pg_name (i := 10) sc_law_mean_by.nd rfl (Or.inl rfl)))) (fun _ _ _ _ _ => dts_nil) (fun _ _ _ _ _ => (de_mod (se_var (pv 10)) (se_var (pv 1)))) (sw_true rfl rfl rfl (by decide +kernel))))
      (dss_cons (ds_while PassesOwn.never (dt_notinTT hr.units (ne_tuple B.tuple rfl (sa_cons (se_var (pv 2)) sa_nil)) (se_var (pv 3))) (dss_cons (ds_dputT hr.units (pv 3) (ne_tuple B.tuple rfl (sa_cons (se_var (pv 2)) sa_nil)) (de_len B.len rfl (sa_cons (se_var (pv 4)) sa_nil)))
      (dss_cons (ds_append (pv 4) (de_fdiv (SE.of (de_sumA B.sum rfl (sa_cons (se_var (pv 2)) sa_nil))) (se_var (pv 1))))
      (dss_one (ds_setF (ds_setLc (i := 2) (own := [("_law_rest", 10)]) (di_iter (de_var (pv 2))) sc_law_mean_by.nd (blkOk_by (N := ["_law_loads", "_law_whole", "_law_rests", "_law_met", "_law_opens", "_law_first", "_law_ahead", "_law_again", "_law_near", "_law_far", "_law_rest"]) (sc := defScope s_law_mean_by) (own := [("_law_rest", 10)]) (by decide +kernel)) (by decide) (fun _ _ _ _ _ => (dg_name (pg_name (i := 10) sc_law_mean_by.nd rfl (Or.inl rfl)))) (fun _ _ _ _ _ => dts_nil) (fun _ _ _ _ _ => (de_mod (SE.of (de_int1 B.int rfl (sa_cons (SE.of (de_mul (SE.of de_int) (se_var (pv 10)))) sa_nil))) (se_var (pv 1)))) (sw_true rfl rfl rfl (by decide +kernel))))))))
      (dss_cons (ds_asg (de_dgetT hr.units (se_var (pv 3)) (ne_tuple B.tuple rfl (sa_cons (se_var (pv 2)) sa_nil))) (dg_name (pg_name (i := 5) sc_law_mean_by.nd rfl (Or.inl rfl))))
      (dss_cons (ds_par (i := 6) (j := 7) sc_law_mean_by.nd (by decide) (da_cons (de_fnC h_law_summed hgd hr (da_cons (de_slice (se_var (pv 4)) do_none (do_some (se_var (pv 5)))) da_nil)) (da_cons (de_fnC h_law_summed hgd hr (da_cons (de_slice (se_var (pv 4)) (do_some (se_var (pv 5))) do_none) da_nil)) da_nil)) (by rfl))
      (dss_cons (ds_par (i := 8) (j := 9) sc_law_mean_by.nd (by decide) (da_cons (de_fnC h_law_twos hgd hr (da_cons (de_var (pv 5)) da_nil)) (da_cons (de_sub (SE.of (de_fnC h_law_twos hgd hr (da_cons (de_sub (SE.of (de_len B.len rfl (sa_cons (se_var (pv 4)) sa_nil))) (se_var (pv 5))) da_nil))) (SE.of de_int)) da_nil)) (by rfl))
      (dss_one (ds_ret (SE.of (de_fnC h_law_ratio hgd hr (da_cons (de_add (SE.of (de_mul (se_var (pv 6)) (se_var (pv 9)))) (se_var (pv 7))) (da_cons (de_mul (se_var (pv 8)) (se_var (pv 9))) da_nil)))))))))))), ?_⟩)
  · rintro ds n R ⟨ws, rfl, _⟩; rfl
  · rintro ds n R ⟨ws, rfl, hn, h1, h2, hl, hR⟩
    have le := le_sum hn
    walk_at "pl"
    generalize eW : ws.sum = W at h1 h2 hR le ⊢
    refine ⟨by simp; omega, ?_⟩
    refine lcW_m (dI fun r => r.fmod W) (fun d hd acc L hL => ?_) ?_
    · obtain ⟨r, _, rfl⟩ := List.mem_map.mp hd
      try walk_at "pl"
      exact ⟨by omega, hL⟩
    rw [(fig_zero hn h1 le.2).2]
    try walk_at "pl"
    refine ⟨fun μ ρ k => ∃ t : Nat, μ = W.toNat - t ∧ ρ = [.sh (.tup (ws.map D.int)), .sh (.int W), .sh (.lst ((rst W ws t).map D.int)), .own (.dit (rg t (kyT W ws)) (rg t ixD)), .own (.lst ((pl (op W ws) t).map D.int)), .any, .any, .any, .any, .any, .any] ∧ k = n ∧ ∀ i j : Nat, i < j → j < t → kyT W ws i ≠ kyT W ws j, ⟨_, 0, rfl, rfl, rfl, fun i j _ h => by omega⟩, ?_⟩
    rintro μ ρ k ⟨t, rfl, rfl, rfl, hd⟩
    try walk_at "pl"
    simp only [dKeyL_ints]
    have few : ∀ t' : Nat, (∀ i j : Nat, i < j → j < t' → kyT W ws i ≠ kyT W ws j) → t' ≤ W.toNat := fun t' h => pw_few h1 fun i j a b z => h i j a b (kyT_eq.mpr fun w _ => pw_same w z)
    have ht := few t hd
    refine ⟨by rw [rg_len, rg_len], ?_⟩
    by_cases c : hasK (kyT W ws t) (rg t (kyT W ws)) = true
    · rw [c]
      try walk_at "pl"
      obtain ⟨f, hf, e⟩ := hasK_rg.mp c
      have g : dGet (rg t (kyT W ws)) (rg t ixD) (kyT W ws t) = some (ixD f) := by
        rw [← e]
        exact dGet_rg hd hf
      simp only [dKeyL_ints, g]
      try walk_at "pl"
      obtain ⟨c', rfl⟩ : ∃ c', t = f + c' := ⟨t - f, by omega⟩
      have per : Per (op W ws) f c' := op_per (by omega) (kyT_eq.mp e.symm)
      have hc : 0 < c' := per.1
      have hp := op_bd h1 (ws := ws) (by omega)
      rw [cut_to, ← List.map_take, pl_take _ (by omega)]
      refine callS_of _ _ ⟨_, rfl, ?_⟩
      rw [fold_pl]
      try walk_at "pl"
      rw [cut_from, ← List.map_drop]
      refine callS_of _ _ ⟨_, rfl, ?_⟩
      rw [pl_drop]
      try walk_at "pl"
      refine callS_of _ _ ⟨_, rfl, by omega, by omega, ?_⟩
      rw [Int.toNat_natCast]
      try walk_at "pl"
      rw [List.length_map, pl_len, show (((f + c' : Nat) : Int)) - (f : Int) = (c' : Int) by omega]
      refine callS_of _ _ ⟨_, rfl, by omega, by omega, ?_⟩
      rw [Int.toNat_natCast]
      try walk_at "pl"
      have a := plt (k := 400) (bt_lt hp f) (by omega)
      have a2 : (2 * bt (op W ws) f).natAbs < 2 ^ 402 := nlt (i := 2) (by decide) a (by decide)
      refine ⟨.wide a2 (tw1_lt c'), .wide (tw_lt f) (tw1_lt c'), callS_of _ _ ⟨_, _, rfl, Int.ne_of_gt (dn_pos hc), plt (dn_lt (by omega)) (by decide), ?_⟩⟩
      have e2 : 2 * bt (op W ws) f * (2 ^ c' - 1) + 2 * (bt (op W ws) (f + c') - 2 ^ c' * bt (op W ws) f) = 2 * (bt (op W ws) (f + c') - bt (op W ws) f) := by
        rw [Int.mul_sub (2 * bt (op W ws) f), Int.mul_one, Int.mul_assoc, Int.mul_comm (bt (op W ws) f)]
        omega
      rw [e2]
      have bd := mvF_bd hp hc (f := f) (by omega)
      rw [mv_is per] at bd
      have hR := hR bd
      rw [← mv_is per] at hR
      exact hR
    · have c' : hasK (kyT W ws t) (rg t (kyT W ws)) = false := by simpa using c
      have nm : kyT W ws t ∉ rg t (kyT W ws) := fun z => c (hasK_rg.mpr (rg_mem.mp z))
      have hd' : ∀ i j : Nat, i < j → j < t + 1 → kyT W ws i ≠ kyT W ws j := fun i j a b z => by
        by_cases q : j < t
        · exact hd i j a q z
        · have : j = t := by omega
          subst this
          exact nm (rg_mem.mpr ⟨i, a, z⟩)
      have ht' := few (t + 1) hd'
      rw [c']
      try walk_at "pl"
      try simp only [dKeyL_ints]
      rw [rg_len, List.length_map, pl_len]
      try walk_at "pl"
      refine ⟨by omega, divS h1 h2, by omega, by simp; omega, ?_⟩
      refine lcW_m (dI fun r => (2 * r).fmod W) (fun d hd acc L hL => ?_) ?_
      · obtain ⟨r, _, rfl⟩ := List.mem_map.mp hd
        try walk_at "pl"
        exact ⟨MulOk.left (by decide) (by decide), by omega, hL⟩
      rw [rst_step W h1]
      try walk_at "pl"
      refine ⟨W.toNat - (t + 1), by omega, t + 1, rfl, ?_, hd'⟩
      rw [← dKeys_rg nm, ← dVals_rg (g := ixD) nm, pl_succ, List.map_append, fdiv_pos (by omega)]
      rfl
end
end K41

namespace K41
open PySem PySem.Spec L2 PL K39 K40
open K38 (fr sg gcd_pos fr_prog fr_law gcd_step abs_gcd fr_bound)
local macro_rules | `(tactic| walk_at "pl") => `(tactic| simp (maxSteps := 3000000) (dsimp := false) only [env0, List.map_cons, List.map_nil, List.length_cons, List.length_nil, List.replicate_succ, List.replicate_zero, List.cons_append, List.nil_append, List.getElem?_cons_zero, List.getElem?_cons_succ, List.set_cons_zero, List.set_cons_succ, Nat.reduceAdd, Nat.reduceSub, Nat.zero_add, ↓q_seq, ↓o_augm_int, ↓o_ltI, ↓q_dget, ↓q_dgett, ↓q_int, ↓q_dput, ↓q_dputt, ↓q_mnil, ↓q_msh, ↓q_mown, ↓q_parm, ↓q_rd3, ↓q_chain, ↓o_in_lst, ↓o_in_tup, ↓o_in_dic, ↓o_isn, ↓o_mult, ↓o_suma_lstI, ↓o_suma_tupI, ↓o_sumI, ↓o_lend, ↓o_tuplel, k_int, k_str, setC_cons, setC_nil, ↓q_next, ↓q_brk, ↓q_cnt, ↓q_ret, ↓q_ifs, ↓q_drop, ↓q_asg, ↓q_own, ↓q_par, ↓q_par3, ↓q_append, ↓q_for, ↓q_gset, ↓q_gtup, ↓q_gcons, ↓q_gnil, ↓q_aug, ↓q_var, ↓q_rd, ↓q_c, ↓q_bin, ↓q_un, ↓q_b, ↓q_not, ↓q_and, ↓q_or, ↓q_andv, ↓q_orv, ↓q_notv, ↓q_if, ↓q_nil, ↓q_cons, ↓q_consts, ↓q_tup, ↓q_lst, ↓q_sl, ↓q_no, ↓q_part, ↓q_rev, ↓q_call, ↓q_fn, ↓q_fnb, ↓q_fnk, ↓q_isi, ↓q_join, ↓q_lc, ↓q_yes, ↓q_r1, ↓q_r2, ↓q_iter, ↓q_enum, ↓q_enumk, ↓q_zip, ↓q_frz, ↓q_fmt, ↓q_js0, ↓q_js, ↓o_add_int, ↓o_add_str, ↓o_add_lst, ↓o_add_tup, ↓o_sub, ↓o_mul_int, ↓o_mul_lst, ↓o_mod, ↓o_div, ↓o_pow, ↓o_lt_int, ↓o_lt_str, ↓o_le, ↓o_gt, ↓o_ge, ↓o_ix_lst, ↓o_ix_tup, ↓o_ix_str, ↓o_sl_lst, ↓o_sl_tup, ↓o_sl_str, ↓o_len_lst, ↓o_len_tup, ↓o_len_str, ↓o_int_int, ↓o_int_bl, ↓o_int_str, ↓o_list_lst, ↓o_list_tup, ↓o_tuple_lst, ↓o_tuple_tup, ↓o_abs, ↓o_max, ↓o_min, ↓o_str, ↓o_all, ↓o_any, ↓o_aug_int, ↓i_lst, ↓i_tup, ↓i_str, ↓w_nil, ↓w_cons, ↓pk_cons', ↓pk_nil', ↓oEq_int, ↓oNe_int, ↓oEq_str, ↓oNe_str, noOwn, List.all_cons, List.all_nil, Bool.and_self, Bool.and_true, Bool.true_and, b_nd, decide_eq_true_eq, true_and, and_true, atI0, atI1, atI2, atI3, ↓ty_non, ↓ty_bl, ↓ty_int, ↓ty_str, ↓ty_lst, ↓ty_tup, ↓ty_dic, kk_NoneType_bool, kk_NoneType_int, kk_NoneType_str, kk_NoneType_list, kk_NoneType_tuple, kk_NoneType_dict, kk_bool_bool, kk_bool_int, kk_bool_str, kk_bool_list, kk_bool_tuple, kk_bool_dict, kk_int_bool, kk_int_int, kk_int_str, kk_int_list, kk_int_tuple, kk_int_dict, kk_str_bool, kk_str_int, kk_str_str, kk_str_list, kk_str_tuple, kk_str_dict, kk_list_bool, kk_list_int, kk_list_str, kk_list_list, kk_list_tuple, kk_list_dict, kk_tuple_bool, kk_tuple_int, kk_tuple_str, kk_tuple_list, kk_tuple_tuple, kk_tuple_dict, kk_dict_bool, kk_dict_int, kk_dict_str, kk_dict_list, kk_dict_tuple, kk_dict_dict, Bool.not_true, Bool.not_false, Bool.false_eq_true, if_true, if_false, ↓reduceIte, Bool.not_eq_true, List.isEmpty_nil, List.isEmpty_cons, not_true_eq_false, not_false_eq_true, decide_true, decide_false, List.flatten_cons, List.flatten_nil, sizeLine_val, Nat.reduceLeDiff, Nat.reduceLT, Nat.reduceMul, Int.reducePow, Int.reduceNeg, Int.reduceLE, Int.reduceLT, Int.reduceToNat, Int.reduceAdd, Int.reduceSub, Int.reduceMul])
local macro_rules | `(tactic| walk_at "dep") => `(tactic| (simp only [depD, depL, bulkD, bulkL]; first | decide | omega | (rw [← Nat.ble_eq]; rfl)))
local macro_rules | `(tactic| walk_at "nice") => `(tactic| (simp only [niceD, niceL, Bool.and_true, Bool.true_and, Bool.and_eq_true, decide_eq_true_eq, and_true, true_and]))
section
variable {P : Program} {w : World} {K : PySem.W.Frag} {mg : Str → Option Value} {base : Heap}
def S_law_round : PL.Spec := S_open_round
theorem ok_law_round {f : Addr} {fd : FuncData} (F : Fun K "_law_round" "_law_round" s_law_round f fd) (hm : mg "_law_round" = some (.ref f)) (B : BI mg) : FnC P w K mg base 1 "_law_round" ["_law_much"] [] S_law_round := by
  refine fnc F hm sc_law_round (F.binds (ps := ["_law_much"]) fun _ _ _ _ _ _ us hl => match us, hl with | [_], _ => rfl)
    (fun q hq => nomatch hq) ?_ (fun cdv A outer s H E hgd hr => ⟨_, (dss_cons (ds_parM2 (i := 1) (j := 2) sc_law_round.nd (by decide) (dm_own fe_dnew (dm_sh (de_mod (SE.of (de_int1 B.int rfl (sa_cons (SE.of de_int) sa_nil))) (se_var (pv 0))) dm_nil)) (by rfl))
      (dss_cons (ds_while PassesOwn.never (dt_notin hr.units (se_var (pv 2)) (se_var (pv 1))) (dss_cons (ds_dput hr.units (pv 1) (se_var (pv 2)) (de_lenD B.len rfl (sa_cons (se_var (pv 1)) sa_nil)))
      (dss_one (ds_asg (de_mod (SE.of (de_int1 B.int rfl (sa_cons (SE.of (de_mul (SE.of de_int) (se_var (pv 2)))) sa_nil))) (se_var (pv 0))) (dg_name (pg_name (i := 2) sc_law_round.nd rfl (Or.inl rfl)))))))
      (dss_one (ds_ret (SE.of (de_tup (da_cons (de_dget hr.units (se_var (pv 1)) (se_var (pv 2))) (da_cons (de_sub (SE.of (de_lenD B.len rfl (sa_cons (se_var (pv 1)) sa_nil))) (SE.of (de_dget hr.units (se_var (pv 1)) (se_var (pv 2))))) da_nil)))))))), ?_⟩)
  · rintro ds n R ⟨m, rfl, _⟩; rfl
  · rintro ds n R ⟨m, rfl, h1, h2, hR⟩
    walk_at "pl"
    have e0 : (1 : Int).fmod m = (2 : Int) ^ 0 % m := fmod_pos (by omega)
    refine ⟨by omega, ?_⟩
    rw [e0]
    refine ⟨fun μ ρ k => ∃ t : Nat, μ = m.toNat - t ∧ ρ = [.sh (.int m), .own (.dic (rg t (kyR m)) (rg t ixD)), .sh (.int ((2 : Int) ^ t % m))] ∧ k = n ∧ ∀ i j : Nat, i < j → j < t → (2 : Int) ^ i % m ≠ 2 ^ j % m, ⟨_, 0, rfl, rfl, rfl, fun i j _ h => by omega⟩, ?_⟩
    rintro μ ρ k ⟨t, rfl, rfl, rfl, hd⟩
    walk_at "pl"
    refine ⟨by rw [rg_len, rg_len], ?_⟩
    by_cases c : hasK (kyR m t) (rg t (kyR m)) = true
    · rw [c]
      walk_at "pl"
      obtain ⟨f, hf, e⟩ := hasK_rg.mp c
      have e' : (2 : Int) ^ f % m = 2 ^ t % m := Sum.inl.inj e
      have hdk : ∀ i j : Nat, i < j → j < t → kyR m i ≠ kyR m j := fun i j a b z => hd i j a b (Sum.inl.inj z)
      have g : dGet (rg t (kyR m)) (rg t ixD) (kyR m t) = some (ixD f) := by
        rw [show kyR m t = kyR m f from e.symm]
        exact dGet_rg hdk hf
      have g' : dGet (rg t (kyR m)) (rg t ixD) (Sum.inl ((2 : Int) ^ t % m)) = some (ixD f) := g
      simp only [g']
      walk_at "pl"
      rw [rg_len]
      have r := hR f (t - f) ⟨by omega, by rw [show f + (t - f) = t by omega]; exact e'.symm, by rw [show f + (t - f) = t by omega]; exact hd⟩
      rwa [show (((t - f : Nat) : Int)) = (t : Int) - f by omega] at r
    · have c' : hasK (kyR m t) (rg t (kyR m)) = false := by simpa using c
      have nm : kyR m t ∉ rg t (kyR m) := fun z => c (hasK_rg.mpr (rg_mem.mp z))
      have hd' : ∀ i j : Nat, i < j → j < t + 1 → (2 : Int) ^ i % m ≠ 2 ^ j % m := fun i j a b z => by
        by_cases q : j < t
        · exact hd i j a q z
        · have : j = t := by omega
          subst this
          exact nm (rg_mem.mpr ⟨i, a, by show Sum.inl _ = Sum.inl _; rw [z]⟩)
      have few := pw_few h1 hd'
      rw [c']
      walk_at "pl"
      rw [rg_len]
      refine ⟨by omega, MulOk.left (by decide) (by decide), by omega, m.toNat - (t + 1), by omega, t + 1, rfl, ?_, hd'⟩
      rw [fmod_pos (by omega), pw_step, ← dKeys_rg nm, ← dVals_rg (g := ixD) nm]
def S_law_pick : PL.Spec := fun ds n R => ∃ xs : List D, ds = [.res, .lst xs] ∧ n < lim ∧ 0 < xs.length ∧ xs.length < 1073741824 ∧ ∀ d ∈ xs, R d (n + 1)
theorem atI_ex {α : Type} {xs : List α} {i : Int} (h0 : 0 ≤ i) (h : i < xs.length) : ∃ x, atI xs i = some x ∧ x ∈ xs := by
  have hi : i.toNat < xs.length := by omega
  have := atI_nat (xs := xs) (j := i.toNat) (v := xs[i.toNat]) (by simp [hi])
  rw [show ((i.toNat : Nat) : Int) = i by omega] at this
  exact ⟨_, this, List.getElem_mem hi⟩
theorem ok_law_pick {f : Addr} {fd : FuncData} (F : Fun K "_law_pick" "_law_pick" s_law_pick f fd) (hm : mg "_law_pick" = some (.ref f)) (B : BI mg) (h_law_draw : FnC P w K mg base 1 "_law_draw" ["_law_deck_here", "_law_much"] [] S_law_draw) : FnC P w K mg base 2 "_law_pick" ["_law_deck_here", "_law_some"] [] S_law_pick := by
  refine fnc F hm sc_law_pick (F.binds (ps := ["_law_deck_here", "_law_some"]) fun _ _ _ _ _ _ us hl => match us, hl with | [_, _], _ => rfl)
    (fun q hq => nomatch hq) ?_ (fun cdv A outer s H E hgd hr => ⟨_, (dss_one (ds_ret (SE.of (de_sub_ix (se_var (pv 1)) (SE.of (de_fnC h_law_draw hgd hr (da_cons (de_var (pv 0)) (da_cons (de_len B.len rfl (sa_cons (se_var (pv 1)) sa_nil)) da_nil)))))))), ?_⟩)
  · rintro ds n R ⟨x, rfl, _⟩; rfl
  · rintro ds n R ⟨xs, rfl, hn, h1, h2, hR⟩
    walk_at "pl"
    refine callS_of _ _ ⟨xs.length, rfl, by omega, by omega, hn, fun m m0 m1 => ?_⟩
    obtain ⟨x, e, hx⟩ := atI_ex (xs := xs) m0 m1
    try walk_at "pl"
    simp only [e]
    exact hR x hx
/-! ### leaves -/
theorem pl_at (p : Nat → Int) {n i : Nat} (h : i < n) : (pl p n)[i]? = some (p i) := by simp [pl, h]
theorem atI_pl (p : Nat → Int) {n : Nat} {i : Int} (h0 : 0 ≤ i) (h : i < n) : atI ((pl p n).map D.int) i = some (.int (p i.toNat)) := by
  have := atI_nat (xs := (pl p n).map D.int) (j := i.toNat) (v := .int (p i.toNat)) (by rw [List.getElem?_map, pl_at p (by omega)]; rfl)
  rwa [show ((i.toNat : Nat) : Int) = i by omega] at this
def S_open_at : PL.Spec := fun ds n R => ∃ m d : Int, ds = [.int m, .int d] ∧ 1 ≤ m ∧ 0 ≤ d ∧ d ≤ 400 ∧ R (.int (on m d.toNat)) n
theorem ok_open_at {f : Addr} {fd : FuncData} (F : Fun K "open_at" "open_at" s_open_at f fd) (hm : mg "open_at" = some (.ref f)) (B : BI mg) (h_opens_to : FnC P w K mg base 1 "opens_to" ["many", "depth"] [] S_opens_to) : FnC P w K mg base 2 "open_at" ["many", "depth"] [] S_open_at := by
  refine fnc F hm sc_open_at (F.binds (ps := ["many", "depth"]) fun _ _ _ _ _ _ us hl => match us, hl with | [_, _], _ => rfl)
    (fun q hq => nomatch hq) ?_ (fun cdv A outer s H E hgd hr => ⟨_, (dss_one (ds_ret (SE.of (de_sub_ix (SE.of (de_fnC h_opens_to hgd hr (da_cons (de_var (pv 0)) (da_cons (de_var (pv 1)) da_nil)))) (se_var (pv 1)))))), ?_⟩)
  · rintro ds n R ⟨m, d, rfl, _⟩; rfl
  · rintro ds n R ⟨m, d, rfl, h1, h2, h3, hR⟩
    walk_at "pl"
    refine callS_of _ _ ⟨m, d, rfl, h1, h2, h3, ?_⟩
    try walk_at "pl"
    simp only [atI_pl _ h2 (show d < ((d.toNat + 1 : Nat) : Int) by omega)]
    exact hR
def plF (p : Nat → Int) (j k : Nat) : List Int := (List.range k).map fun i => p (j + i)
theorem plF_succ (p : Nat → Int) (j k : Nat) : plF p j (k + 1) = p j :: plF p (j + 1) k := by
  unfold plF
  rw [List.range_succ_eq_map, List.map_cons, List.map_map]
  congr 1
  refine List.map_congr_left fun i _ => ?_
  show p (j + (i + 1)) = p (j + 1 + i)
  congr 1; omega
theorem plF_zero (p : Nat → Int) (k : Nat) : plF p 0 k = pl p k := by
  unfold plF pl
  refine List.map_congr_left fun i _ => ?_
  rw [Nat.zero_add]
def S_leaves_to : PL.Spec := fun ds n R => ∃ m d : Int, ds = [.int m, .int d] ∧ 1 ≤ m ∧ 0 ≤ d ∧ d ≤ 400 ∧ R (.lst ((pl (lf m) (d.toNat + 1)).map D.int)) n
theorem ok_leaves_to {f : Addr} {fd : FuncData} (F : Fun K "leaves_to" "leaves_to" s_leaves_to f fd) (hm : mg "leaves_to" = some (.ref f)) (B : BI mg) (h_opens_to : FnC P w K mg base 1 "opens_to" ["many", "depth"] [] S_opens_to) : FnC P w K mg base 2 "leaves_to" ["many", "depth"] [] S_leaves_to := by
  refine fnc F hm sc_leaves_to (F.binds (ps := ["many", "depth"]) fun _ _ _ _ _ _ us hl => match us, hl with | [_, _], _ => rfl)
    (fun q hq => nomatch hq) ?_ (fun cdv A outer s H E hgd hr => ⟨_, (dss_cons (ds_asg (de_fnC h_opens_to hgd hr (da_cons (de_var (pv 0)) (da_cons (de_var (pv 1)) da_nil))) (dg_name (pg_name (i := 2) sc_leaves_to.nd rfl (Or.inl rfl))))
      (dss_one (ds_ret (SE.of (de_add (SE.of (DE.of (fe_lst (da_cons (de_int1 B.int rfl (sa_cons (SE.of (de_eq hr.units (se_var (pv 0)) (SE.of de_int))) sa_nil)) da_nil)))) (SE.of (DE.of (fe_lc (own := [("ahead", 3), ("here", 4)]) (di_zip B.zip rfl (da_cons (de_var (pv 2)) (da_cons (de_slice (se_var (pv 2)) (do_some (SE.of de_int)) do_none) da_nil))) sc_leaves_to.nd (blkOk_by (N := ["many", "depth", "opens", "ahead", "here"]) (sc := defScope s_leaves_to) (own := [("ahead", 3), ("here", 4)]) (by decide +kernel)) (by decide) (fun _ _ _ _ _ => (dg_tup (m := 2) (dgs_cons (dg_name (pg_name (i := 3) sc_leaves_to.nd rfl (Or.inl rfl))) (dgs_cons (dg_name (pg_name (i := 4) sc_leaves_to.nd rfl (Or.inl rfl))) dgs_nil)))) (fun _ _ _ _ _ => dts_nil) (fun _ _ _ _ _ => (de_sub (SE.of (de_mul (SE.of de_int) (se_var (pv 3)))) (se_var (pv 4)))))))))))), ?_⟩)
  · rintro ds n R ⟨m, d, rfl, _⟩; rfl
  · rintro ds n R ⟨m, d, rfl, h1, h2, h3, hR⟩
    walk_at "pl"
    refine callS_of _ _ ⟨m, d, rfl, h1, h2, h3, ?_⟩
    try walk_at "pl"
    rw [show ((1 : Int)) = ((1 : Nat) : Int) from rfl, cut_from]
    rw [← plF_zero, plF_succ, List.map_cons, List.drop_succ_cons, List.drop_zero]
    refine ⟨by rw [pairs_len]; simp [plF]; omega, ?_⟩
    have fin : ∀ acc : List D, acc = (plF (lf m) 1 d.toNat).map D.int → 1 + acc.length ≤ 16777216 ∧ R (D.lst (D.int (if m = 1 then 1 else 0) :: acc)) n := by
      rintro acc rfl
      refine ⟨by simp [plF]; omega, ?_⟩
      rw [← plF_zero, plF_succ, List.map_cons] at hR
      have e : lf m 0 = if m = 1 then 1 else 0 := leav_one m h1
      rw [e] at hR
      exact hR
    refine (fun (loop : ∀ (k j : Nat) (acc : List D), acc ++ (plF (lf m) (j + 1) k).map D.int = (plF (lf m) 1 d.toNat).map D.int → lcW ?t ?tt ?te (pairs (D.int (on m j) :: (plF (on m) (j + 1) k).map D.int) ((plF (on m) (j + 1) k).map D.int)) acc ?ρ n ?R) => loop d.toNat 0 [] rfl) ?_
    intro k
    induction k with
    | zero =>
      intro j acc h
      simp only [plF, List.range_zero, List.map_nil, pairs, lcW_nil]
      exact fin _ (by simpa [plF] using h)
    | succ k ih =>
      intro j acc h
      rw [plF_succ, List.map_cons, pairs, lcW_cons]
      try walk_at "pl"
      refine ⟨MulOk.left (by decide) (by decide), ?_⟩
      rw [← lf_succ h1 j]
      exact ih (j + 1) _ (by rw [← h, plF_succ, List.map_cons, List.append_assoc]; rfl)
def S_leaves_at : PL.Spec := fun ds n R => ∃ m d : Int, ds = [.int m, .int d] ∧ 1 ≤ m ∧ 0 ≤ d ∧ d ≤ 400 ∧ R (.int (lf m d.toNat)) n
theorem ok_leaves_at {f : Addr} {fd : FuncData} (F : Fun K "leaves_at" "leaves_at" s_leaves_at f fd) (hm : mg "leaves_at" = some (.ref f)) (B : BI mg) (h_leaves_to : FnC P w K mg base 2 "leaves_to" ["many", "depth"] [] S_leaves_to) : FnC P w K mg base 3 "leaves_at" ["many", "depth"] [] S_leaves_at := by
  refine fnc F hm sc_leaves_at (F.binds (ps := ["many", "depth"]) fun _ _ _ _ _ _ us hl => match us, hl with | [_, _], _ => rfl)
    (fun q hq => nomatch hq) ?_ (fun cdv A outer s H E hgd hr => ⟨_, (dss_one (ds_ret (SE.of (de_sub_ix (SE.of (de_fnC h_leaves_to hgd hr (da_cons (de_var (pv 0)) (da_cons (de_var (pv 1)) da_nil)))) (se_var (pv 1)))))), ?_⟩)
  · rintro ds n R ⟨m, d, rfl, _⟩; rfl
  · rintro ds n R ⟨m, d, rfl, h1, h2, h3, hR⟩
    walk_at "pl"
    refine callS_of _ _ ⟨m, d, rfl, h1, h2, h3, ?_⟩
    try walk_at "pl"
    simp only [atI_pl _ h2 (show d < ((d.toNat + 1 : Nat) : Int) by omega)]
    exact hR
/-! ### rows -/
theorem str_bit (x : Int) : (toString (x.fmod 2) : Str) = strOf [decide (x % 2 = 1)] := by
  rw [fmod_pos (by decide)]
  have h : x % 2 = 0 ∨ x % 2 = 1 := by omega
  rcases h with h | h
  · rw [h]; decide +kernel
  · rw [h]; decide +kernel
theorem add_strOf (a b : List Bool) : strOf a ++ strOf b = strOf (a ++ b) := by
  refine TL.ext_tl ?_
  rw [TL.tl_append]
  simp [strOf, TL.tl]
def S_row_back : PL.Spec := fun ds n R => ∃ (m x : Int) (L d : Nat), ds = [.lst ((pl (lf m) (L + 1)).map D.int), .int x, .int d] ∧ 1 ≤ m ∧ L ≤ 400 ∧ d ≤ L ∧ R (.str (strOf (bk m d x))) n
theorem ok_row_back {f : Addr} {fd : FuncData} (F : Fun K "row_back" "row_back" s_row_back f fd) (hm : mg "row_back" = some (.ref f)) (B : BI mg) : FnC P w K mg base 1 "row_back" ["leaves", "index", "depth"] [] S_row_back := by
  refine fnc F hm sc_row_back (F.binds (ps := ["leaves", "index", "depth"]) fun _ _ _ _ _ _ us hl => match us, hl with | [_, _, _], _ => rfl)
    (fun q hq => nomatch hq) ?_ (fun cdv A outer s H E hgd hr => ⟨_, (dss_cons (ds_par (i := 3) (j := 4) sc_row_back.nd (by decide) (da_cons (de_var (pv 1)) (da_cons de_str da_nil)) (by rfl))
      (dss_cons (ds_for PassesOwn.never rfl (di_rangeD B.range rfl (da_cons (de_var (pv 2)) (da_cons de_int (da_cons (de_neg (SE.of de_int)) da_nil)))) (dg_name (pg_name (i := 5) sc_row_back.nd rfl (Or.inl rfl))) (dss_cons (ds_asg (de_add (SE.of (de_str1 B.str rfl (sa_cons (SE.of (de_mod (se_var (pv 3)) (SE.of de_int))) sa_nil))) (se_var (pv 4))) (dg_name (pg_name (i := 4) sc_row_back.nd rfl (Or.inl rfl))))
      (dss_one (ds_asg (de_add (SE.of (de_fdiv (se_var (pv 3)) (SE.of de_int))) (SE.of (de_sub_ix (se_var (pv 0)) (SE.of (de_sub (se_var (pv 5)) (SE.of de_int)))))) (dg_name (pg_name (i := 3) sc_row_back.nd rfl (Or.inl rfl)))))))
      (dss_one (ds_ret (se_var (pv 4)))))), ?_⟩)
  · rintro ds n R ⟨m, x, L, d, rfl, _⟩; rfl
  · rintro ds n R ⟨m, x, L, d, rfl, h1, h2, h3, hR⟩
    walk_at "pl"
    refine ⟨by omega, ?_⟩
    rw [show ((d : Int) - 0).toNat = d by omega]
    refine (fun (loop : ∀ (k : Nat) (y : Int) (bs : List Bool) (c5 : Cell), k ≤ d → bs.length + k ≤ d → R (.str (strOf (bk m k y ++ bs))) n → forW ?t ?b (downD k k) ?P [Cell.sh (D.lst ((pl (lf m) (L + 1)).map D.int)), Cell.sh (D.int x), Cell.sh (D.int d), Cell.sh (D.int y), Cell.sh (D.str (strOf bs)), c5] n) => loop d x [] .any (Nat.le_refl _) (by simp) (by simpa using hR)) ?_
    intro k
    induction k with
    | zero =>
      intro y bs c5 hk hb h
      rw [downD_zero, forW_nil]
      try walk_at "pl"
      simpa [bk] using h
    | succ k ih =>
      intro y bs c5 hk hb h
      rw [downD_succ, forW_cons]
      try walk_at "pl"
      rw [str_bit, add_strOf, show ((k + 1 : Nat) : Int) - 1 = (k : Int) by omega]
      simp only [atI_pl (lf m) (n := L + 1) (i := (k : Int)) (by omega) (by omega)]
      try walk_at "pl"
      have l2 : (y.fmod 2).natAbs.log2 < 1920 := by
        have := Int.fmod_nonneg_of_pos y (b := 2) (by decide)
        have := Int.fmod_lt_of_pos y (b := 2) (by decide)
        have h : y.fmod 2 = 0 ∨ y.fmod 2 = 1 := by omega
        rcases h with h | h <;> rw [h] <;> decide
      refine ⟨by decide, l2, by rw [len_strOf, len_strOf]; simp; omega, ⟨by decide, by decide⟩, ?_⟩
      rw [Int.toNat_natCast, fdiv_pos (by decide)]
      refine ih _ _ _ (by omega) (by simp; omega) ?_
      rw [bk, List.append_assoc] at h
      exact h
def rowsL (m x : Int) (L : Nat) : List D := (tsL m (L + 1)).map fun t => D.str (strOf (bk m t x))
def S_rows_to : PL.Spec := fun ds n R => ∃ m x L : Int, ds = [.int m, .int x, .int L] ∧ 1 ≤ m ∧ 0 ≤ L ∧ L ≤ 400 ∧ R (.tup (rowsL m x L.toNat)) n
theorem lc_rows {t : TPG} {tt : TPT} {te : TPE} {ρ : PEnv} {n : Nat} {R : List D → Nat → Prop} (m : Int) (g : Nat → D) {N : Nat} (h : ∀ (i : Nat), i < N → ∀ (acc : List D) (L : List D → Nat → Prop), (if 0 < lf m i then L (acc ++ [g i]) n else L acc n) → t (.tup [.int i, .int (lf m i)]) ρ n fun ρ1 n1 => tt ρ1 n1 fun b n2 => if b = true then te ρ1 n2 fun y n3 => L (acc ++ [y]) n3 else L acc n2) :
    ∀ (k j : Nat), j + k = N → R ((tsL m N).map g) n → lcW t tt te (nums j ((plF (lf m) j k).map D.int)) ((tsL m j).map g) ρ n R
  | 0, j, hj, hR => by
    have : j = N := by omega
    subst this
    exact hR
  | k + 1, j, hj, hR => by
    rw [plF_succ, List.map_cons, nums, lcW_cons]
    refine h j (by omega) _ (fun acc k' => lcW t tt te (nums ((j : Int) + 1) ((plF (lf m) (j + 1) k).map D.int)) acc ρ k' R) ?_
    have go := lc_rows m g h k (j + 1) (by omega) hR
    rw [tsL_succ, List.map_append, show (((j + 1 : Nat) : Int)) = (j : Int) + 1 by omega] at go
    by_cases c : 0 < lf m j
    · rw [if_pos c] at go ⊢
      exact go
    · rw [if_neg c] at go ⊢
      simpa using go
theorem ok_rows_to {f : Addr} {fd : FuncData} (F : Fun K "rows_to" "rows_to" s_rows_to f fd) (hm : mg "rows_to" = some (.ref f)) (B : BI mg) (h_leaves_to : FnC P w K mg base 2 "leaves_to" ["many", "depth"] [] S_leaves_to) (h_row_back : FnC P w K mg base 1 "row_back" ["leaves", "index", "depth"] [] S_row_back) : FnC P w K mg base 3 "rows_to" ["many", "index", "most"] [(["most", "index", "many"], [2, 1, 0])] S_rows_to := by
  refine fnc F hm sc_rows_to (F.binds (ps := ["many", "index", "most"]) fun _ _ _ _ _ _ us hl => match us, hl with | [_, _, _], _ => rfl)
    (fun q hq => by
    simp only [List.mem_cons, List.not_mem_nil, or_false] at hq
    rcases hq with rfl
    · exact F.nbinds fun _ _ _ _ _ _ ws hl => match ws, hl with | [_, _, _], _ => rfl) ?_ (fun cdv A outer s H E hgd hr => ⟨_, (dss_cons (ds_asg (de_fnC h_leaves_to hgd hr (da_cons (de_var (pv 0)) (da_cons (de_var (pv 2)) da_nil))) (dg_name (pg_name (i := 3) sc_rows_to.nd rfl (Or.inr rfl))))
      (dss_one (ds_ret (SE.of (de_tuple B.tuple rfl (sa_cons (SE.of (DE.of (fe_lc (own := [("depth", 4), ("count", 5)]) (di_enum B.enumerate rfl (da_cons (de_var (pv 3)) da_nil)) sc_rows_to.nd (blkOk_by (N := ["many", "index", "most", "leaves", "depth", "count"]) (sc := defScope s_rows_to) (own := [("depth", 4), ("count", 5)]) (by decide +kernel)) (by decide) (fun _ _ _ _ _ => (dg_tup (m := 2) (dgs_cons (dg_name (pg_name (i := 4) sc_rows_to.nd rfl (Or.inl rfl))) (dgs_cons (dg_name (pg_name (i := 5) sc_rows_to.nd rfl (Or.inl rfl))) dgs_nil)))) (fun _ _ _ _ _ => (dts_one (dt_gt (se_var (pv 5)) (SE.of de_int)))) (fun _ _ _ _ _ => (de_fnC h_row_back hgd (hr.mono (by decide)) (da_cons (de_var (pv 3)) (da_cons (de_var (pv 1)) (da_cons (de_var (pv 4)) da_nil)))))))) sa_nil)))))), ?_⟩)
  · rintro ds n R ⟨m, x, L, rfl, _⟩; rfl
  · rintro ds n R ⟨m, x, L, rfl, h1, h2, h3, hR⟩
    walk_at "pl"
    refine callS_of _ _ ⟨m, L, rfl, h1, h2, h3, ?_⟩
    try walk_at "pl"
    refine ⟨by rw [nums_len]; simp [pl_len]; omega, ?_⟩
    have e := plF_zero (lf m) (L.toNat + 1)
    have go := fun {t tt te ρ R} h hR => lc_rows (t := t) (tt := tt) (te := te) (ρ := ρ) (n := n) (R := R) m (fun t => D.str (strOf (bk m t x))) (N := L.toNat + 1) h (L.toNat + 1) 0 (by omega) hR
    rw [e] at go
    refine go (fun i hi acc L' hL => ?_) ?_
    · try walk_at "pl"
      by_cases c : 0 < lf m i
      · rw [if_pos c] at hL ⊢
        exact callS_of _ _ ⟨m, x, L.toNat, i, rfl, h1, by omega, by omega, hL⟩
      · rw [if_neg c] at hL ⊢
        exact hL
    · try walk_at "pl"
      exact hR
end
end K41

namespace K41
open PySem PySem.Spec L2 PL K39 K40
open K38 (fr sg gcd_pos fr_prog fr_law gcd_step abs_gcd fr_bound)
local macro_rules | `(tactic| walk_at "pl") => `(tactic| simp (maxSteps := 3000000) (dsimp := false) only [env0, List.map_cons, List.map_nil, List.length_cons, List.length_nil, List.replicate_succ, List.replicate_zero, List.cons_append, List.nil_append, List.getElem?_cons_zero, List.getElem?_cons_succ, List.set_cons_zero, List.set_cons_succ, Nat.reduceAdd, Nat.reduceSub, Nat.zero_add, ↓q_seq, ↓o_augm_int, ↓o_ltI, ↓q_dget, ↓q_dgett, ↓q_int, ↓q_dput, ↓q_dputt, ↓q_mnil, ↓q_msh, ↓q_mown, ↓q_parm, ↓q_rd3, ↓q_chain, ↓o_in_lst, ↓o_in_tup, ↓o_in_dic, ↓o_isn, ↓o_mult, ↓o_suma_lstI, ↓o_suma_tupI, ↓o_sumI, ↓o_lend, ↓o_tuplel, k_int, k_str, setC_cons, setC_nil, ↓q_next, ↓q_brk, ↓q_cnt, ↓q_ret, ↓q_ifs, ↓q_drop, ↓q_asg, ↓q_own, ↓q_par, ↓q_par3, ↓q_append, ↓q_for, ↓q_gset, ↓q_gtup, ↓q_gcons, ↓q_gnil, ↓q_aug, ↓q_var, ↓q_rd, ↓q_c, ↓q_bin, ↓q_un, ↓q_b, ↓q_not, ↓q_and, ↓q_or, ↓q_andv, ↓q_orv, ↓q_notv, ↓q_if, ↓q_nil, ↓q_cons, ↓q_consts, ↓q_tup, ↓q_lst, ↓q_sl, ↓q_no, ↓q_part, ↓q_rev, ↓q_call, ↓q_fn, ↓q_fnb, ↓q_fnk, ↓q_isi, ↓q_join, ↓q_lc, ↓q_yes, ↓q_r1, ↓q_r2, ↓q_iter, ↓q_enum, ↓q_enumk, ↓q_zip, ↓q_frz, ↓q_fmt, ↓q_js0, ↓q_js, ↓o_add_int, ↓o_add_str, ↓o_add_lst, ↓o_add_tup, ↓o_sub, ↓o_mul_int, ↓o_mul_lst, ↓o_mod, ↓o_div, ↓o_pow, ↓o_lt_int, ↓o_lt_str, ↓o_le, ↓o_gt, ↓o_ge, ↓o_ix_lst, ↓o_ix_tup, ↓o_ix_str, ↓o_sl_lst, ↓o_sl_tup, ↓o_sl_str, ↓o_len_lst, ↓o_len_tup, ↓o_len_str, ↓o_int_int, ↓o_int_bl, ↓o_int_str, ↓o_list_lst, ↓o_list_tup, ↓o_tuple_lst, ↓o_tuple_tup, ↓o_abs, ↓o_max, ↓o_min, ↓o_str, ↓o_all, ↓o_any, ↓o_aug_int, ↓i_lst, ↓i_tup, ↓i_str, ↓w_nil, ↓w_cons, ↓pk_cons', ↓pk_nil', ↓oEq_int, ↓oNe_int, ↓oEq_str, ↓oNe_str, noOwn, List.all_cons, List.all_nil, Bool.and_self, Bool.and_true, Bool.true_and, b_nd, decide_eq_true_eq, true_and, and_true, atI0, atI1, atI2, atI3, ↓ty_non, ↓ty_bl, ↓ty_int, ↓ty_str, ↓ty_lst, ↓ty_tup, ↓ty_dic, kk_NoneType_bool, kk_NoneType_int, kk_NoneType_str, kk_NoneType_list, kk_NoneType_tuple, kk_NoneType_dict, kk_bool_bool, kk_bool_int, kk_bool_str, kk_bool_list, kk_bool_tuple, kk_bool_dict, kk_int_bool, kk_int_int, kk_int_str, kk_int_list, kk_int_tuple, kk_int_dict, kk_str_bool, kk_str_int, kk_str_str, kk_str_list, kk_str_tuple, kk_str_dict, kk_list_bool, kk_list_int, kk_list_str, kk_list_list, kk_list_tuple, kk_list_dict, kk_tuple_bool, kk_tuple_int, kk_tuple_str, kk_tuple_list, kk_tuple_tuple, kk_tuple_dict, kk_dict_bool, kk_dict_int, kk_dict_str, kk_dict_list, kk_dict_tuple, kk_dict_dict, Bool.not_true, Bool.not_false, Bool.false_eq_true, if_true, if_false, ↓reduceIte, Bool.not_eq_true, List.isEmpty_nil, List.isEmpty_cons, not_true_eq_false, not_false_eq_true, decide_true, decide_false, List.flatten_cons, List.flatten_nil, sizeLine_val, Nat.reduceLeDiff, Nat.reduceLT, Nat.reduceMul, Int.reducePow, Int.reduceNeg, Int.reduceLE, Int.reduceLT, Int.reduceToNat, Int.reduceAdd, Int.reduceSub, Int.reduceMul])
local macro_rules | `(tactic| walk_at "dep") => `(tactic| (simp only [depD, depL, bulkD, bulkL]; first | decide | omega | (rw [← Nat.ble_eq]; rfl)))
local macro_rules | `(tactic| walk_at "nice") => `(tactic| (simp only [niceD, niceL, Bool.and_true, Bool.true_and, Bool.and_eq_true, decide_eq_true_eq, and_true, true_and]))
section
variable {P : Program} {w : World} {K : PySem.W.Frag} {mg : Str → Option Value} {base : Heap}
/-! ### compared, however much -/
theorem shapedE {d : D} (h : niceD d = true) (h2 : depD d ≤ 60) : SeqAt.shaped (pyD d) = true := by
  obtain ⟨h1, h2, h3, h4, h5, h6⟩ := nice_all d h
  unfold SeqAt.shaped
  rw [h3, decide_eq_true (show (pyD d).depth ≤ 64 by omega)]
  rfl
theorem oNe_sameE {d : D} (h : niceD d = true) (h2 : depD d ≤ 60) {R : D → Prop} (q : R (.bl false)) : oNe d d R := by
  unfold oNe
  split
  · simpa using q
  · simpa using q
  · rw [(nice_all d h).1]
    refine ⟨shapedE h h2, shapedE h h2, ?_⟩
    rw [SeqAt.eqv_refl _ (nice_all d h).2.2.1]
    exact q
theorem niceL_all {ds : List D} (h : ∀ d ∈ ds, niceD d = true) : niceL ds = true := by
  induction ds with
  | nil => rfl
  | cons d ds ih =>
    rw [niceL, h d List.mem_cons_self, ih fun e he => h e (List.mem_cons_of_mem _ he)]; rfl
theorem depL_all {ds : List D} (h : ∀ d ∈ ds, depD d ≤ 1) : depL ds ≤ 1 := by
  induction ds with
  | nil => exact Nat.zero_le _
  | cons d ds ih =>
    have := h d List.mem_cons_self
    have := ih fun e he => h e (List.mem_cons_of_mem _ he)
    rw [depL]; omega
theorem strOk_chars {s : Str} (h : ∀ c ∈ s.cps.toList, c = 48 ∨ c = 49) : niceD (.str s) = true := niceS_iff.mpr fun c hc => by rcases h c hc with h | h <;> omega
theorem nice_strOf (bs : List Bool) : niceD (.str (strOf bs)) = true := strOk_chars fun c hc => by
  have : c ∈ bs.map cpB := by simpa [strOf] using hc
  obtain ⟨b, _, rfl⟩ := List.mem_map.mp this
  cases b
  · exact .inl rfl
  · exact .inr rfl
theorem nice_rows (m x : Int) (L : Nat) : niceD (.tup (rowsL m x L)) = true ∧ depD (.tup (rowsL m x L)) ≤ 60 := by
  refine ⟨?_, ?_⟩
  · rw [niceD_tup]
    refine niceL_all fun d hd => ?_
    obtain ⟨t, _, rfl⟩ := List.mem_map.mp hd
    exact nice_strOf _
  · have : depL (rowsL m x L) ≤ 1 := depL_all fun d hd => by
      obtain ⟨t, _, rfl⟩ := List.mem_map.mp hd
      simp only [depD]; omega
    rw [depD]; omega
theorem nice_ints {ns : List Int} (h : ∀ x ∈ ns, x.natAbs < 2 ^ 1900) : niceD (.lst (ns.map D.int)) = true ∧ depD (.lst (ns.map D.int)) ≤ 60 := by
  refine ⟨?_, ?_⟩
  · rw [niceD_lst]
    refine niceL_all fun d hd => ?_
    obtain ⟨t, ht, rfl⟩ := List.mem_map.mp hd
    exact niceI (h t ht)
  · have : depL (ns.map D.int) ≤ 1 := depL_all fun d hd => by
      obtain ⟨t, _, rfl⟩ := List.mem_map.mp hd
      simp only [depD]; omega
    rw [depD]; omega
theorem nice_empty : niceD (.lst []) = true ∧ depD (.lst []) ≤ 60 := ⟨by simp [niceD, niceL], by simp [depD, depL]⟩
theorem cutS_but (bs : List Bool) : cutS (strOf bs) none (some (-1)) = strOf bs.dropLast := by
  unfold cutS
  have hn : (strOf bs).length = bs.length := len_strOf bs
  rw [hn, HT.sIx_none]
  have e : HT.sIx bs.length bs.length (some (-1)) = bs.length - 1 := by
    unfold HT.sIx
    simp
    omega
  rw [e]
  unfold strOf
  simp only [List.drop_zero, Nat.sub_zero, List.dropLast_eq_take, List.map_take]
theorem divB {m : Int} (h1 : 1 ≤ m) (h2 : m < 10 ^ 60) (x : Int) : DivOk x m := by
  refine ⟨by omega, ?_⟩
  have h : m.natAbs < 2 ^ 200 := by
    have : (m.natAbs : Int) < 2 ^ 200 := by
      have e : (10 : Int) ^ 60 < 2 ^ 200 := by decide
      omega
    exact_mod_cast this
  exact lg h (by decide)
theorem tsL_mem {m : Int} {n t : Nat} (h : t ∈ tsL m n) : t < n ∧ 0 < lf m t := by
  unfold tsL at h
  rw [List.mem_filter] at h
  exact ⟨List.mem_range.mp h.1, of_decide_eq_true h.2⟩
theorem lf_pos {m : Int} (h1 : 1 ≤ m) (t : Nat) : (((2 : Int) ^ t).fdiv m).fmod 2 = 1 ↔ 0 < lf m t := by
  rw [fdiv_pos (by omega), fmod_pos (by decide)]
  unfold lf leav
  split
  · next c => exact ⟨fun _ => by omega, fun _ => c⟩
  · next c => exact ⟨fun z => absurd z c, fun z => absurd z (by decide)⟩
theorem small60 {x : Int} (h1 : 0 ≤ x) (h2 : x < 10 ^ 60) : x.natAbs < 2 ^ 1900 := by
  have e : (10 : Int) ^ 60 < 2 ^ 200 := by decide
  have h : (x.natAbs : Int) < 2 ^ 200 := by omega
  have h' : x.natAbs < 2 ^ 200 := by exact_mod_cast h
  exact Nat.lt_trans h' (Nat.pow_lt_pow_right (by decide) (by decide))
theorem ok_res {r : Res} (h1 : r.2.1.natAbs < 2 ^ 1900) (h2 : r.2.2.natAbs < 2 ^ 1900) : niceD (toD r) = true ∧ depD (toD r) = 2 ∧ bulkD (toD r) ≤ 20 := by
  obtain ⟨_ | _, i, u⟩ := r
  · refine ⟨?_, rfl, ?_⟩
    · simp only [toD, niceD, niceL, decide_eq_true h1, decide_eq_true h2]
      decide +kernel
    · show (Str.ofString "open").cps.size + 1 + (0 + 1 + (0 + 1 + 0)) ≤ 20
      decide +kernel
  · refine ⟨?_, rfl, ?_⟩
    · simp only [toD, niceD, niceL, decide_eq_true h1, decide_eq_true h2]
      decide +kernel
    · show (Str.ofString "drawn").cps.size + 1 + (0 + 1 + (0 + 1 + 0)) ≤ 20
      decide +kernel
theorem ok_one {d : D} (h : niceD d = true ∧ depD d = 2 ∧ bulkD d ≤ 20) : okD d := ⟨h.1, by omega, by omega⟩
theorem ok_two {d : D} (h : niceD d = true ∧ depD d = 2 ∧ bulkD d ≤ 20) : okD (.lst [d, d]) := by
  refine ⟨by simp [niceD, niceL, h.1], ?_, ?_⟩
  · simp only [depD, depL, h.2.1]; omega
  · have := h.2.2; simp only [bulkD, bulkL]; omega
theorem ok_fr {x : Int × Int} (h : bdP x) : niceD (frP x) = true ∧ depD (frP x) = 2 ∧ bulkD (frP x) ≤ 20 := by
  have e : (2 : Nat) ^ 900 ≤ 2 ^ 1900 := Nat.pow_le_pow_right (by decide) (by decide)
  refine ⟨?_, rfl, ?_⟩
  · simp only [frP, niceD, niceL, decide_eq_true (Nat.lt_of_lt_of_le h.1 e), decide_eq_true (Nat.lt_of_lt_of_le h.2 e)]
    rfl
  · show 0 + 1 + (0 + 1 + 0) ≤ 20
    decide
def dLen : D → D
  | .str s => .int s.length
  | z => z
def dTwo (L : Nat) : D → D
  | .str s => .int ((2 : Int) ^ (L - s.length))
  | z => z
def S_law_rows_right : PL.Spec := fun ds n R => ∃ m x L : Int, ds = [.int m, .int x, .int L] ∧ 1 ≤ m ∧ m < 10 ^ 60 ∧ 0 ≤ x ∧ x < m ∧ 0 ≤ L ∧ L ≤ 400 ∧ R (.bl true) n
theorem ok_law_rows_right {f : Addr} {fd : FuncData} (F : Fun K "_law_rows_right" "_law_rows_right" s_law_rows_right f fd) (hm : mg "_law_rows_right" = some (.ref f)) (B : BI mg) (h_rows_to : FnC P w K mg base 3 "rows_to" ["many", "index", "most"] [(["most", "index", "many"], [2, 1, 0])] S_rows_to) (h_law_twos : FnC P w K mg base 1 "_law_twos" ["_law_much"] [] S_law_twos) (h_draw : FnC P w K mg base 1 "draw" ["many", "tosses"] [] S_draw) : FnC P w K mg base 4 "_law_rows_right" ["_law_much", "_law_piece", "_law_limit"] [] S_law_rows_right := by
  refine fnc F hm sc_law_rows_right (F.binds (ps := ["_law_much", "_law_piece", "_law_limit"]) fun _ _ _ _ _ _ us hl => match us, hl with | [_, _, _], _ => rfl)
    (fun q hq => nomatch hq) ?_ (fun cdv A outer s H E hgd hr => ⟨_, (dss_cons (ds_asg (de_fnC h_rows_to hgd hr (da_cons (de_var (pv 0)) (da_cons (de_var (pv 1)) (da_cons (de_var (pv 2)) da_nil)))) (dg_name (pg_name (i := 3) sc_law_rows_right.nd rfl (Or.inl rfl))))
      (dss_cons (ds_par (i := 4) (j := 5) sc_law_rows_right.nd (by decide) (da_cons (DE.of (fe_lst da_nil)) (da_cons de_int da_nil)) (by rfl))
      (dss_cons (ds_for PassesOwn.never rfl (di_range1 B.range rfl (da_cons (de_add (se_var (pv 2)) (SE.of de_int)) da_nil)) (dg_name (pg_name (i := 6) sc_law_rows_right.nd rfl (Or.inl rfl))) (dss_cons (ds_asg (de_add (se_var (pv 4)) (SE.of (de_mul (SE.of (DE.of (fe_lst (da_cons (de_var (pv 6)) da_nil)))) (SE.of (de_int1 B.int rfl (sa_cons (SE.of (de_eq hr.units (SE.of (de_mod (SE.of (de_fdiv (se_var (pv 5)) (se_var (pv 0)))) (SE.of de_int))) (SE.of de_int))) sa_nil)))))) (dg_name (pg_name (i := 4) sc_law_rows_right.nd rfl (Or.inl rfl))))
      (dss_one (ds_asg (de_mul (SE.of de_int) (se_var (pv 5))) (dg_name (pg_name (i := 5) sc_law_rows_right.nd rfl (Or.inl rfl)))))))
      (dss_cons (ds_if (dt_w (dw_or (dt_not (dt_val (de_isi (T := "tuple") B.isinstance B.tuple rfl rfl (by decide +kernel) (se_var (pv 3))))) (dw_or1 (dt_ne hr.units (SE.of (DE.of (fe_lc (own := [("_law_row", 7)]) (di_iter (de_var (pv 3))) sc_law_rows_right.nd (blkOk_by (N := ["_law_much", "_law_piece", "_law_limit", "_law_rows", "_law_depths", "_law_power", "_law_level", "_law_row"]) (sc := defScope s_law_rows_right) (own := [("_law_row", 7)]) (by decide +kernel)) (by decide) (fun _ _ _ _ _ => (dg_name (pg_name (i := 7) sc_law_rows_right.nd rfl (Or.inl rfl)))) (fun _ _ _ _ _ => dts_nil) (fun _ _ _ _ _ => (de_len B.len rfl (sa_cons (se_var (pv 7)) sa_nil)))))) (se_var (pv 4)))))) (dss_one (ds_ret (SE.of de_bl))) dss_nil)
      (dss_cons (ds_if (dt_ne hr.units (SE.of (de_fnKC (ks := ["most", "index", "many"]) (ix := [2, 1, 0]) h_rows_to (.head _) hgd hr (dk_cons (de_var (pv 2)) (dk_cons (de_var (pv 1)) (dk_cons (de_var (pv 0)) dk_nil))))) (se_var (pv 3))) (dss_one (ds_ret (SE.of de_bl))) dss_nil)
      (dss_cons (ds_if (dt_ne hr.units (SE.of (DE.of (fe_lc (own := [("_law_row", 7)]) (di_iter (de_var (pv 3))) sc_law_rows_right.nd (blkOk_by (N := ["_law_much", "_law_piece", "_law_limit", "_law_rows", "_law_depths", "_law_power", "_law_level", "_law_row"]) (sc := defScope s_law_rows_right) (own := [("_law_row", 7)]) (by decide +kernel)) (by decide) (fun _ _ _ _ _ => (dg_name (pg_name (i := 7) sc_law_rows_right.nd rfl (Or.inl rfl)))) (fun _ _ _ _ _ => (dts_one (dt_ne hr.units (SE.of (de_repr B.repr rfl hr.units hgd (sa_cons (SE.of (de_fnC h_draw hgd (hr.mono (by decide)) (da_cons (de_var (pv 0)) (da_cons (de_var (pv 7)) da_nil)))) sa_nil))) (SE.of (de_repr B.repr rfl hr.units hgd (sa_cons (SE.of (de_tup (da_cons de_str (da_cons (de_var (pv 1)) (da_cons (de_len B.len rfl (sa_cons (se_var (pv 7)) sa_nil)) da_nil))))) sa_nil)))))) (fun _ _ _ _ _ => (de_var (pv 7)))))) (SE.of (DE.of (fe_lst da_nil)))) (dss_one (ds_ret (SE.of de_bl))) dss_nil)
      (dss_cons (ds_if (dt_ne hr.units (SE.of (DE.of (fe_lc (own := [("_law_row", 7)]) (di_iter (de_var (pv 3))) sc_law_rows_right.nd (blkOk_by (N := ["_law_much", "_law_piece", "_law_limit", "_law_rows", "_law_depths", "_law_power", "_law_level", "_law_row"]) (sc := defScope s_law_rows_right) (own := [("_law_row", 7)]) (by decide +kernel)) (by decide) (fun _ _ _ _ _ => (dg_name (pg_name (i := 7) sc_law_rows_right.nd rfl (Or.inl rfl)))) (fun _ _ _ _ _ => (dts_one (dt_w (dw_and (dt_gt (SE.of (de_len B.len rfl (sa_cons (se_var (pv 7)) sa_nil))) (SE.of de_int)) (dw_and1 (dt_ne hr.units (SE.of (de_sub_ix (SE.of (de_fnC h_draw hgd (hr.mono (by decide)) (da_cons (de_var (pv 0)) (da_cons (de_slice (se_var (pv 7)) do_none (do_some (SE.of (de_neg (SE.of de_int))))) da_nil)))) (SE.of de_int))) (SE.of de_str))))))) (fun _ _ _ _ _ => (de_var (pv 7)))))) (SE.of (DE.of (fe_lst da_nil)))) (dss_one (ds_ret (SE.of de_bl))) dss_nil)
      (dss_one (ds_ret (SE.of (de_eq hr.units (SE.of (de_sumA B.sum rfl (sa_cons (SE.of (DE.of (fe_lc (own := [("_law_row", 7)]) (di_iter (de_var (pv 3))) sc_law_rows_right.nd (blkOk_by (N := ["_law_much", "_law_piece", "_law_limit", "_law_rows", "_law_depths", "_law_power", "_law_level", "_law_row"]) (sc := defScope s_law_rows_right) (own := [("_law_row", 7)]) (by decide +kernel)) (by decide) (fun _ _ _ _ _ => (dg_name (pg_name (i := 7) sc_law_rows_right.nd rfl (Or.inl rfl)))) (fun _ _ _ _ _ => dts_nil) (fun _ _ _ _ _ => (de_fnC h_law_twos hgd (hr.mono (by decide)) (da_cons (de_sub (se_var (pv 2)) (SE.of (de_len B.len rfl (sa_cons (se_var (pv 7)) sa_nil)))) da_nil)))))) sa_nil))) (SE.of (de_fdiv (SE.of (de_fnC h_law_twos hgd (hr.mono (by decide)) (da_cons (de_var (pv 2)) da_nil))) (se_var (pv 0))))))))))))))), ?_⟩)
  · rintro ds n R ⟨m, x, L, rfl, _⟩; rfl
  · rintro ds n R ⟨m, x, L, rfl, h1, hm60, x0, x1, h2, h3, hR⟩
    walk_at "pl"
    refine callS_of _ _ ⟨m, x, L, rfl, h1, h2, h3, ?_⟩
    try walk_at "pl"
    refine ⟨by omega, by omega, ?_⟩
    rw [show (L + 1).toNat = L.toNat + 1 by omega]
    have rl : (rowsL m x L.toNat).length ≤ 401 := by
      simp only [rowsL, List.length_map, tsL]
      exact Nat.le_trans (List.length_filter_le _ _) (by simp; omega)
    have row : ∀ d ∈ rowsL m x L.toNat, ∃ t : Nat, d = .str (strOf (bk m t x)) ∧ t ≤ L.toNat ∧ 0 < lf m t := fun d hd => by
      obtain ⟨t, ht, rfl⟩ := List.mem_map.mp hd
      have := tsL_mem ht
      exact ⟨t, rfl, by omega, this.2⟩
    refine (fun (loop : ∀ (k j : Nat) (c6 : Cell), j + k = L.toNat + 1 → forW ?t ?b (intsD j k) ?P [Cell.sh (D.int m), Cell.sh (D.int x), Cell.sh (D.int L), Cell.sh (D.tup (rowsL m x L.toNat)), Cell.sh (D.lst ((tsL m j).map ixD)), Cell.sh (D.int ((2 : Int) ^ j)), c6, Cell.any] n) => loop (L.toNat + 1) 0 .any (by omega)) ?_
    intro k
    induction k with
    | succ k ih =>
      intro j c6 hj
      rw [intsD_succ, forW_cons]
      try walk_at "pl"
      have tl : (tsL m j).length ≤ 401 := by
        unfold tsL
        exact Nat.le_trans (List.length_filter_le _ _) (by simp; omega)
      have go := ih (j + 1) (.sh (.int j)) (by omega)
      rw [tsL_succ, List.map_append, Int.pow_succ, Int.mul_comm _ 2, show (((j + 1 : Nat) : Int)) = (j : Int) + 1 by omega] at go
      refine ⟨divB h1 hm60 _, by decide, ?_⟩
      by_cases c : 0 < lf m j
      · rw [if_pos c] at go
        rw [if_pos ((lf_pos h1 j).mpr c)]
        exact ⟨by decide, by decide, by decide, by simp; omega, MulOk.left (by decide) (by decide), go⟩
      · rw [if_neg c, List.map_nil, List.append_nil] at go
        rw [if_neg fun z => c ((lf_pos h1 j).mp z)]
        refine ⟨by decide, by decide, by decide, by simp; omega, MulOk.left (by decide) (by decide), ?_⟩
        rw [show (List.replicate (Int.toNat 0) [D.int (j : Int)]).flatten = [] from rfl, List.append_nil]
        exact go
    | zero =>
      intro j c6 hj
      have : j = L.toNat + 1 := by omega
      subst this
      rw [intsD_zero, forW_nil]
      try walk_at "pl"
      refine ⟨by omega, ?_⟩
      refine lcW_m dLen (fun d hd acc L' hL => ?_) ?_
      · obtain ⟨t, rfl, ht, hp⟩ := row d hd
        try walk_at "pl"
        exact ⟨by rw [len_strOf, bk_len]; omega, hL⟩
      have elen : (rowsL m x L.toNat).map dLen = (tsL m (L.toNat + 1)).map ixD := by
        unfold rowsL
        rw [List.map_map]
        refine List.map_congr_left fun t _ => ?_
        show D.int ((strOf (bk m t x)).length : Int) = D.int (t : Int)
        rw [len_strOf, bk_len]
      rw [elen]
      have nts : niceD (.lst ((tsL m (L.toNat + 1)).map ixD)) = true ∧ depD (.lst ((tsL m (L.toNat + 1)).map ixD)) ≤ 60 := by
        have e : (tsL m (L.toNat + 1)).map ixD = ((tsL m (L.toNat + 1)).map fun t : Nat => (t : Int)).map D.int := by rw [List.map_map]; rfl
        rw [e]
        refine nice_ints fun y hy => ?_
        obtain ⟨t, ht, rfl⟩ := List.mem_map.mp hy
        have := (tsL_mem ht).1
        exact small60 (by omega) (by omega)
      try walk_at "pl"
      refine oNe_sameE nts.1 nts.2 ?_
      try walk_at "pl"
      refine callS_of _ _ ⟨m, x, L, rfl, h1, h2, h3, ?_⟩
      have nr := nice_rows m x L.toNat
      try walk_at "pl"
      refine oNe_sameE nr.1 nr.2 ?_
      try walk_at "pl"
      refine ⟨by omega, ?_⟩
      have xs : x.natAbs < 2 ^ 1900 := small60 x0 (by omega)
      refine lcW_none (fun d hd acc L' hL => ?_) ?_
      · obtain ⟨t, rfl, ht, hp⟩ := row d hd
        try walk_at "pl"
        refine callS_of _ _ ⟨m, bk m t x, rfl, h1, by rw [bk_len]; omega, ?_⟩
        rw [(row_draws h1 hp x0 x1).1]
        have okr : okD (toD (true, x, (t : Int))) := ok_one (ok_res xs (small60 (by show (0 : Int) ≤ t; omega) (by show (t : Int) < _; omega)))
        try walk_at "pl"
        refine oRepr_ok okr ?_
        try walk_at "pl"
        rw [len_strOf, bk_len]
        refine ⟨by omega, oRepr_ok (d := toD (true, x, (t : Int))) okr ?_⟩
        try walk_at "pl"
        try rw [if_neg (by simp)]
        exact hL
      try walk_at "pl"
      refine oNe_sameE nice_empty.1 nice_empty.2 ?_
      try walk_at "pl"
      refine ⟨by omega, ?_⟩
      refine lcW_none (fun d hd acc L' hL => ?_) ?_
      · obtain ⟨t, rfl, ht, hp⟩ := row d hd
        try walk_at "pl"
        rw [len_strOf, bk_len]
        refine ⟨by omega, ?_⟩
        by_cases c : (0 : Int) < t
        · rw [if_pos c]
          try walk_at "pl"
          rw [cutS_but]
          try rw [len_strOf, bk_len]
          refine ⟨by omega, callS_of _ _ ⟨m, _, rfl, h1, by rw [List.length_dropLast, bk_len]; omega, ?_⟩⟩
          obtain ⟨a, b, e⟩ := (row_draws h1 hp x0 x1).2 (by omega)
          rw [e]
          simp only [toD]
          try walk_at "pl"
          try rw [if_neg (by decide)]
          exact hL
        · rw [if_neg c]
          try walk_at "pl"
          exact hL
      try walk_at "pl"
      refine oNe_sameE nice_empty.1 nice_empty.2 ?_
      try walk_at "pl"
      refine ⟨by omega, ?_⟩
      refine lcW_m (dTwo L.toNat) (fun d hd acc L' hL => ?_) ?_
      · obtain ⟨t, rfl, ht, hp⟩ := row d hd
        try walk_at "pl"
        rw [len_strOf, bk_len]
        refine ⟨by omega, callS_of _ _ ⟨_, rfl, by omega, by omega, ?_⟩⟩
        have : dTwo L.toNat (.str (strOf (bk m t x))) = D.int ((2 : Int) ^ (L - t).toNat) := by
          show D.int ((2 : Int) ^ (L.toNat - (strOf (bk m t x)).length)) = _
          rw [len_strOf, bk_len, show L.toNat - t = (L - t).toNat by omega]
        rw [this] at hL
        exact hL
      have etwo : (rowsL m x L.toNat).map (dTwo L.toNat) = ((tsL m (L.toNat + 1)).map fun t => (2 : Int) ^ (L.toNat - t)).map D.int := by
        unfold rowsL
        rw [List.map_map, List.map_map]
        refine List.map_congr_left fun t _ => ?_
        show D.int ((2 : Int) ^ (L.toNat - (strOf (bk m t x)).length)) = D.int ((2 : Int) ^ (L.toNat - t))
        rw [len_strOf, bk_len]
      rw [etwo]
      try walk_at "pl"
      rw [rows_sum h1]
      refine callS_of _ _ ⟨L, rfl, h2, h3, ?_⟩
      try walk_at "pl"
      rw [fdiv_pos (by omega), decide_eq_true rfl]
      exact ⟨divB h1 hm60 _, hR⟩
end
end K41

namespace K41
open PySem PySem.Spec L2 PL K39 K40
open K38 (fr sg gcd_pos fr_prog fr_law gcd_step abs_gcd fr_bound fr_pos)
local macro_rules | `(tactic| walk_at "pl") => `(tactic| simp (maxSteps := 3000000) (dsimp := false) only [env0, List.map_cons, List.map_nil, List.length_cons, List.length_nil, List.replicate_succ, List.replicate_zero, List.cons_append, List.nil_append, List.getElem?_cons_zero, List.getElem?_cons_succ, List.set_cons_zero, List.set_cons_succ, Nat.reduceAdd, Nat.reduceSub, Nat.zero_add, ↓q_seq, ↓o_augm_int, ↓o_ltI, ↓q_dget, ↓q_dgett, ↓q_int, ↓q_dput, ↓q_dputt, ↓q_mnil, ↓q_msh, ↓q_mown, ↓q_parm, ↓q_rd3, ↓q_chain, ↓o_in_lst, ↓o_in_tup, ↓o_in_dic, ↓o_isn, ↓o_mult, ↓o_suma_lstI, ↓o_suma_tupI, ↓o_sumI, ↓o_lend, ↓o_tuplel, k_int, k_str, setC_cons, setC_nil, ↓q_next, ↓q_brk, ↓q_cnt, ↓q_ret, ↓q_ifs, ↓q_drop, ↓q_asg, ↓q_own, ↓q_par, ↓q_par3, ↓q_append, ↓q_for, ↓q_gset, ↓q_gtup, ↓q_gcons, ↓q_gnil, ↓q_aug, ↓q_var, ↓q_rd, ↓q_c, ↓q_bin, ↓q_un, ↓q_b, ↓q_not, ↓q_and, ↓q_or, ↓q_andv, ↓q_orv, ↓q_notv, ↓q_if, ↓q_nil, ↓q_cons, ↓q_consts, ↓q_tup, ↓q_lst, ↓q_sl, ↓q_no, ↓q_part, ↓q_rev, ↓q_call, ↓q_fn, ↓q_fnb, ↓q_fnk, ↓q_isi, ↓q_join, ↓q_lc, ↓q_yes, ↓q_r1, ↓q_r2, ↓q_iter, ↓q_enum, ↓q_enumk, ↓q_zip, ↓q_frz, ↓q_fmt, ↓q_js0, ↓q_js, ↓o_add_int, ↓o_add_str, ↓o_add_lst, ↓o_add_tup, ↓o_sub, ↓o_mul_int, ↓o_mul_lst, ↓o_mod, ↓o_div, ↓o_pow, ↓o_lt_int, ↓o_lt_str, ↓o_le, ↓o_gt, ↓o_ge, ↓o_ix_lst, ↓o_ix_tup, ↓o_ix_str, ↓o_sl_lst, ↓o_sl_tup, ↓o_sl_str, ↓o_len_lst, ↓o_len_tup, ↓o_len_str, ↓o_int_int, ↓o_int_bl, ↓o_int_str, ↓o_list_lst, ↓o_list_tup, ↓o_tuple_lst, ↓o_tuple_tup, ↓o_abs, ↓o_max, ↓o_min, ↓o_str, ↓o_all, ↓o_any, ↓o_aug_int, ↓i_lst, ↓i_tup, ↓i_str, ↓w_nil, ↓w_cons, ↓pk_cons', ↓pk_nil', ↓oEq_int, ↓oNe_int, ↓oEq_str, ↓oNe_str, noOwn, List.all_cons, List.all_nil, Bool.and_self, Bool.and_true, Bool.true_and, b_nd, decide_eq_true_eq, true_and, and_true, atI0, atI1, atI2, atI3, ↓ty_non, ↓ty_bl, ↓ty_int, ↓ty_str, ↓ty_lst, ↓ty_tup, ↓ty_dic, kk_NoneType_bool, kk_NoneType_int, kk_NoneType_str, kk_NoneType_list, kk_NoneType_tuple, kk_NoneType_dict, kk_bool_bool, kk_bool_int, kk_bool_str, kk_bool_list, kk_bool_tuple, kk_bool_dict, kk_int_bool, kk_int_int, kk_int_str, kk_int_list, kk_int_tuple, kk_int_dict, kk_str_bool, kk_str_int, kk_str_str, kk_str_list, kk_str_tuple, kk_str_dict, kk_list_bool, kk_list_int, kk_list_str, kk_list_list, kk_list_tuple, kk_list_dict, kk_tuple_bool, kk_tuple_int, kk_tuple_str, kk_tuple_list, kk_tuple_tuple, kk_tuple_dict, kk_dict_bool, kk_dict_int, kk_dict_str, kk_dict_list, kk_dict_tuple, kk_dict_dict, Bool.not_true, Bool.not_false, Bool.false_eq_true, if_true, if_false, ↓reduceIte, Bool.not_eq_true, List.isEmpty_nil, List.isEmpty_cons, not_true_eq_false, not_false_eq_true, decide_true, decide_false, List.flatten_cons, List.flatten_nil, sizeLine_val, Nat.reduceLeDiff, Nat.reduceLT, Nat.reduceMul, Int.reducePow, Int.reduceNeg, Int.reduceLE, Int.reduceLT, Int.reduceToNat, Int.reduceAdd, Int.reduceSub, Int.reduceMul])
local macro_rules | `(tactic| walk_at "dep") => `(tactic| (simp only [depD, depL, bulkD, bulkL]; first | decide | omega | (rw [← Nat.ble_eq]; rfl)))
local macro_rules | `(tactic| walk_at "nice") => `(tactic| (simp only [niceD, niceL, Bool.and_true, Bool.true_and, Bool.and_eq_true, decide_eq_true_eq, and_true, true_and]))
section
variable {P : Program} {w : World} {K : PySem.W.Frag} {mg : Str → Option Value} {base : Heap}
theorem ite_both {c : Prop} [Decidable c] {A B : Prop} (ha : B → c → A) (hb : B) : if c then A else B := by
  split
  · next h => exact ha hb h
  · exact hb
theorem per_of {m : Int} {f c : Nat} (hc : 0 < c) (e : on m (f + c) = on m f) : Per (on m) f c := by
  refine ⟨hc, fun n hn => ?_⟩
  obtain ⟨d, rfl⟩ : ∃ d, n = f + d := ⟨n - f, by omega⟩
  show (2 : Int) ^ (f + d + c) % m = 2 ^ (f + d) % m
  rw [show f + d + c = f + c + d by omega]
  exact pw_on e d
theorem per_ex {m : Int} (hm : 1 ≤ m) : ∃ f c : Nat, Per (on m) f c := by
  by_cases h : ∃ i j : Nat, i < j ∧ j < m.toNat + 1 ∧ on m i = on m j
  · obtain ⟨i, j, h1, h2, h3⟩ := h
    exact ⟨i, j - i, per_of (by omega) (by rw [show i + (j - i) = j by omega]; exact h3.symm)⟩
  · exfalso
    have := pw_few hm (k := m.toNat + 1) fun i j a b z => h ⟨i, j, a, b, z⟩
    omega
theorem mv_pos {p : Nat → Int} {f c : Nat} (h : Per p f c) : 0 < (mv p).2 := by
  rw [← mv_is h]
  exact fr_pos _ (by have := dn_pos (f := f) h.1; omega)
theorem rep_ones (k : Nat) : (List.replicate k [D.int 1]).flatten = (List.replicate k (1 : Int)).map D.int := by
  induction k with
  | zero => rfl
  | succ k ih => rw [List.replicate_succ, List.flatten_cons, ih, List.replicate_succ, List.map_cons]; rfl
theorem op_ones {m : Int} (hm : 1 ≤ m) : op (List.replicate m.toNat (1 : Int)).sum (List.replicate m.toNat 1) = on m := by
  funext t
  rw [sum_rep, op_alike (by decide) (by omega), show ((m.toNat : Nat) : Int) = m by omega]
theorem ints_map (g : Int → Int) (L : Nat) : (intsD 0 L).map (dI g) = ((List.range L).map fun t : Nat => g t).map D.int := by
  unfold intsD
  rw [List.map_map, List.map_map]
  refine List.map_congr_left fun t _ => ?_
  show D.int (g (0 + t)) = D.int (g t)
  rw [Int.zero_add]
theorem ints_mem {L : Nat} {d : D} (h : d ∈ intsD 0 L) : ∃ t : Nat, d = .int t ∧ t < L := by
  unfold intsD at h
  obtain ⟨t, ht, rfl⟩ := List.mem_map.mp h
  exact ⟨t, by rw [Int.zero_add], List.mem_range.mp ht⟩
def S_law_sums_right : PL.Spec := fun ds n R => ∃ m L : Int, ds = [.int m, .int L] ∧ 1 ≤ m ∧ m ≤ 300 ∧ 0 ≤ L ∧ L ≤ 30 ∧ R (.bl true) n
theorem ok_law_sums_right {f : Addr} {fd : FuncData} (F : Fun K "_law_sums_right" "_law_sums_right" s_law_sums_right f fd) (hm : mg "_law_sums_right" = some (.ref f)) (B : BI mg) (h_law_mean_by : FnC P w K mg base 2 "_law_mean_by" ["_law_loads"] [] S_law_mean_by) (h_law_ratio : FnC P w K mg base 1 "_law_ratio" ["_law_top", "_law_bottom"] [] S_law_ratio) (h_law_twos : FnC P w K mg base 1 "_law_twos" ["_law_much"] [] S_law_twos) (h_mean : FnC P w K mg base 4 "mean" ["many"] [(["many"], [0])] S_mean) (h_open_at : FnC P w K mg base 2 "open_at" ["many", "depth"] [] S_open_at) (h_leaves_at : FnC P w K mg base 3 "leaves_at" ["many", "depth"] [] S_leaves_at) : FnC P w K mg base 5 "_law_sums_right" ["_law_much", "_law_limit"] [] S_law_sums_right := by
  refine fnc F hm sc_law_sums_right (F.binds (ps := ["_law_much", "_law_limit"]) fun _ _ _ _ _ _ us hl => match us, hl with | [_, _], _ => rfl)
    (fun q hq => nomatch hq) ?_ (fun cdv A outer s H E hgd hr => ⟨_, (dss_cons (ds_asg (de_fnC h_law_mean_by hgd (hr.mono (by decide)) (da_cons (de_mulT (SE.of (de_tup (da_cons de_int da_nil))) (se_var (pv 0))) da_nil)) (dg_name (pg_name (i := 2) sc_law_sums_right.nd rfl (Or.inl rfl))))
      (dss_cons (ds_if (dt_ne hr.units (SE.of (de_repr B.repr rfl hr.units hgd (sa_cons (SE.of (DE.of (fe_lst (da_cons (de_fnC h_mean hgd hr (da_cons (de_var (pv 0)) da_nil)) (da_cons (de_fnKC (ks := ["many"]) (ix := [0]) h_mean (.head _) hgd hr (dk_cons (de_var (pv 0)) dk_nil)) da_nil))))) sa_nil))) (SE.of (de_repr B.repr rfl hr.units hgd (sa_cons (SE.of (DE.of (fe_lst (da_cons (de_var (pv 2)) (da_cons (de_var (pv 2)) da_nil))))) sa_nil)))) (dss_one (ds_ret (SE.of de_bl))) dss_nil)
      (dss_cons (ds_if (dt_w (dw_and (dt_le (se_var (pv 0)) (SE.of de_int)) (dw_and1 (dt_ne hr.units (SE.of (de_fnC h_mean hgd hr (da_cons (de_mul (SE.of de_int) (se_var (pv 0))) da_nil))) (SE.of (de_fnC h_law_ratio hgd (hr.mono (by decide)) (da_cons (de_add (SE.of (de_sub_ix (se_var (pv 2)) (SE.of de_int))) (SE.of (de_sub_ix (se_var (pv 2)) (SE.of de_int)))) (da_cons (de_sub_ix (se_var (pv 2)) (SE.of de_int)) da_nil)))))))) (dss_one (ds_ret (SE.of de_bl))) dss_nil)
      (dss_cons (ds_asg (de_sumA B.sum rfl (sa_cons (SE.of (DE.of (fe_lc (own := [("_law_level", 6)]) (di_range1 B.range rfl (da_cons (de_add (se_var (pv 1)) (SE.of de_int)) da_nil)) sc_law_sums_right.nd (blkOk_by (N := ["_law_much", "_law_limit", "_law_due", "_law_weighed", "_law_lengths", "_law_near", "_law_level"]) (sc := defScope s_law_sums_right) (own := [("_law_level", 6)]) (by decide +kernel)) (by decide) (fun _ _ _ _ _ => (dg_name (pg_name (i := 6) sc_law_sums_right.nd rfl (Or.inl rfl)))) (fun _ _ _ _ _ => dts_nil) (fun _ _ _ _ _ => (de_mul (SE.of (de_fnC h_leaves_at hgd (hr.mono (by decide)) (da_cons (de_var (pv 0)) (da_cons (de_var (pv 6)) da_nil)))) (SE.of (de_fnC h_law_twos hgd (hr.mono (by decide)) (da_cons (de_sub (se_var (pv 1)) (se_var (pv 6))) da_nil)))))))) sa_nil)) (dg_name (pg_name (i := 3) sc_law_sums_right.nd rfl (Or.inl rfl))))
      (dss_cons (ds_if (dt_w (dw_or (dt_ne hr.units (SE.of (de_add (se_var (pv 3)) (SE.of (de_fnC h_open_at hgd (hr.mono (by decide)) (da_cons (de_var (pv 0)) (da_cons (de_var (pv 1)) da_nil)))))) (SE.of (de_fnC h_law_twos hgd (hr.mono (by decide)) (da_cons (de_var (pv 1)) da_nil)))) (dw_or1 (dt_ne hr.units (SE.of (de_fnC h_open_at hgd (hr.mono (by decide)) (da_cons (de_var (pv 0)) (da_cons (de_var (pv 1)) da_nil)))) (SE.of (de_mod (SE.of (de_fnC h_law_twos hgd (hr.mono (by decide)) (da_cons (de_var (pv 1)) da_nil))) (se_var (pv 0)))))))) (dss_one (ds_ret (SE.of de_bl))) dss_nil)
      (dss_cons (ds_asg (de_sumA B.sum rfl (sa_cons (SE.of (DE.of (fe_lc (own := [("_law_level", 6)]) (di_range1 B.range rfl (da_cons (de_add (se_var (pv 1)) (SE.of de_int)) da_nil)) sc_law_sums_right.nd (blkOk_by (N := ["_law_much", "_law_limit", "_law_due", "_law_weighed", "_law_lengths", "_law_near", "_law_level"]) (sc := defScope s_law_sums_right) (own := [("_law_level", 6)]) (by decide +kernel)) (by decide) (fun _ _ _ _ _ => (dg_name (pg_name (i := 6) sc_law_sums_right.nd rfl (Or.inl rfl)))) (fun _ _ _ _ _ => dts_nil) (fun _ _ _ _ _ => (de_mul (SE.of (de_mul (SE.of (de_fnC h_leaves_at hgd (hr.mono (by decide)) (da_cons (de_var (pv 0)) (da_cons (de_var (pv 6)) da_nil)))) (se_var (pv 6)))) (SE.of (de_fnC h_law_twos hgd (hr.mono (by decide)) (da_cons (de_sub (se_var (pv 1)) (se_var (pv 6))) da_nil)))))))) sa_nil)) (dg_name (pg_name (i := 4) sc_law_sums_right.nd rfl (Or.inl rfl))))
      (dss_cons (ds_asg (de_fnC h_law_ratio hgd (hr.mono (by decide)) (da_cons (de_add (se_var (pv 4)) (SE.of (de_mul (SE.of (de_mul (SE.of (de_fnC h_open_at hgd (hr.mono (by decide)) (da_cons (de_var (pv 0)) (da_cons (de_var (pv 1)) da_nil)))) (SE.of (de_add (se_var (pv 1)) (SE.of de_int))))) (SE.of (de_int1 B.int rfl (sa_cons (SE.of (de_gt (SE.of (de_fnC h_open_at hgd (hr.mono (by decide)) (da_cons (de_var (pv 0)) (da_cons (de_var (pv 1)) da_nil)))) (SE.of de_int))) sa_nil)))))) (da_cons (de_fnC h_law_twos hgd (hr.mono (by decide)) (da_cons (de_var (pv 1)) da_nil)) da_nil))) (dg_name (pg_name (i := 5) sc_law_sums_right.nd rfl (Or.inl rfl))))
      (dss_one (ds_ret (SE.of (de_le (SE.of (de_mul (SE.of (de_sub_ix (se_var (pv 5)) (SE.of de_int))) (SE.of (de_sub_ix (se_var (pv 2)) (SE.of de_int))))) (SE.of (de_mul (SE.of (de_sub_ix (se_var (pv 2)) (SE.of de_int))) (SE.of (de_sub_ix (se_var (pv 5)) (SE.of de_int)))))))))))))))), ?_⟩)
  · rintro ds n R ⟨m, L, rfl, _⟩; rfl
  · rintro ds n R ⟨m, L, rfl, h1, hm, h2, h3, hR⟩
    obtain ⟨f, c, per⟩ := per_ex h1
    have pos := mv_pos per
    have ob := on_bd h1
    have lb : ∀ t, 0 ≤ lf m t ∧ lf m t ≤ 300 := fun t => by rcases lf_val m t with h | h <;> rw [h] <;> omega
    walk_at "pl"
    rw [rep_ones]
    have rs : (List.replicate m.toNat (1 : Int)).sum = m := by rw [sum_rep]; omega
    refine ⟨by simp, h1, by omega, callS_of _ _ ⟨_, rfl, fun w hw => by have := List.eq_of_mem_replicate hw; omega, by omega, by omega, by simp; omega, ?_⟩⟩
    rw [op_ones h1]
    intro bd
    have nl := near_le (fun t => (ob t).1) per L.toNat
    have m2 := mv_two h1 per
    generalize ex : mv (on m) = x at pos bd nl m2 ⊢
    have ok2 := ok_two (ok_fr bd)
    try walk_at "pl"
    refine callS_of _ _ ⟨m, rfl, h1, hm, fun _ => ?_⟩
    rw [show (mv fun t => (2 : Int) ^ t % m) = x from ex]
    try walk_at "pl"
    refine callS_of _ _ ⟨m, rfl, h1, hm, fun _ => ?_⟩
    rw [show (mv fun t => (2 : Int) ^ t % m) = x from ex]
    try walk_at "pl"
    refine oRepr_ok ok2 ?_
    try walk_at "pl"
    refine oRepr_ok ok2 ?_
    try walk_at "pl"
    have opens : ∀ (Rk : D → Nat → Prop), Rk (.int (on m L.toNat)) n → callS S_open_at [D.int m, D.int L] n Rk := fun Rk h => callS_of _ _ ⟨m, L, rfl, h1, h2, by omega, h⟩
    have twos : ∀ (d : Int) (Rk : D → Nat → Prop), 0 ≤ d → d ≤ 400 → Rk (.int ((2 : Int) ^ d.toNat)) n → callS S_law_twos [D.int d] n Rk := fun d Rk d0 d1 h => callS_of _ _ ⟨d, rfl, d0, d1, h⟩
    have leaves : ∀ (t : Nat) (Rk : D → Nat → Prop), t ≤ 400 → Rk (.int (lf m t)) n → callS S_leaves_at [D.int m, D.int t] n Rk := fun t Rk d1 h => callS_of _ _ ⟨m, t, rfl, h1, by omega, by omega, by rw [Int.toNat_natCast]; exact h⟩
    refine ite_both (c := m ≤ 150) (fun tail c150 => ?_) ?_
    · refine ⟨MulOk.left (by decide) (by decide), callS_of _ _ ⟨2 * m, rfl, by omega, by omega, ?_⟩⟩
      rw [show (mv fun t => (2 : Int) ^ t % (2 * m)) = fr (x.1 + x.2) x.2 from m2]
      intro bd2
      try walk_at "pl"
      rw [show frP x = D.tup [D.int x.1, D.int x.2] from rfl]
      try walk_at "pl"
      refine callS_of _ _ ⟨x.1 + x.2, x.2, rfl, by omega, plt bd.2 (by decide), ?_⟩
      try walk_at "pl"
      refine oNe_same (ok_one (ok_fr bd2)) ?_
      try walk_at "pl"
      exact tail
    refine ⟨by omega, by omega, by rw [intsD_len]; omega, ?_⟩
    rw [show (L + 1).toNat = L.toNat + 1 by omega]
    refine lcW_m (dI fun t => lf m t.toNat * 2 ^ (L.toNat - t.toNat)) (fun d hd acc L' hL => ?_) ?_
    · obtain ⟨t, rfl, ht⟩ := ints_mem hd
      try walk_at "pl"
      refine leaves t _ (by omega) ?_
      try walk_at "pl"
      refine twos _ _ (by omega) (by omega) ?_
      try walk_at "pl"
      refine ⟨MulOk.left (by have := lb t; omega) (by have := lb t; omega), ?_⟩
      have e : dI (fun t => lf m t.toNat * 2 ^ (L.toNat - t.toNat)) (D.int (t : Int)) = D.int (lf m t * 2 ^ (L - t).toNat) := by
        show D.int (lf m t * 2 ^ (L.toNat - t)) = _
        rw [show L.toNat - t = (L - t).toNat by omega]
      rw [e] at hL
      exact hL
    rw [ints_map]
    try walk_at "pl"
    have ew := sum_bt (lf m) (L.toNat + 1)
    rw [show L.toNat + 1 - 1 = L.toNat by omega, bt_lf h1] at ew
    rw [show (List.map (fun t : Nat => lf m (t : Int).toNat * 2 ^ (L.toNat - (t : Int).toNat)) (List.range (L.toNat + 1))).sum = 2 ^ L.toNat - on m L.toNat from ew]
    refine opens _ ?_
    try walk_at "pl"
    refine twos L _ h2 (by omega) ?_
    try walk_at "pl"
    rw [show (2 : Int) ^ L.toNat - on m L.toNat + on m L.toNat = 2 ^ L.toNat by omega, if_neg (fun z => z rfl)]
    try walk_at "pl"
    refine opens _ ?_
    try walk_at "pl"
    refine twos L _ h2 (by omega) ?_
    try walk_at "pl"
    rw [fmod_pos (by omega), if_neg (fun z => z rfl)]
    try walk_at "pl"
    refine ⟨by omega, by omega, by omega, by rw [intsD_len]; omega, ?_⟩
    rw [show (L + 1).toNat = L.toNat + 1 by omega]
    refine lcW_m (dI fun t => lf m t.toNat * t * 2 ^ (L.toNat - t.toNat)) (fun d hd acc L' hL => ?_) ?_
    · obtain ⟨t, rfl, ht⟩ := ints_mem hd
      try walk_at "pl"
      refine leaves t _ (by omega) ?_
      try walk_at "pl"
      refine ⟨MulOk.left (by have := lb t; omega) (by have := lb t; omega), ?_⟩
      refine twos _ _ (by omega) (by omega) ?_
      try walk_at "pl"
      have lt : 0 ≤ lf m t * (t : Int) ∧ lf m t * (t : Int) ≤ 300 * 31 := ⟨Int.mul_nonneg (lb t).1 (by omega), Int.mul_le_mul (lb t).2 (by omega) (by omega) (by decide)⟩
      refine ⟨MulOk.left (by omega) (by omega), ?_⟩
      have e : dI (fun t => lf m t.toNat * t * 2 ^ (L.toNat - t.toNat)) (D.int (t : Int)) = D.int (lf m t * t * 2 ^ (L - t).toNat) := by
        show D.int (lf m t * t * 2 ^ (L.toNat - t)) = _
        rw [show L.toNat - t = (L - t).toNat by omega]
      rw [e] at hL
      exact hL
    rw [ints_map]
    try walk_at "pl"
    have el := sum_bt (fun t => lf m t * t) (L.toNat + 1)
    rw [show L.toNat + 1 - 1 = L.toNat by omega] at el
    have bl := bt_len h1 L.toNat
    rw [show (List.map (fun t : Nat => lf m (t : Int).toNat * (t : Int) * 2 ^ (L.toNat - (t : Int).toNat)) (List.range (L.toNat + 1))).sum = bt (fun t => lf m t * t) (L.toNat + 1) from el]
    generalize bt (fun t => lf m t * t) (L.toNat + 1) = S at bl ⊢
    have o300 := ob L.toNat
    refine opens _ ?_
    try walk_at "pl"
    refine ⟨MulOk.left (by omega) (by omega), opens _ ?_⟩
    try walk_at "pl"
    have oi : ∀ z : Int, z * (if 0 < on m L.toNat then 1 else 0) = if 0 < on m L.toNat then z else 0 := fun z => by split <;> simp
    have ov : S + on m L.toNat * (L + 1) * (if 0 < on m L.toNat then 1 else 0) = bt (on m) (L.toNat + 1) := by
      rw [oi, ← bl, show ((L.toNat : Nat) : Int) = L by omega]
      split
      · rfl
      · next z => rw [show on m L.toNat = 0 by omega]; simp
    refine ⟨MulOk.right (by split <;> decide) (by split <;> decide), twos L _ h2 (by omega) ?_⟩
    try walk_at "pl"
    rw [ov]
    have tp := two_pos L.toNat
    have tb : ((2 : Int) ^ L.toNat).natAbs < 2 ^ 900 := plt (tw_lt L.toNat) (by omega)
    have bb : (bt (on m) (L.toNat + 1)).natAbs < 2 ^ 900 := plt (bt_lt (fun t => ⟨(ob t).1, by have := ob t; omega⟩) (L.toNat + 1)) (by omega)
    have nb := fr_bound (bt (on m) (L.toNat + 1)) (b := 2 ^ L.toNat) (by omega) bb tb
    refine callS_of _ _ ⟨_, _, rfl, by omega, plt tb (by decide), ?_⟩
    try walk_at "pl"
    unfold frP
    try walk_at "pl"
    rw [decide_eq_true nl]
    exact ⟨.wide nb.1 bd.2, .wide bd.1 nb.2, hR⟩
end
end K41

namespace K41
open PySem PySem.Spec L2 PL K39 K40
open K38 (fr sg gcd_pos fr_prog fr_law gcd_step abs_gcd fr_bound fr_pos)
local macro_rules | `(tactic| walk_at "pl") => `(tactic| simp (maxSteps := 3000000) (dsimp := false) only [env0, List.map_cons, List.map_nil, List.length_cons, List.length_nil, List.replicate_succ, List.replicate_zero, List.cons_append, List.nil_append, List.getElem?_cons_zero, List.getElem?_cons_succ, List.set_cons_zero, List.set_cons_succ, Nat.reduceAdd, Nat.reduceSub, Nat.zero_add, ↓q_seq, ↓o_augm_int, ↓o_ltI, ↓q_dget, ↓q_dgett, ↓q_int, ↓q_dput, ↓q_dputt, ↓q_mnil, ↓q_msh, ↓q_mown, ↓q_parm, ↓q_rd3, ↓q_chain, ↓o_in_lst, ↓o_in_tup, ↓o_in_dic, ↓o_isn, ↓o_mult, ↓o_suma_lstI, ↓o_suma_tupI, ↓o_sumI, ↓o_lend, ↓o_tuplel, k_int, k_str, setC_cons, setC_nil, ↓q_next, ↓q_brk, ↓q_cnt, ↓q_ret, ↓q_ifs, ↓q_drop, ↓q_asg, ↓q_own, ↓q_par, ↓q_par3, ↓q_append, ↓q_for, ↓q_gset, ↓q_gtup, ↓q_gcons, ↓q_gnil, ↓q_aug, ↓q_var, ↓q_rd, ↓q_c, ↓q_bin, ↓q_un, ↓q_b, ↓q_not, ↓q_and, ↓q_or, ↓q_andv, ↓q_orv, ↓q_notv, ↓q_if, ↓q_nil, ↓q_cons, ↓q_consts, ↓q_tup, ↓q_lst, ↓q_sl, ↓q_no, ↓q_part, ↓q_rev, ↓q_call, ↓q_fn, ↓q_fnb, ↓q_fnk, ↓q_isi, ↓q_join, ↓q_lc, ↓q_yes, ↓q_r1, ↓q_r2, ↓q_iter, ↓q_enum, ↓q_enumk, ↓q_zip, ↓q_frz, ↓q_fmt, ↓q_js0, ↓q_js, ↓o_add_int, ↓o_add_str, ↓o_add_lst, ↓o_add_tup, ↓o_sub, ↓o_mul_int, ↓o_mul_lst, ↓o_mod, ↓o_div, ↓o_pow, ↓o_lt_int, ↓o_lt_str, ↓o_le, ↓o_gt, ↓o_ge, ↓o_ix_lst, ↓o_ix_tup, ↓o_ix_str, ↓o_sl_lst, ↓o_sl_tup, ↓o_sl_str, ↓o_len_lst, ↓o_len_tup, ↓o_len_str, ↓o_int_int, ↓o_int_bl, ↓o_int_str, ↓o_list_lst, ↓o_list_tup, ↓o_tuple_lst, ↓o_tuple_tup, ↓o_abs, ↓o_max, ↓o_min, ↓o_str, ↓o_all, ↓o_any, ↓o_aug_int, ↓i_lst, ↓i_tup, ↓i_str, ↓w_nil, ↓w_cons, ↓pk_cons', ↓pk_nil', ↓oEq_int, ↓oNe_int, ↓oEq_str, ↓oNe_str, noOwn, List.all_cons, List.all_nil, Bool.and_self, Bool.and_true, Bool.true_and, b_nd, decide_eq_true_eq, true_and, and_true, atI0, atI1, atI2, atI3, ↓ty_non, ↓ty_bl, ↓ty_int, ↓ty_str, ↓ty_lst, ↓ty_tup, ↓ty_dic, kk_NoneType_bool, kk_NoneType_int, kk_NoneType_str, kk_NoneType_list, kk_NoneType_tuple, kk_NoneType_dict, kk_bool_bool, kk_bool_int, kk_bool_str, kk_bool_list, kk_bool_tuple, kk_bool_dict, kk_int_bool, kk_int_int, kk_int_str, kk_int_list, kk_int_tuple, kk_int_dict, kk_str_bool, kk_str_int, kk_str_str, kk_str_list, kk_str_tuple, kk_str_dict, kk_list_bool, kk_list_int, kk_list_str, kk_list_list, kk_list_tuple, kk_list_dict, kk_tuple_bool, kk_tuple_int, kk_tuple_str, kk_tuple_list, kk_tuple_tuple, kk_tuple_dict, kk_dict_bool, kk_dict_int, kk_dict_str, kk_dict_list, kk_dict_tuple, kk_dict_dict, Bool.not_true, Bool.not_false, Bool.false_eq_true, if_true, if_false, ↓reduceIte, Bool.not_eq_true, List.isEmpty_nil, List.isEmpty_cons, not_true_eq_false, not_false_eq_true, decide_true, decide_false, List.flatten_cons, List.flatten_nil, sizeLine_val, Nat.reduceLeDiff, Nat.reduceLT, Nat.reduceMul, Int.reducePow, Int.reduceNeg, Int.reduceLE, Int.reduceLT, Int.reduceToNat, Int.reduceAdd, Int.reduceSub, Int.reduceMul])
local macro_rules | `(tactic| walk_at "dep") => `(tactic| (simp only [depD, depL, bulkD, bulkL]; first | decide | omega | (rw [← Nat.ble_eq]; rfl)))
local macro_rules | `(tactic| walk_at "nice") => `(tactic| (simp only [niceD, niceL, Bool.and_true, Bool.true_and, Bool.and_eq_true, decide_eq_true_eq, and_true, true_and]))
section
variable {P : Program} {w : World} {K : PySem.W.Frag} {mg : Str → Option Value} {base : Heap}
theorem mv3 : mv (on 3) = (8, 3) := by
  rw [← mv_is (per_of (m := 3) (f := 0) (c := 2) (by decide) (by decide))]
  decide +kernel
theorem mv9 : mv (on 9) = (14, 3) := by
  rw [← mv_is (per_of (m := 9) (f := 0) (c := 6) (by decide) (by decide))]
  decide +kernel
theorem mv12 : mv (on 12) = (14, 3) := by
  rw [← mv_is (per_of (m := 12) (f := 2) (c := 2) (by decide) (by decide))]
  decide +kernel
theorem mv21 : mv (op 3 [1, 2]) = (2, 1) := by
  rw [← mv_is (op_per (W := 3) (ws := [1, 2]) (f := 0) (c := 2) (by decide) (by decide))]
  decide +kernel
theorem ok_law {f : Addr} {fd : FuncData} (F : Fun K "law" "law" s_law f fd) (B : BI mg) {f0 : Addr} {fd0 : FuncData} (D0 : FnG P w K mg base 1 f0 fd0 ["_law_script"] (spDeck K)) (m0 : mg "_law_deck" = some (.ref f0)) (k0 : PySem.W.keepIn K (.ref f0) = true) (b0 : Binds K fd0 ["_law_script"] []) (h_law_pick : FnC P w K mg base 2 "_law_pick" ["_law_deck_here", "_law_some"] [] S_law_pick) (h_law_round : FnC P w K mg base 1 "_law_round" ["_law_much"] [] S_law_round) (h_law_rows_right : FnC P w K mg base 4 "_law_rows_right" ["_law_much", "_law_piece", "_law_limit"] [] S_law_rows_right) (h_open_at : FnC P w K mg base 2 "open_at" ["many", "depth"] [] S_open_at) (h_law_sums_right : FnC P w K mg base 5 "_law_sums_right" ["_law_much", "_law_limit"] [] S_law_sums_right) (h_mean_by : FnC P w K mg base 4 "mean_by" ["weights"] [] S_mean_by) (h_law_draw : FnC P w K mg base 1 "_law_draw" ["_law_deck_here", "_law_much"] [] S_law_draw) (h_mean : FnC P w K mg base 4 "mean" ["many"] [(["many"], [0])] S_mean) (h_open_round : FnC P w K mg base 1 "open_round" ["many"] [(["many"], [0])] S_open_round) : FnG P w K mg base 6 f fd ["_law_script"] (PL.spL K) := by
  refine law_of (k := 5) F sc_law rfl (fun cdv A outer s H E hgd hr => ⟨ps_deck D0 hgd (hr.mono (by decide)) sc_law.nd m0 k0 b0 (pv 0) (.inl rfl), _, (dss_cons (ds_for PassesOwn.never rfl (di_range1 B.range rfl (da_cons de_int da_nil)) (dg_name (pg_name (i := 2) sc_law.nd rfl (Or.inl rfl))) (dss_cons (ds_asg (DE.of (fe_lst (da_consts rfl))) (dg_name (pg_name (i := 3) sc_law.nd rfl (Or.inl rfl))))
      (dss_cons (ds_asg (de_fnC h_law_pick hgd (hr.mono (by decide)) (da_cons (de_var (pv 1)) (da_cons (de_add (se_var (pv 3)) (SE.of (DE.of (fe_lst (da_cons (de_add (SE.of de_int) (SE.of (de_fnC h_law_draw hgd (hr.mono (by decide)) (da_cons (de_var (pv 1)) (da_cons de_int da_nil))))) da_nil))))) da_nil))) (dg_name (pg_name (i := 4) sc_law.nd rfl (Or.inl rfl))))
      (dss_cons (ds_asg (de_fnC h_law_round hgd (hr.mono (by decide)) (da_cons (de_var (pv 4)) da_nil)) (dg_name (pg_name (i := 5) sc_law.nd rfl (Or.inl rfl))))
      (dss_cons (ds_if (dt_ne hr.units (SE.of (de_repr B.repr rfl hr.units hgd (sa_cons (SE.of (DE.of (fe_lst (da_cons (de_fnC h_open_round hgd (hr.mono (by decide)) (da_cons (de_var (pv 4)) da_nil)) (da_cons (de_fnKC (ks := ["many"]) (ix := [0]) h_open_round (.head _) hgd (hr.mono (by decide)) (dk_cons (de_var (pv 4)) dk_nil)) da_nil))))) sa_nil))) (SE.of (de_repr B.repr rfl hr.units hgd (sa_cons (SE.of (DE.of (fe_lst (da_cons (de_var (pv 5)) (da_cons (de_var (pv 5)) da_nil))))) sa_nil)))) (dss_one (ds_ret (SE.of de_bl))) dss_nil)
      (dss_cons (ds_if (dt_ne hr.units (SE.of (de_fnC h_open_at hgd (hr.mono (by decide)) (da_cons (de_var (pv 4)) (da_cons (de_sub_ix (se_var (pv 5)) (SE.of de_int)) da_nil)))) (SE.of (de_fnC h_open_at hgd (hr.mono (by decide)) (da_cons (de_var (pv 4)) (da_cons (de_add (SE.of (de_sub_ix (se_var (pv 5)) (SE.of de_int))) (SE.of (de_sub_ix (se_var (pv 5)) (SE.of de_int)))) da_nil))))) (dss_one (ds_ret (SE.of de_bl))) dss_nil)
      (dss_cons (ds_if (dt_not (dt_val (de_fnC h_law_sums_right hgd hr (da_cons (de_var (pv 4)) (da_cons (de_fnC h_law_draw hgd (hr.mono (by decide)) (da_cons (de_var (pv 1)) (da_cons de_int da_nil))) da_nil))))) (dss_one (ds_ret (SE.of de_bl))) dss_nil)
      (dss_one (ds_for PassesOwn.never rfl (di_range1 B.range rfl (da_cons de_int da_nil)) (dg_name (pg_name (i := 6) sc_law.nd rfl (Or.inl rfl))) (dss_one (ds_if (dt_not (dt_val (de_fnC h_law_rows_right hgd (hr.mono (by decide)) (da_cons (de_var (pv 4)) (da_cons (de_fnC h_law_draw hgd (hr.mono (by decide)) (da_cons (de_var (pv 1)) (da_cons (de_var (pv 4)) da_nil))) (da_cons (de_fnC h_law_draw hgd (hr.mono (by decide)) (da_cons (de_var (pv 1)) (da_cons de_int da_nil))) da_nil)))))) (dss_one (ds_ret (SE.of de_bl))) dss_nil)))))))))))
      (dss_cons (ds_asg (de_fnC h_law_pick hgd (hr.mono (by decide)) (da_cons (de_var (pv 1)) (da_cons (DE.of (fe_lst (da_cons (de_add (SE.of (de_pow (SE.of de_int) (SE.of de_int))) (SE.of de_int)) (da_cons (de_add (SE.of (de_pow (SE.of de_int) (SE.of de_int))) (SE.of de_int)) (da_cons (de_mul (SE.of (de_pow (SE.of de_int) (SE.of de_int))) (SE.of (de_pow (SE.of de_int) (SE.of de_int)))) (da_cons (de_add (SE.of (de_pow (SE.of de_int) (SE.of de_int))) (SE.of de_int)) da_nil)))))) da_nil))) (dg_name (pg_name (i := 4) sc_law.nd rfl (Or.inl rfl))))
      (dss_cons (ds_asg (de_fnC h_law_pick hgd (hr.mono (by decide)) (da_cons (de_var (pv 1)) (da_cons (DE.of (fe_lst (da_cons de_int (da_cons de_int (da_cons (de_fdiv (se_var (pv 4)) (SE.of de_int)) (da_cons (de_sub (se_var (pv 4)) (SE.of de_int)) da_nil)))))) da_nil))) (dg_name (pg_name (i := 7) sc_law.nd rfl (Or.inl rfl))))
      (dss_cons (ds_if (dt_not (dt_val (de_fnC h_law_rows_right hgd (hr.mono (by decide)) (da_cons (de_var (pv 4)) (da_cons (de_var (pv 7)) (da_cons (de_fnC h_law_pick hgd (hr.mono (by decide)) (da_cons (de_var (pv 1)) (da_cons (DE.of (fe_lst (da_consts rfl))) da_nil))) da_nil)))))) (dss_one (ds_ret (SE.of de_bl))) dss_nil)
      (dss_one (ds_ret (SE.of (de_and (de_eq hr.units (SE.of (de_fnC h_mean_by hgd (hr.mono (by decide)) (da_cons (de_tup (da_cons de_int (da_cons de_int da_nil))) da_nil))) (SE.of (de_tup (da_cons de_int (da_cons de_int da_nil))))) (de_one (de_eq hr.units (SE.of (DE.of (fe_lst (da_cons (de_fnC h_mean hgd (hr.mono (by decide)) (da_cons de_int da_nil)) (da_cons (de_fnC h_mean hgd (hr.mono (by decide)) (da_cons de_int da_nil)) (da_cons (de_fnC h_mean hgd (hr.mono (by decide)) (da_cons de_int da_nil)) da_nil)))))) (SE.of (DE.of (fe_lst (da_cons (de_tup (da_cons de_int (da_cons de_int da_nil))) (da_cons (de_tup (da_cons de_int (da_cons de_int da_nil))) (da_cons (de_tup (da_cons de_int (da_cons de_int da_nil))) da_nil)))))))))))))))), ?_⟩)
  walk_at "pl"
  refine (fun (loop : ∀ (k : Nat) (lo : Int) (c2 c3 c4 c5 c6 c7 : Cell) (nn : Nat), nn + k * 10 ≤ 30 → forW ?t ?b (intsD lo k) ?P [Cell.any, Cell.sh D.res, c2, c3, c4, c5, c6, c7] nn) => loop 3 0 _ _ _ _ _ _ 0 (by decide)) ?_
  intro k
  induction k with
  | zero =>
    intro lo c2 c3 c4 c5 c6 c7 nn hn
    have hl : ∀ x : Nat, x ≤ 3000 → nn + x ≤ lim := fun x hx => by unfold lim; omega
    have h10 := hl 10 (by decide)
    rw [intsD_zero, forW_nil]
    try walk_at "pl"
    refine ⟨⟨by decide, by decide, by decide⟩, ⟨by decide, by decide, by decide⟩, ⟨by decide, by decide, by decide⟩, ⟨by decide, by decide, by decide⟩, MulOk.wide (a := 65) (b := 37) (by decide) (by decide), ⟨by decide, by decide, by decide⟩, ?_⟩
    refine callS_of _ _ ⟨_, rfl, by omega, by simp, by simp, fun d hd => ?_⟩
    obtain ⟨m, rfl, m1, m2⟩ : ∃ m : Int, d = .int m ∧ 3 ≤ m ∧ m < 10 ^ 60 := by
      simp only [List.mem_cons, List.not_mem_nil, or_false] at hd
      rcases hd with rfl | rfl | rfl | rfl
      · exact ⟨_, rfl, by decide, by decide⟩
      · exact ⟨_, rfl, by decide, by decide⟩
      · exact ⟨_, rfl, by decide, by decide⟩
      · exact ⟨_, rfl, by decide, by decide⟩
    try walk_at "pl"
    refine ⟨⟨by decide, by decide⟩, callS_of _ _ ⟨_, rfl, by omega, by simp, by simp, fun d hd => ?_⟩⟩
    obtain ⟨x, rfl, x1, x2⟩ : ∃ x : Int, d = .int x ∧ 0 ≤ x ∧ x < m := by
      simp only [List.mem_cons, List.not_mem_nil, or_false] at hd
      rw [fdiv_pos (by decide)] at hd
      rcases hd with rfl | rfl | rfl | rfl <;> exact ⟨_, rfl, by omega, by omega⟩
    try walk_at "pl"
    refine callS_of _ _ ⟨_, rfl, by omega, by simp, by simp, fun d hd => ?_⟩
    obtain ⟨L, rfl, l1, l2⟩ : ∃ L : Int, d = .int L ∧ 0 ≤ L ∧ L ≤ 400 := by
      simp only [List.mem_cons, List.not_mem_nil, or_false] at hd
      rcases hd with rfl | rfl | rfl | rfl | rfl <;> exact ⟨_, rfl, by decide, by decide⟩
    try walk_at "pl"
    refine callS_of _ _ ⟨m, x, L, rfl, by omega, m2, x1, x2, l1, l2, ?_⟩
    try walk_at "pl"
    refine callS_of _ _ ⟨[1, 2], rfl, by decide, by decide, by decide, by decide, fun _ => ?_⟩
    rw [show op [1, 2].sum [1, 2] = op 3 [1, 2] from rfl, mv21]
    try walk_at "pl"
    refine oEq_same (d := frP (2, 1)) (ok_one (ok_fr ⟨by decide, by decide⟩)) ?_
    try walk_at "pl"
    refine callS_of _ _ ⟨3, rfl, by decide, by decide, fun _ => ?_⟩
    rw [show (mv fun t => (2 : Int) ^ t % 3) = (8, 3) from mv3]
    try walk_at "pl"
    refine callS_of _ _ ⟨9, rfl, by decide, by decide, fun _ => ?_⟩
    rw [show (mv fun t => (2 : Int) ^ t % 9) = (14, 3) from mv9]
    try walk_at "pl"
    refine callS_of _ _ ⟨12, rfl, by decide, by decide, fun _ => ?_⟩
    rw [show (mv fun t => (2 : Int) ^ t % 12) = (14, 3) from mv12]
    try walk_at "pl"
    refine oEq_same (d := .lst [frP (8, 3), frP (14, 3), frP (14, 3)]) ?_ ?_
    · exact ⟨by decide +kernel, by decide +kernel, by decide +kernel⟩
    · try walk_at "pl"
  | succ k ih =>
    intro lo c2 c3 c4 c5 c6 c7 nn hn
    have hl : ∀ x : Nat, x ≤ 3000 → nn + x ≤ lim := fun x hx => by unfold lim; omega
    have h10 := hl 10 (by decide)
    rw [intsD_succ, forW_cons]
    try walk_at "pl"
    refine callS_of _ _ ⟨_, rfl, by decide, by decide, by omega, fun a a0 a1 => ?_⟩
    try walk_at "pl"
    refine callS_of _ _ ⟨_, rfl, by omega, by simp, by simp, fun d hd => ?_⟩
    obtain ⟨m, rfl, m1, m2⟩ : ∃ m : Int, d = .int m ∧ 1 ≤ m ∧ m ≤ 300 := by
      simp only [List.mem_cons, List.not_mem_nil, or_false] at hd
      rcases hd with rfl | rfl | rfl | rfl | rfl | rfl | rfl | rfl | rfl | rfl | rfl | rfl | rfl | rfl | rfl | rfl | rfl | rfl <;> exact ⟨_, rfl, by omega, by omega⟩
    try walk_at "pl"
    refine callS_of _ _ ⟨m, rfl, m1, by omega, fun f c hr => ?_⟩
    have hle := hr.le m1
    have rounds : ∀ (n' : Nat) (Rk : D → Nat → Prop), Rk (.tup [.int f, .int c]) n' → callS S_open_round [D.int m] n' Rk := fun n' Rk h => callS_of _ _ ⟨m, rfl, m1, by omega, fun f' c' hr' => by
      obtain ⟨rfl, rfl⟩ := Round.uniq hr hr'
      exact h⟩
    have opens : ∀ (d : Int) (n' : Nat) (Rk : D → Nat → Prop), 0 ≤ d → d ≤ 400 → Rk (.int (on m d.toNat)) n' → callS S_open_at [D.int m, D.int d] n' Rk := fun d n' Rk d0 d1 h => callS_of _ _ ⟨m, d, rfl, m1, d0, d1, h⟩
    have okp : niceD (D.tup [D.int (f : Int), D.int (c : Int)]) = true ∧ depD (D.tup [D.int (f : Int), D.int (c : Int)]) = 2 ∧ bulkD (D.tup [D.int (f : Int), D.int (c : Int)]) ≤ 20 := by
      have b1 : ((f : Int)).natAbs < 2 ^ 1900 := small60 (by omega) (by omega)
      have b2 : ((c : Int)).natAbs < 2 ^ 1900 := small60 (by omega) (by omega)
      refine ⟨?_, rfl, ?_⟩
      · simp only [niceD, niceL, decide_eq_true b1, decide_eq_true b2]; rfl
      · show 0 + 1 + (0 + 1 + 0) ≤ 20; decide
    try walk_at "pl"
    refine rounds _ _ ?_
    try walk_at "pl"
    refine rounds _ _ ?_
    try walk_at "pl"
    refine oRepr_ok (ok_two okp) ?_
    try walk_at "pl"
    refine oRepr_ok (ok_two okp) ?_
    try walk_at "pl"
    refine opens f _ _ (by omega) (by omega) ?_
    try walk_at "pl"
    refine opens _ _ _ (by omega) (by omega) ?_
    try walk_at "pl"
    have e1 : on m ((f : Int) + c).toNat = on m (f : Int).toNat := by
      rw [show ((f : Int) + c).toNat = f + c by omega, Int.toNat_natCast]
      exact hr.2.1
    rw [e1, if_neg (fun z => z rfl)]
    try walk_at "pl"
    refine callS_of _ _ ⟨_, rfl, by decide, by decide, by omega, fun L l0 l1 => ?_⟩
    try walk_at "pl"
    refine callS_of _ _ ⟨m, L, rfl, m1, m2, l0, by omega, ?_⟩
    try walk_at "pl"
    refine (fun (loop2 : ∀ (j : Nat) (lo2 : Int) (c6 : Cell) (n3 : Nat), nn ≤ n3 → n3 + j * 2 ≤ nn + 3 + 4 → forW ?t2 ?b2 (intsD lo2 j) ?P2 [Cell.any, Cell.sh D.res, _, _, Cell.sh (D.int m), _, c6, c7] n3) => loop2 2 0 _ (nn + 1 + 1 + 1) (by omega) (by omega)) ?_
    intro j
    induction j with
    | zero =>
      intro lo2 c6 n3 a3 a4
      rw [intsD_zero, forW_nil]
      exact ih _ _ _ _ _ _ _ _ (by omega)
    | succ j ih2 =>
      intro lo2 c6 n3 a3 a4
      rw [intsD_succ, forW_cons]
      try walk_at "pl"
      refine callS_of _ _ ⟨m, rfl, by omega, by omega, by omega, fun x x0 x1 => ?_⟩
      try walk_at "pl"
      refine callS_of _ _ ⟨_, rfl, by decide, by decide, by omega, fun L' l0' l1' => ?_⟩
      try walk_at "pl"
      refine callS_of _ _ ⟨m, x, L', rfl, m1, by omega, x0, x1, l0', by omega, ?_⟩
      try walk_at "pl"
      exact ih2 _ _ _ (by omega) (by omega)
end
theorem all_mk {l : PySem.W.OpenLaw} {w : World} {K : PySem.W.Frag} {h : Heap} {mg : Str → Option Value} {fa : Addr} (X : K.In h) (G : h.Ns mainGlobals mg) (hfa : mg "law" = some (.ref fa))
    {f0 : Addr} {od0 an0 : Option Addr} {sl0 : Array (Option Value)} {oc0 kV0 dc0 pm0 cd0 ct0 : Value} (a0 : PySem.W.nsIn K mainGlobals "common_part" = some (some (.ref f0))) (l0 : K.lookup f0 = some ⟨oc0, od0, .func (PySem.W.fnOf "common_part" "common_part" (defArgs s_common_part) (defBody s_common_part) (defScope s_common_part) .none kV0 dc0 pm0 an0 cd0 ct0), sl0⟩) (c0 : PySem.W.codeIn K cd0 "common_part" = true) (k0 : PySem.W.keepIn K (.ref f0) = true)
    {f1 : Addr} {od1 an1 : Option Addr} {sl1 : Array (Option Value)} {oc1 kV1 dc1 pm1 cd1 ct1 : Value} (a1 : PySem.W.nsIn K mainGlobals "fraction" = some (some (.ref f1))) (l1 : K.lookup f1 = some ⟨oc1, od1, .func (PySem.W.fnOf "fraction" "fraction" (defArgs s_fraction) (defBody s_fraction) (defScope s_fraction) .none kV1 dc1 pm1 an1 cd1 ct1), sl1⟩) (c1 : PySem.W.codeIn K cd1 "fraction" = true) (k1 : PySem.W.keepIn K (.ref f1) = true)
    {f2 : Addr} {od2 an2 : Option Addr} {sl2 : Array (Option Value)} {oc2 kV2 dc2 pm2 cd2 ct2 : Value} (a2 : PySem.W.nsIn K mainGlobals "power" = some (some (.ref f2))) (l2 : K.lookup f2 = some ⟨oc2, od2, .func (PySem.W.fnOf "power" "power" (defArgs s_power) (defBody s_power) (defScope s_power) .none kV2 dc2 pm2 an2 cd2 ct2), sl2⟩) (c2 : PySem.W.codeIn K cd2 "power" = true) (k2 : PySem.W.keepIn K (.ref f2) = true)
    {f3 : Addr} {od3 an3 : Option Addr} {sl3 : Array (Option Value)} {oc3 kV3 dc3 pm3 cd3 ct3 : Value} (a3 : PySem.W.nsIn K mainGlobals "draw" = some (some (.ref f3))) (l3 : K.lookup f3 = some ⟨oc3, od3, .func (PySem.W.fnOf "draw" "draw" (defArgs s_draw) (defBody s_draw) (defScope s_draw) .none kV3 dc3 pm3 an3 cd3 ct3), sl3⟩) (c3 : PySem.W.codeIn K cd3 "draw" = true) (k3 : PySem.W.keepIn K (.ref f3) = true)
    {f4 : Addr} {od4 an4 : Option Addr} {sl4 : Array (Option Value)} {oc4 kV4 dc4 pm4 cd4 ct4 : Value} (a4 : PySem.W.nsIn K mainGlobals "opens_to" = some (some (.ref f4))) (l4 : K.lookup f4 = some ⟨oc4, od4, .func (PySem.W.fnOf "opens_to" "opens_to" (defArgs s_opens_to) (defBody s_opens_to) (defScope s_opens_to) .none kV4 dc4 pm4 an4 cd4 ct4), sl4⟩) (c4 : PySem.W.codeIn K cd4 "opens_to" = true) (k4 : PySem.W.keepIn K (.ref f4) = true)
    {f5 : Addr} {od5 an5 : Option Addr} {sl5 : Array (Option Value)} {oc5 kV5 dc5 pm5 cd5 ct5 : Value} (a5 : PySem.W.nsIn K mainGlobals "leaves_to" = some (some (.ref f5))) (l5 : K.lookup f5 = some ⟨oc5, od5, .func (PySem.W.fnOf "leaves_to" "leaves_to" (defArgs s_leaves_to) (defBody s_leaves_to) (defScope s_leaves_to) .none kV5 dc5 pm5 an5 cd5 ct5), sl5⟩) (c5 : PySem.W.codeIn K cd5 "leaves_to" = true) (k5 : PySem.W.keepIn K (.ref f5) = true)
    {f6 : Addr} {od6 an6 : Option Addr} {sl6 : Array (Option Value)} {oc6 kV6 dc6 pm6 cd6 ct6 : Value} (a6 : PySem.W.nsIn K mainGlobals "open_at" = some (some (.ref f6))) (l6 : K.lookup f6 = some ⟨oc6, od6, .func (PySem.W.fnOf "open_at" "open_at" (defArgs s_open_at) (defBody s_open_at) (defScope s_open_at) .none kV6 dc6 pm6 an6 cd6 ct6), sl6⟩) (c6 : PySem.W.codeIn K cd6 "open_at" = true) (k6 : PySem.W.keepIn K (.ref f6) = true)
    {f7 : Addr} {od7 an7 : Option Addr} {sl7 : Array (Option Value)} {oc7 kV7 dc7 pm7 cd7 ct7 : Value} (a7 : PySem.W.nsIn K mainGlobals "leaves_at" = some (some (.ref f7))) (l7 : K.lookup f7 = some ⟨oc7, od7, .func (PySem.W.fnOf "leaves_at" "leaves_at" (defArgs s_leaves_at) (defBody s_leaves_at) (defScope s_leaves_at) .none kV7 dc7 pm7 an7 cd7 ct7), sl7⟩) (c7 : PySem.W.codeIn K cd7 "leaves_at" = true) (k7 : PySem.W.keepIn K (.ref f7) = true)
    {f8 : Addr} {od8 an8 : Option Addr} {sl8 : Array (Option Value)} {oc8 kV8 dc8 pm8 cd8 ct8 : Value} (a8 : PySem.W.nsIn K mainGlobals "open_round" = some (some (.ref f8))) (l8 : K.lookup f8 = some ⟨oc8, od8, .func (PySem.W.fnOf "open_round" "open_round" (defArgs s_open_round) (defBody s_open_round) (defScope s_open_round) .none kV8 dc8 pm8 an8 cd8 ct8), sl8⟩) (c8 : PySem.W.codeIn K cd8 "open_round" = true) (k8 : PySem.W.keepIn K (.ref f8) = true)
    {f9 : Addr} {od9 an9 : Option Addr} {sl9 : Array (Option Value)} {oc9 kV9 dc9 pm9 cd9 ct9 : Value} (a9 : PySem.W.nsIn K mainGlobals "row_back" = some (some (.ref f9))) (l9 : K.lookup f9 = some ⟨oc9, od9, .func (PySem.W.fnOf "row_back" "row_back" (defArgs s_row_back) (defBody s_row_back) (defScope s_row_back) .none kV9 dc9 pm9 an9 cd9 ct9), sl9⟩) (c9 : PySem.W.codeIn K cd9 "row_back" = true) (k9 : PySem.W.keepIn K (.ref f9) = true)
    {f10 : Addr} {od10 an10 : Option Addr} {sl10 : Array (Option Value)} {oc10 kV10 dc10 pm10 cd10 ct10 : Value} (a10 : PySem.W.nsIn K mainGlobals "rows_to" = some (some (.ref f10))) (l10 : K.lookup f10 = some ⟨oc10, od10, .func (PySem.W.fnOf "rows_to" "rows_to" (defArgs s_rows_to) (defBody s_rows_to) (defScope s_rows_to) .none kV10 dc10 pm10 an10 cd10 ct10), sl10⟩) (c10 : PySem.W.codeIn K cd10 "rows_to" = true) (k10 : PySem.W.keepIn K (.ref f10) = true)
    {f11 : Addr} {od11 an11 : Option Addr} {sl11 : Array (Option Value)} {oc11 kV11 dc11 pm11 cd11 ct11 : Value} (a11 : PySem.W.nsIn K mainGlobals "by_twos" = some (some (.ref f11))) (l11 : K.lookup f11 = some ⟨oc11, od11, .func (PySem.W.fnOf "by_twos" "by_twos" (defArgs s_by_twos) (defBody s_by_twos) (defScope s_by_twos) .none kV11 dc11 pm11 an11 cd11 ct11), sl11⟩) (c11 : PySem.W.codeIn K cd11 "by_twos" = true) (k11 : PySem.W.keepIn K (.ref f11) = true)
    {f12 : Addr} {od12 an12 : Option Addr} {sl12 : Array (Option Value)} {oc12 kV12 dc12 pm12 cd12 ct12 : Value} (a12 : PySem.W.nsIn K mainGlobals "mean_of" = some (some (.ref f12))) (l12 : K.lookup f12 = some ⟨oc12, od12, .func (PySem.W.fnOf "mean_of" "mean_of" (defArgs s_mean_of) (defBody s_mean_of) (defScope s_mean_of) .none kV12 dc12 pm12 an12 cd12 ct12), sl12⟩) (c12 : PySem.W.codeIn K cd12 "mean_of" = true) (k12 : PySem.W.keepIn K (.ref f12) = true)
    {f13 : Addr} {od13 an13 : Option Addr} {sl13 : Array (Option Value)} {oc13 kV13 dc13 pm13 cd13 ct13 : Value} (a13 : PySem.W.nsIn K mainGlobals "mean" = some (some (.ref f13))) (l13 : K.lookup f13 = some ⟨oc13, od13, .func (PySem.W.fnOf "mean" "mean" (defArgs s_mean) (defBody s_mean) (defScope s_mean) .none kV13 dc13 pm13 an13 cd13 ct13), sl13⟩) (c13 : PySem.W.codeIn K cd13 "mean" = true) (k13 : PySem.W.keepIn K (.ref f13) = true)
    {f14 : Addr} {od14 an14 : Option Addr} {sl14 : Array (Option Value)} {oc14 kV14 dc14 pm14 cd14 ct14 : Value} (a14 : PySem.W.nsIn K mainGlobals "mean_by" = some (some (.ref f14))) (l14 : K.lookup f14 = some ⟨oc14, od14, .func (PySem.W.fnOf "mean_by" "mean_by" (defArgs s_mean_by) (defBody s_mean_by) (defScope s_mean_by) .none kV14 dc14 pm14 an14 cd14 ct14), sl14⟩) (c14 : PySem.W.codeIn K cd14 "mean_by" = true) (k14 : PySem.W.keepIn K (.ref f14) = true)
    {f15 : Addr} {od15 an15 : Option Addr} {sl15 : Array (Option Value)} {oc15 kV15 dc15 pm15 cd15 ct15 : Value} (a15 : PySem.W.nsIn K mainGlobals "_law_deck" = some (some (.ref f15))) (l15 : K.lookup f15 = some ⟨oc15, od15, .func (PySem.W.fnOf "_law_deck" "_law_deck" (defArgs s_law_deck) (defBody s_law_deck) (defScope s_law_deck) .none kV15 dc15 pm15 an15 cd15 ct15), sl15⟩) (c15 : PySem.W.codeIn K cd15 "_law_deck" = true) (k15 : PySem.W.keepIn K (.ref f15) = true)
    {f16 : Addr} {od16 an16 : Option Addr} {sl16 : Array (Option Value)} {oc16 kV16 dc16 pm16 cd16 ct16 : Value} (a16 : PySem.W.nsIn K mainGlobals "_law_draw" = some (some (.ref f16))) (l16 : K.lookup f16 = some ⟨oc16, od16, .func (PySem.W.fnOf "_law_draw" "_law_draw" (defArgs s_law_draw) (defBody s_law_draw) (defScope s_law_draw) .none kV16 dc16 pm16 an16 cd16 ct16), sl16⟩) (c16 : PySem.W.codeIn K cd16 "_law_draw" = true) (k16 : PySem.W.keepIn K (.ref f16) = true)
    {f17 : Addr} {od17 an17 : Option Addr} {sl17 : Array (Option Value)} {oc17 kV17 dc17 pm17 cd17 ct17 : Value} (a17 : PySem.W.nsIn K mainGlobals "_law_pick" = some (some (.ref f17))) (l17 : K.lookup f17 = some ⟨oc17, od17, .func (PySem.W.fnOf "_law_pick" "_law_pick" (defArgs s_law_pick) (defBody s_law_pick) (defScope s_law_pick) .none kV17 dc17 pm17 an17 cd17 ct17), sl17⟩) (c17 : PySem.W.codeIn K cd17 "_law_pick" = true) (k17 : PySem.W.keepIn K (.ref f17) = true)
    {f18 : Addr} {od18 an18 : Option Addr} {sl18 : Array (Option Value)} {oc18 kV18 dc18 pm18 cd18 ct18 : Value} (a18 : PySem.W.nsIn K mainGlobals "_law_twos" = some (some (.ref f18))) (l18 : K.lookup f18 = some ⟨oc18, od18, .func (PySem.W.fnOf "_law_twos" "_law_twos" (defArgs s_law_twos) (defBody s_law_twos) (defScope s_law_twos) .none kV18 dc18 pm18 an18 cd18 ct18), sl18⟩) (c18 : PySem.W.codeIn K cd18 "_law_twos" = true) (k18 : PySem.W.keepIn K (.ref f18) = true)
    {f19 : Addr} {od19 an19 : Option Addr} {sl19 : Array (Option Value)} {oc19 kV19 dc19 pm19 cd19 ct19 : Value} (a19 : PySem.W.nsIn K mainGlobals "_law_ratio" = some (some (.ref f19))) (l19 : K.lookup f19 = some ⟨oc19, od19, .func (PySem.W.fnOf "_law_ratio" "_law_ratio" (defArgs s_law_ratio) (defBody s_law_ratio) (defScope s_law_ratio) .none kV19 dc19 pm19 an19 cd19 ct19), sl19⟩) (c19 : PySem.W.codeIn K cd19 "_law_ratio" = true) (k19 : PySem.W.keepIn K (.ref f19) = true)
    {f20 : Addr} {od20 an20 : Option Addr} {sl20 : Array (Option Value)} {oc20 kV20 dc20 pm20 cd20 ct20 : Value} (a20 : PySem.W.nsIn K mainGlobals "_law_summed" = some (some (.ref f20))) (l20 : K.lookup f20 = some ⟨oc20, od20, .func (PySem.W.fnOf "_law_summed" "_law_summed" (defArgs s_law_summed) (defBody s_law_summed) (defScope s_law_summed) .none kV20 dc20 pm20 an20 cd20 ct20), sl20⟩) (c20 : PySem.W.codeIn K cd20 "_law_summed" = true) (k20 : PySem.W.keepIn K (.ref f20) = true)
    {f21 : Addr} {od21 an21 : Option Addr} {sl21 : Array (Option Value)} {oc21 kV21 dc21 pm21 cd21 ct21 : Value} (a21 : PySem.W.nsIn K mainGlobals "_law_mean_by" = some (some (.ref f21))) (l21 : K.lookup f21 = some ⟨oc21, od21, .func (PySem.W.fnOf "_law_mean_by" "_law_mean_by" (defArgs s_law_mean_by) (defBody s_law_mean_by) (defScope s_law_mean_by) .none kV21 dc21 pm21 an21 cd21 ct21), sl21⟩) (c21 : PySem.W.codeIn K cd21 "_law_mean_by" = true) (k21 : PySem.W.keepIn K (.ref f21) = true)
    {f22 : Addr} {od22 an22 : Option Addr} {sl22 : Array (Option Value)} {oc22 kV22 dc22 pm22 cd22 ct22 : Value} (a22 : PySem.W.nsIn K mainGlobals "_law_round" = some (some (.ref f22))) (l22 : K.lookup f22 = some ⟨oc22, od22, .func (PySem.W.fnOf "_law_round" "_law_round" (defArgs s_law_round) (defBody s_law_round) (defScope s_law_round) .none kV22 dc22 pm22 an22 cd22 ct22), sl22⟩) (c22 : PySem.W.codeIn K cd22 "_law_round" = true) (k22 : PySem.W.keepIn K (.ref f22) = true)
    {f23 : Addr} {od23 an23 : Option Addr} {sl23 : Array (Option Value)} {oc23 kV23 dc23 pm23 cd23 ct23 : Value} (a23 : PySem.W.nsIn K mainGlobals "_law_rows_right" = some (some (.ref f23))) (l23 : K.lookup f23 = some ⟨oc23, od23, .func (PySem.W.fnOf "_law_rows_right" "_law_rows_right" (defArgs s_law_rows_right) (defBody s_law_rows_right) (defScope s_law_rows_right) .none kV23 dc23 pm23 an23 cd23 ct23), sl23⟩) (c23 : PySem.W.codeIn K cd23 "_law_rows_right" = true) (k23 : PySem.W.keepIn K (.ref f23) = true)
    {f24 : Addr} {od24 an24 : Option Addr} {sl24 : Array (Option Value)} {oc24 kV24 dc24 pm24 cd24 ct24 : Value} (a24 : PySem.W.nsIn K mainGlobals "_law_sums_right" = some (some (.ref f24))) (l24 : K.lookup f24 = some ⟨oc24, od24, .func (PySem.W.fnOf "_law_sums_right" "_law_sums_right" (defArgs s_law_sums_right) (defBody s_law_sums_right) (defScope s_law_sums_right) .none kV24 dc24 pm24 an24 cd24 ct24), sl24⟩) (c24 : PySem.W.codeIn K cd24 "_law_sums_right" = true) (k24 : PySem.W.keepIn K (.ref f24) = true)
    {f25 : Addr} {od25 an25 : Option Addr} {sl25 : Array (Option Value)} {oc25 kV25 dc25 pm25 cd25 ct25 : Value} (a25 : PySem.W.nsIn K mainGlobals "law" = some (some (.ref f25))) (l25 : K.lookup f25 = some ⟨oc25, od25, .func (PySem.W.fnOf "law" "law" (defArgs s_law) (defBody s_law) (defScope s_law) .none kV25 dc25 pm25 an25 cd25 ct25), sl25⟩) (c25 : PySem.W.codeIn K cd25 "law" = true) (k25 : PySem.W.keepIn K (.ref f25) = true)
    {a_NOUGHT : Addr} (gc0 : PySem.W.nsIn K mainGlobals "NOUGHT" = some (some (.ref a_NOUGHT)))
    {od_NOUGHT : Option Addr} {n_NOUGHT : Nat} {sl_NOUGHT : Array (Option Value)} {tt_NOUGHT_0 tt_NOUGHT_1 : Tok} (lt_NOUGHT : K.lookup a_NOUGHT = some ⟨.type "tuple", od_NOUGHT, .seq #[.int 0 tt_NOUGHT_0, .int 1 tt_NOUGHT_1] n_NOUGHT, sl_NOUGHT⟩)
    {t_DRAWN : Tok} (gc1 : PySem.W.nsIn K mainGlobals "DRAWN" = some (some (.str "drawn" t_DRAWN)))
    {t_OPEN : Tok} (gc2 : PySem.W.nsIn K mainGlobals "OPEN" = some (some (.str "open" t_OPEN)))
    (z0 : PySem.W.nsIn K mainGlobals "len" = some none)
    (z1 : PySem.W.nsIn K mainGlobals "range" = some none)
    (z2 : PySem.W.nsIn K mainGlobals "enumerate" = some none)
    (z3 : PySem.W.nsIn K mainGlobals "zip" = some none)
    (z4 : PySem.W.nsIn K mainGlobals "repr" = some none)
    (z5 : PySem.W.nsIn K mainGlobals "int" = some none)
    (z6 : PySem.W.nsIn K mainGlobals "list" = some none)
    (z7 : PySem.W.nsIn K mainGlobals "tuple" = some none)
    (z8 : PySem.W.nsIn K mainGlobals "isinstance" = some none)
    (z9 : PySem.W.nsIn K mainGlobals "bool" = some none)
    (z10 : PySem.W.nsIn K mainGlobals "str" = some none)
    (z11 : PySem.W.nsIn K mainGlobals "dict" = some none)
    (z12 : PySem.W.nsIn K mainGlobals "abs" = some none)
    (z13 : PySem.W.nsIn K mainGlobals "max" = some none)
    (z14 : PySem.W.nsIn K mainGlobals "min" = some none)
    (z15 : PySem.W.nsIn K mainGlobals "all" = some none)
    (z16 : PySem.W.nsIn K mainGlobals "any" = some none)
    (z17 : PySem.W.nsIn K mainGlobals "sum" = some none)
    (z18 : PySem.W.nsIn K mainGlobals "set" = some none)
    (z19 : PySem.W.nsIn K mainGlobals "sorted" = some none) :
    ∃ fd : FuncData, (∀ (s : Shared) (v : Value), BindsTo s fd ⟨[v], []⟩ [("_law_script", v)]) ∧ ∀ base : Heap, K.In base → base.Ns mainGlobals mg → FnG l.prog w K mg base 6 fa fd ["_law_script"] (PL.spL K) := by
  have e := hfa.symm.trans (PySem.W.mg_of X G a25)
  cases e
  have F0 := fun_mk (st := s_common_part) l0 c0 k0
  have m0 := PySem.W.mg_of X G a0
  have F1 := fun_mk (st := s_fraction) l1 c1 k1
  have m1 := PySem.W.mg_of X G a1
  have F2 := fun_mk (st := s_power) l2 c2 k2
  have m2 := PySem.W.mg_of X G a2
  have F3 := fun_mk (st := s_draw) l3 c3 k3
  have m3 := PySem.W.mg_of X G a3
  have F4 := fun_mk (st := s_opens_to) l4 c4 k4
  have m4 := PySem.W.mg_of X G a4
  have F5 := fun_mk (st := s_leaves_to) l5 c5 k5
  have m5 := PySem.W.mg_of X G a5
  have F6 := fun_mk (st := s_open_at) l6 c6 k6
  have m6 := PySem.W.mg_of X G a6
  have F7 := fun_mk (st := s_leaves_at) l7 c7 k7
  have m7 := PySem.W.mg_of X G a7
  have F8 := fun_mk (st := s_open_round) l8 c8 k8
  have m8 := PySem.W.mg_of X G a8
  have F9 := fun_mk (st := s_row_back) l9 c9 k9
  have m9 := PySem.W.mg_of X G a9
  have F10 := fun_mk (st := s_rows_to) l10 c10 k10
  have m10 := PySem.W.mg_of X G a10
  have F11 := fun_mk (st := s_by_twos) l11 c11 k11
  have m11 := PySem.W.mg_of X G a11
  have F12 := fun_mk (st := s_mean_of) l12 c12 k12
  have m12 := PySem.W.mg_of X G a12
  have F13 := fun_mk (st := s_mean) l13 c13 k13
  have m13 := PySem.W.mg_of X G a13
  have F14 := fun_mk (st := s_mean_by) l14 c14 k14
  have m14 := PySem.W.mg_of X G a14
  have F15 := fun_mk (st := s_law_deck) l15 c15 k15
  have m15 := PySem.W.mg_of X G a15
  have F16 := fun_mk (st := s_law_draw) l16 c16 k16
  have m16 := PySem.W.mg_of X G a16
  have F17 := fun_mk (st := s_law_pick) l17 c17 k17
  have m17 := PySem.W.mg_of X G a17
  have F18 := fun_mk (st := s_law_twos) l18 c18 k18
  have m18 := PySem.W.mg_of X G a18
  have F19 := fun_mk (st := s_law_ratio) l19 c19 k19
  have m19 := PySem.W.mg_of X G a19
  have F20 := fun_mk (st := s_law_summed) l20 c20 k20
  have m20 := PySem.W.mg_of X G a20
  have F21 := fun_mk (st := s_law_mean_by) l21 c21 k21
  have m21 := PySem.W.mg_of X G a21
  have F22 := fun_mk (st := s_law_round) l22 c22 k22
  have m22 := PySem.W.mg_of X G a22
  have F23 := fun_mk (st := s_law_rows_right) l23 c23 k23
  have m23 := PySem.W.mg_of X G a23
  have F24 := fun_mk (st := s_law_sums_right) l24 c24 k24
  have m24 := PySem.W.mg_of X G a24
  have F25 := fun_mk (st := s_law) l25 c25 k25
  have m25 := PySem.W.mg_of X G a25
  have c_NOUGHT := PySem.W.mg_of X G gc0
  have c_DRAWN := PySem.W.mg_of X G gc1
  have c_OPEN := PySem.W.mg_of X G gc2
  have q_NOUGHT : SqT K (fun _ => none) a_NOUGHT [.int 0, .int 1] := .inr ⟨_, _, _, lt_NOUGHT, rfl, rfl, by show 2 ≤ sizeLine; decide, (.cons ⟨_, rfl⟩ (.cons ⟨_, rfl⟩ .nil))⟩
  have B : BI mg := ⟨PySem.W.mg_none_of X G z0, PySem.W.mg_none_of X G z1, PySem.W.mg_none_of X G z2, PySem.W.mg_none_of X G z3, PySem.W.mg_none_of X G z4, PySem.W.mg_none_of X G z5, PySem.W.mg_none_of X G z6, PySem.W.mg_none_of X G z7, PySem.W.mg_none_of X G z8, PySem.W.mg_none_of X G z9, PySem.W.mg_none_of X G z10, PySem.W.mg_none_of X G z11, PySem.W.mg_none_of X G z12, PySem.W.mg_none_of X G z13, PySem.W.mg_none_of X G z14, PySem.W.mg_none_of X G z15, PySem.W.mg_none_of X G z16, PySem.W.mg_none_of X G z17, PySem.W.mg_none_of X G z18, PySem.W.mg_none_of X G z19⟩
  refine ⟨PySem.W.fnOf "law" "law" (defArgs s_law) (defBody s_law) (defScope s_law) .none kV25 dc25 pm25 an25 cd25 ct25, fun s v => .of_eq rfl, fun base _ _ => ?_⟩
  have h_common_part := ok_common_part (P := l.prog) (w := w) (base := base) F0 m0 B
  have h_power := ok_power (P := l.prog) (w := w) (base := base) F2 m2 B
  have h_draw := ok_draw (P := l.prog) (w := w) (base := base) F3 m3 B c_OPEN c_DRAWN
  have h_opens_to := ok_opens_to (P := l.prog) (w := w) (base := base) F4 m4 B
  have h_open_round := ok_open_round (P := l.prog) (w := w) (base := base) F8 m8 B
  have h_row_back := ok_row_back (P := l.prog) (w := w) (base := base) F9 m9 B
  have h_by_twos := ok_by_twos (P := l.prog) (w := w) (base := base) F11 m11 B
  have D0 := deck_ok (P := l.prog) (w := w) (base := base) F15 B
  have h_law_draw := ok_law_draw (P := l.prog) (w := w) (base := base) F16 m16 B
  have h_law_twos := ok_law_twos (P := l.prog) (w := w) (base := base) F18 m18 B
  have h_law_ratio := ok_law_ratio (P := l.prog) (w := w) (base := base) F19 m19 B
  have h_law_summed := ok_law_summed (P := l.prog) (w := w) (base := base) F20 m20 B
  have h_law_round := ok_law_round (P := l.prog) (w := w) (base := base) F22 m22 B
  have h_fraction := ok_fraction (P := l.prog) (w := w) (base := base) F1 m1 B h_common_part
  have h_leaves_to := ok_leaves_to (P := l.prog) (w := w) (base := base) F5 m5 B h_opens_to
  have h_open_at := ok_open_at (P := l.prog) (w := w) (base := base) F6 m6 B h_opens_to
  have h_law_pick := ok_law_pick (P := l.prog) (w := w) (base := base) F17 m17 B h_law_draw
  have h_law_mean_by := ok_law_mean_by (P := l.prog) (w := w) (base := base) F21 m21 B h_law_ratio h_law_summed h_law_twos
  have h_leaves_at := ok_leaves_at (P := l.prog) (w := w) (base := base) F7 m7 B h_leaves_to
  have h_rows_to := ok_rows_to (P := l.prog) (w := w) (base := base) F10 m10 B h_leaves_to h_row_back
  have h_mean_of := ok_mean_of (P := l.prog) (w := w) (base := base) F12 m12 B h_fraction h_by_twos h_power
  have h_mean := ok_mean (P := l.prog) (w := w) (base := base) F13 m13 B h_open_round h_mean_of h_opens_to
  have h_mean_by := ok_mean_by (P := l.prog) (w := w) (base := base) F14 m14 B c_NOUGHT q_NOUGHT h_open_round h_mean_of
  have h_law_rows_right := ok_law_rows_right (P := l.prog) (w := w) (base := base) F23 m23 B h_rows_to h_law_twos h_draw
  have h_law_sums_right := ok_law_sums_right (P := l.prog) (w := w) (base := base) F24 m24 B h_law_mean_by h_law_ratio h_law_twos h_mean h_open_at h_leaves_at
  exact ok_law (P := l.prog) (w := w) (base := base) F25 B D0 m15 k15 (F15.binds (ps := ["_law_script"]) fun _ _ _ _ _ _ us hl => match us, hl with | [_], _ => rfl) h_law_pick h_law_round h_law_rows_right h_open_at h_law_sums_right h_mean_by h_law_draw h_mean h_open_round
end K41
open PySem PySem.W PyProof.Rows
set_option maxRecDepth 100000 in
set_option maxHeartbeats 0 in
theorem PySem.Challenge.cw_serialhouse_k41_whole_rows_rounds_and_me_holds : PySem.Challenge.rw_serialhouse_k41_whole_rows_rounds_and_me.Holds := by
  w_on; o_law; k_head; (case hw => w_witness2)
  k_fill
  refine PL.walk_g (l := PySem.Challenge.rw_serialhouse_k41_whole_rows_rounds_and_me) (n := 63) (k := 6) (x := "_law_script") (sp := fun w => PL.spL _) rfl (by decide) rfl ⟨rfl, by decide, by decide⟩ (fun w h Y => PySem.W.kIn_of Y) ?F (fun _ _ a ns hl hO hS => ⟨a, ns, rfl, hO, hS, hl, fun _ => rfl⟩)
  case F =>
    intro w mg fa h KX G hmg
    refine' K41.all_mk KX G hmg ?a0 ?l0 ?c0 ?k0 ?a1 ?l1 ?c1 ?k1 ?a2 ?l2 ?c2 ?k2 ?a3 ?l3 ?c3 ?k3 ?a4 ?l4 ?c4 ?k4 ?a5 ?l5 ?c5 ?k5 ?a6 ?l6 ?c6 ?k6 ?a7 ?l7 ?c7 ?k7 ?a8 ?l8 ?c8 ?k8 ?a9 ?l9 ?c9 ?k9 ?a10 ?l10 ?c10 ?k10 ?a11 ?l11 ?c11 ?k11 ?a12 ?l12 ?c12 ?k12 ?a13 ?l13 ?c13 ?k13 ?a14 ?l14 ?c14 ?k14 ?a15 ?l15 ?c15 ?k15 ?a16 ?l16 ?c16 ?k16 ?a17 ?l17 ?c17 ?k17 ?a18 ?l18 ?c18 ?k18 ?a19 ?l19 ?c19 ?k19 ?a20 ?l20 ?c20 ?k20 ?a21 ?l21 ?c21 ?k21 ?a22 ?l22 ?c22 ?k22 ?a23 ?l23 ?c23 ?k23 ?a24 ?l24 ?c24 ?k24 ?a25 ?l25 ?c25 ?k25 ?gc0 ?gc1 ?gc2 ?lt_NOUGHT ?z0 ?z1 ?z2 ?z3 ?z4 ?z5 ?z6 ?z7 ?z8 ?z9 ?z10 ?z11 ?z12 ?z13 ?z14 ?z15 ?z16 ?z17 ?z18 ?z19
    (case a0 => k_is); (case l0 => k_is); (case c0 => k_is); (case k0 => k_is); (case a1 => k_is); (case l1 => k_is); (case c1 => k_is); (case k1 => k_is); (case a2 => k_is); (case l2 => k_is); (case c2 => k_is); (case k2 => k_is); (case a3 => k_is); (case l3 => k_is); (case c3 => k_is); (case k3 => k_is); (case a4 => k_is); (case l4 => k_is); (case c4 => k_is); (case k4 => k_is); (case a5 => k_is); (case l5 => k_is); (case c5 => k_is); (case k5 => k_is); (case a6 => k_is); (case l6 => k_is); (case c6 => k_is); (case k6 => k_is); (case a7 => k_is); (case l7 => k_is); (case c7 => k_is); (case k7 => k_is); (case a8 => k_is); (case l8 => k_is); (case c8 => k_is); (case k8 => k_is); (case a9 => k_is); (case l9 => k_is); (case c9 => k_is); (case k9 => k_is); (case a10 => k_is); (case l10 => k_is); (case c10 => k_is); (case k10 => k_is); (case a11 => k_is); (case l11 => k_is); (case c11 => k_is); (case k11 => k_is); (case a12 => k_is); (case l12 => k_is); (case c12 => k_is); (case k12 => k_is); (case a13 => k_is); (case l13 => k_is); (case c13 => k_is); (case k13 => k_is); (case a14 => k_is); (case l14 => k_is); (case c14 => k_is); (case k14 => k_is); (case a15 => k_is); (case l15 => k_is); (case c15 => k_is); (case k15 => k_is); (case a16 => k_is); (case l16 => k_is); (case c16 => k_is); (case k16 => k_is); (case a17 => k_is); (case l17 => k_is); (case c17 => k_is); (case k17 => k_is); (case a18 => k_is); (case l18 => k_is); (case c18 => k_is); (case k18 => k_is); (case a19 => k_is); (case l19 => k_is); (case c19 => k_is); (case k19 => k_is); (case a20 => k_is); (case l20 => k_is); (case c20 => k_is); (case k20 => k_is); (case a21 => k_is); (case l21 => k_is); (case c21 => k_is); (case k21 => k_is); (case a22 => k_is); (case l22 => k_is); (case c22 => k_is); (case k22 => k_is); (case a23 => k_is); (case l23 => k_is); (case c23 => k_is); (case k23 => k_is); (case a24 => k_is); (case l24 => k_is); (case c24 => k_is); (case k24 => k_is); (case a25 => k_is); (case l25 => k_is); (case c25 => k_is); (case k25 => k_is); (case gc0 => k_is); (case gc1 => k_is); (case gc2 => k_is); (case lt_NOUGHT => k_is); (case z0 => k_is); (case z1 => k_is); (case z2 => k_is); (case z3 => k_is); (case z4 => k_is); (case z5 => k_is); (case z6 => k_is); (case z7 => k_is); (case z8 => k_is); (case z9 => k_is); (case z10 => k_is); (case z11 => k_is); (case z12 => k_is); (case z13 => k_is); (case z14 => k_is); (case z15 => k_is); (case z16 => k_is); (case z17 => k_is); (case z18 => k_is); (case z19 => k_is)

