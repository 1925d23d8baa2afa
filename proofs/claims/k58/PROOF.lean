import PyProof.Rows.All
import Wide.All
import OpenK.AllK
import Wide.FinOn
import HandS.ForMost
import HandS.Style
import HandS.IsInst
import HandS.FStr
import HandS.TupAny
import HandS.Wide
import KE.GoesNew
import KE.GoesMore
import KE.GoesEnumKw
import HandS.Zip
import PyProof.ReprBulk
import HandS.TupMul
import HandS.WordsDict
import KE.KTupSum
import HandS.SetFor
import PyProof.Rows.SortStr
import HandS.Strs
import HandS.TupLe
import HandS.SortInts
import HandS.DictComp
import HandS.SetKeys
import PyProof.DictMoreH
import PyProof.ReprRoads
import PyProof.Rows.Digits
import HandS.Exc
import HandS.ExcSuper
import KE.KSuper
import HandS.ExcField
import HandS.WordsExc
import KE.KExcIs
import HandS.Iter
import HandS.SortRule
import KE.KRevSl
import HandS.Set
import HandS.SetBool
import OpenK.KMeth
import HandS.NoneIn
import HandS.Conv
import PySem.Challenge.RW_serialhouse_k58_lots_of_lengths
set_option Elab.async false
set_option linter.all false
set_option autoImplicit false
set_option maxRecDepth 100000
set_option maxHeartbeats 4000000
/-! PL: a pure layer over the hand layer. Data D, cells, the relation Ok, and lifted readings. -/
namespace PL
open PySem PySem.Spec L2

inductive D where
  | non | bl (b : Bool) | int (i : Int) | str (s : Str)
  | lst (ds : List D) | tup (ds : List D) | dic (ks : List Key) (ds : List D) | dit (ks : List (List Key)) (ds : List D)
  | obj (k : Nat) (fs : List D) | res

/-- the classes of the program that are known, by number: the name, the attributes as __init__ puts them -/
def CM0 : Nat → Str
  | 0 => "Format" | 1 => "Sheet" | 2 => "Code" | 3 => "Lengths" | _ => ""
def CN0 : Nat → List Str
  | 0 => ["size", "moves", "ends", "letters", "useful", "sheet", "step_by_key", "known_by_word"]
  | 1 => ["size", "moves", "ends", "letters", "goals_by_key"]
  | 2 => ["letters", "words"]
  | 3 => ["around", "rests", "first", "few"]
  | _ => []
/-- a number from 1000 on tells where an instance stands, too -/
def CM (k : Nat) : Str := CM0 (k % 1000)
def CN (k : Nat) : List Str := CN0 (k % 1000)
/-- the errors of the program, by number: the name, the field -/
def ERN : Nat → Str × Str
  | 0 => ("BadFormat", "part") | 1 => ("BadSheet", "part") | 2 => ("BadText", "place") | 3 => ("BadLetters", "pairs") | 4 => ("NotIn", "word") | 5 => ("TooLong", "most")
  | 6 => ("UnlikeRows", "length") | 7 => ("NoWords", "length") | 8 => ("Endless", "paper") | 9 => ("Uneven", "shares") | 10 => ("BadCode", "part") | 11 => ("TwoWays", "paper")
  | 12 => ("NoMessage", "place") | 14 => ("TooMuch", "share") | 15 => ("BadLot", "part") | 16 => ("TooFar", "most") | 17 => ("TooMany", "most") | 18 => ("Doubles", "paper")
  | 19 => ("NotThin", "paper") | 20 => ("BadName", "name") | 21 => ("NameTaken", "name") | 22 => ("NoBook", "name") | 23 => ("NoName", "name") | 24 => ("NoWordLeft", "name")
  | 25 => ("IssuedBefore", "word") | 26 => ("NotDrawn", "tosses") | 27 => ("NotInForce", "word") | 28 => ("BadSign", "sign") | 29 => ("StillInForce", "word") | 30 => ("BadDeed", "number") | _ => ("", "")
/-- where a class stands -/
def clsOf (K : PySem.W.Frag) (k : Nat) : Option Addr := match PySem.W.nsIn K mainGlobals (CM k) with | some (some (.ref C)) => some C | _ => none
def clsX (K : PySem.W.Frag) (k : Nat) : Option Addr := match PySem.W.nsIn K mainGlobals (ERN k).1 with | some (some (.ref C)) => some C | _ => none
/-- an error that is held, at a, its dict at da, with what it bears -/
abbrev D.exc (k : Nat) (a da : Addr) (d : D) : D := .obj (k * 1000 + 999) [.int (a : Nat), .int (da : Nat), d]
/-- of which nothing is known -/
abbrev D.opq : D := .obj 999 []
/-- what is fixed through a law: the written part, the classes, the deck (its dict, its list) -/
structure Cfg where
  K : PySem.W.Frag
  dd : Addr
  de : Addr

mutual
inductive Rep (c : Cfg) (F : Hp) : V → D → Prop
  | non : Rep c F .non .non
  | bl (b : Bool) : Rep c F (.bl b) (.bl b)
  | int (i : Int) : Rep c F (.int i) (.int i)
  | str (x : Str) : Rep c F (.str x) (.str x)
  | lst {a : Addr} {xs : List V} {ds : List D} : F a = some (.lst xs) → Reps c F xs ds → Rep c F (.ref a) (.lst ds)
  | tup {a : Addr} {xs : List V} {ds : List D} : SqT c.K F a xs → Reps c F xs ds → Rep c F (.ref a) (.tup ds)
  | dic {a : Addr} {ks : List Key} {xs : List V} {ds : List D} : F a = some (.dK (ks.zip xs)) → ks.length = xs.length → Reps c F xs ds → Rep c F (.ref a) (.dic ks ds)
  | dit {a : Addr} {ks : List (List Key)} {xs : List V} {ds : List D} : F a = some (.dT (ks.zip xs)) → ks.length = xs.length → Reps c F xs ds → Rep c F (.ref a) (.dit ks ds)
  | obj {a C dx : Addr} {k : Nat} {xs : List V} {ds : List D} : clsOf c.K k = some C → F a = some (.ins C dx (((CN k).take ds.length).zip xs)) → ds.length ≤ (CN k).length → Reps c F xs ds → Rep c F (.ref a) (.obj k ds)
  | opq {v : V} : Rep c F v .opq
  | exc {a da : Addr} {k : Nat} {v : V} {d : D} : F da = some (.xd [((ERN k).2, v)]) → Rep c F v d → Rep c F (.ref a) (.exc k a da d)
  | res : Rep c F (.ref c.dd) .res
inductive Reps (c : Cfg) (F : Hp) : List V → List D → Prop
  | nil : Reps c F [] []
  | cons {v : V} {vs : List V} {d : D} {ds : List D} : Rep c F v d → Reps c F vs ds → Reps c F (v :: vs) (d :: ds)
end

theorem Same.seqT {K : PySem.W.Frag} {H H' : Hp} {a : Addr} {xs : List V} (e : Same H H') (h : SqT K H a xs) : SqT K H' a xs := by
  rcases h with h | h
  · rcases h with h | ⟨o, h⟩
    · exact .inl (.inl (e _ _ h))
    · exact .inl (.inr ⟨o, e _ _ h⟩)
  · exact .inr h

mutual
theorem Rep.mono {c : Cfg} {F F' : Hp} (s : Same F F') : ∀ {v : V} {d : D}, Rep c F v d → Rep c F' v d
  | _, _, .non => .non
  | _, _, .bl b => .bl b
  | _, _, .int i => .int i
  | _, _, .str x => .str x
  | _, _, .lst h r => .lst (s _ _ h) (Reps.mono s r)
  | _, _, .tup h r => .tup (Same.seqT s h) (Reps.mono s r)
  | _, _, .dic h l r => .dic (s _ _ h) l (Reps.mono s r)
  | _, _, .dit h l r => .dit (s _ _ h) l (Reps.mono s r)
  | _, _, .obj e h l r => .obj e (s _ _ h) l (Reps.mono s r)
  | _, _, .opq => .opq
  | _, _, .exc h r => .exc (s _ _ h) (Rep.mono s r)
  | _, _, .res => .res
theorem Reps.mono {c : Cfg} {F F' : Hp} (s : Same F F') : ∀ {vs : List V} {ds : List D}, Reps c F vs ds → Reps c F' vs ds
  | _, _, .nil => .nil
  | _, _, .cons h t => .cons (Rep.mono s h) (Reps.mono s t)
end
section
variable {c : Cfg} {F : Hp}
theorem Reps.length : ∀ {vs : List V} {ds : List D}, Reps c F vs ds → vs.length = ds.length
  | _, _, .nil => rfl
  | _, _, .cons _ t => congrArg (· + 1) (Reps.length t)
theorem Reps.get : ∀ {vs : List V} {ds : List D} {i : Nat} {d : D}, Reps c F vs ds → ds[i]? = some d → ∃ v, vs[i]? = some v ∧ Rep c F v d
  | _, _, _, _, .nil, e => by simp at e
  | _, _, 0, _, .cons r _, e => by simp at e; subst e; exact ⟨_, rfl, r⟩
  | _, _, i + 1, d, .cons _ t, e => by
    obtain ⟨u, h1, h2⟩ := Reps.get (i := i) (d := d) t (by simpa using e)
    exact ⟨u, by simpa using h1, h2⟩
theorem Reps.getV : ∀ {vs : List V} {ds : List D} {i : Nat} {v : V}, Reps c F vs ds → vs[i]? = some v → ∃ d, ds[i]? = some d ∧ Rep c F v d
  | _, _, _, _, .nil, e => by simp at e
  | _, _, 0, _, .cons r _, e => by simp at e; subst e; exact ⟨_, rfl, r⟩
  | _, _, i + 1, v, .cons _ t, e => by
    obtain ⟨u, h1, h2⟩ := Reps.getV (i := i) (v := v) t (by simpa using e)
    exact ⟨u, by simpa using h1, h2⟩
theorem Reps.append : ∀ {xs ys : List V} {ds es : List D}, Reps c F xs ds → Reps c F ys es → Reps c F (xs ++ ys) (ds ++ es)
  | _, _, _, _, .nil, s => s
  | _, _, _, _, .cons r t, s => .cons r (Reps.append t s)
theorem Reps.take : ∀ {xs : List V} {ds : List D} (n : Nat), Reps c F xs ds → Reps c F (xs.take n) (ds.take n)
  | _, _, 0, _ => .nil
  | _, _, _ + 1, .nil => .nil
  | _, _, n + 1, .cons r t => .cons r (Reps.take n t)
theorem Reps.drop : ∀ {xs : List V} {ds : List D} (n : Nat), Reps c F xs ds → Reps c F (xs.drop n) (ds.drop n)
  | _, _, 0, r => r
  | _, _, _ + 1, .nil => .nil
  | _, _, n + 1, .cons _ t => Reps.drop n t
theorem Reps.set {v : V} {d : D} (r : Rep c F v d) : ∀ {xs : List V} {ds : List D} (i : Nat), Reps c F xs ds → Reps c F (xs.set i v) (ds.set i d)
  | _, _, _, .nil => .nil
  | _, _, 0, .cons _ t => .cons r t
  | _, _, i + 1, .cons q t => .cons q (Reps.set r i t)
theorem Reps.reverse : ∀ {xs : List V} {ds : List D}, Reps c F xs ds → Reps c F xs.reverse ds.reverse
  | _, _, .nil => .nil
  | _, _, .cons r t => by
    rw [List.reverse_cons, List.reverse_cons]
    exact (Reps.reverse t).append (.cons r .nil)
theorem Reps.dropLast {xs : List V} {ds : List D} (r : Reps c F xs ds) : Reps c F xs.dropLast ds.dropLast := by
  rw [List.dropLast_eq_take, List.dropLast_eq_take, r.length]
  exact r.take _
theorem Reps.rep {xs : List V} {ds : List D} (r : Reps c F xs ds) : ∀ k : Nat, Reps c F (List.replicate k xs).flatten (List.replicate k ds).flatten
  | 0 => .nil
  | k + 1 => by
    rw [List.replicate_succ, List.replicate_succ, List.flatten_cons, List.flatten_cons]
    exact r.append (Reps.rep r k)
theorem Reps.ints : ∀ {ns : List Int}, Reps c F (ns.map V.int) (ns.map D.int)
  | [] => .nil
  | _ :: _ => .cons (.int _) Reps.ints
end

/-- a local name: nothing is known of it; shared data; a container of one's own (a list, a dict) -/
inductive Cell where
  | any | sh (d : D) | own (d : D)

/-- the contents of a container -/
inductive Cont (c : Cfg) (F : Hp) (a : Addr) : HO → D → Prop
  | lst {xs : List V} {ds : List D} : Reps c F xs ds → Cont c F a (.lst xs) (.lst ds)
  | dic {ks : List Key} {xs : List V} {ds : List D} : ks.length = xs.length → Reps c F xs ds → Cont c F a (.dK (ks.zip xs)) (.dic ks ds)
  | dit {ks : List (List Key)} {xs : List V} {ds : List D} : ks.length = xs.length → Reps c F xs ds → Cont c F a (.dT (ks.zip xs)) (.dit ks ds)
  | obj {C dx : Addr} {k : Nat} {xs : List V} {ds : List D} : (1000 ≤ k → k / 1000 = a + 1) → clsOf c.K k = some C → ds.length ≤ (CN k).length → Reps c F xs ds → Cont c F a (.ins C dx (((CN k).take ds.length).zip xs)) (.obj k ds)
theorem Cont.mono {c : Cfg} {F F' : Hp} (s : Same F F') {a : Addr} {o : HO} {d : D} (h : Cont c F a o d) : Cont c F' a o d := by
  cases h with
  | lst r => exact .lst (r.mono s)
  | dic l r => exact .dic l (r.mono s)
  | dit l r => exact .dit l (r.mono s)
  | obj z e l r => exact .obj z e l (r.mono s)
theorem Cont.rep {c : Cfg} {F : Hp} {o : HO} {d : D} {a : Addr} (h : Cont c F a o d) (e : F a = some o) : Rep c F (.ref a) d := by
  cases h with
  | lst r => exact .lst e r
  | dic l r => exact .dic e l r
  | dit l r => exact .dit e l r
  | obj z q l r => exact .obj q e l r

/-- the deck's keys: they hang on the law -/
def NM : Str × Str × Str := ("cells", "mixed", "turn")
/-- the most draws that are let -/
def lim : Nat := 2 ^ 40
def DeckAt (c : Cfg) (n : Nat) (H : Hp) : Prop := c.dd ≠ c.de ∧ ∃ (cs : List Int) (m k : Int),
  H c.dd = some (.dK [(.inr NM.1, .ref c.de), (.inr NM.2.1, .int m), (.inr NM.2.2, .int k)]) ∧ H c.de = some (.lst (cs.map V.int)) ∧ cs.length ≤ 63 ∧ 0 ≤ k ∧ k ≤ n ∧ n ≤ lim
def Cfg.fp (c : Cfg) (b : Addr) : Prop := b = c.dd ∨ b = c.de
theorem DeckAt.keep {c : Cfg} {n : Nat} {H H' : Hp} (h : DeckAt c n H) (k : ∀ b, c.fp b → H' b = H b) : DeckAt c n H' := by
  obtain ⟨ne, cs, m, j, h1, h2, h3⟩ := h
  exact ⟨ne, cs, m, j, (k _ (.inl rfl)).trans h1, (k _ (.inr rfl)).trans h2, h3⟩
theorem DeckAt.there {c : Cfg} {n : Nat} {H : Hp} {b : Addr} (h : DeckAt c n H) (q : c.fp b) : H b ≠ none := by
  obtain ⟨ne, cs, m, j, h1, h2, h3⟩ := h
  rcases q with rfl | rfl
  · rw [h1]; exact fun z => nomatch z
  · rw [h2]; exact fun z => nomatch z
structure G where
  c : Cfg
  H0 : Hp
  F0 : Hp
  pin : Hp

def CellOk (g : G) (F H : Hp) (ov : Option (Option V)) : Cell → Prop
  | .any => True
  | .sh d => ∃ v, ov = some (some v) ∧ Rep g.c F v d
  | .own d => ∃ o x, ov = some (some (.ref o)) ∧ H o = some x ∧ F o = none ∧ g.H0 o = none ∧ (¬ g.c.fp o ∧ g.pin o = none) ∧ Cont g.c F o x d

/-- the pure state (F, ρ) of the def's entry g speaks of σ, H -/
structure Ok (g : G) (n : Nat) (F H : Hp) (σ : St) (ρ : List Cell) : Prop where
  keep : ∀ b x, g.H0 b = some x → ¬ g.c.fp b → H b = some x
  sub : Same F H
  ffp : ∀ b, g.c.fp b → F b = none
  new : ∀ b, g.H0 b ≠ none → g.F0 b = none → F b = none
  dk : DeckAt g.c n H
  pin : ∀ b x, g.pin b = some x → H b = some x ∧ F b = none ∧ ¬ g.c.fp b
  len : σ.length = ρ.length
  cells : ∀ (i : Nat) (k : Cell), ρ[i]? = some k → CellOk g F H σ[i]? k
  mon : Same g.F0 F
  disj : ∀ (i j : Nat) (d e : D) (o : Addr), ρ[i]? = some (.own d) → ρ[j]? = some (.own e) → σ[i]? = some (some (.ref o)) → σ[j]? = some (some (.ref o)) → i = j

section
variable {g : G} {n : Nat} {F H : Hp} {σ : St} {ρ : List Cell}
theorem same_upd {H : Hp} {p : Addr} {o : HO} (h : H p = none) : Same H (upd H p o) := fun b x e => by
  rw [upd_ne (ne_of_none e h)]
  exact e
theorem Same.updBoth {F H : Hp} {p : Addr} {o : HO} (s : Same F H) : Same (upd F p o) (upd H p o) := fun b x e => by
  by_cases hb : b = p
  · subst hb; rw [upd_same] at e ⊢; exact e
  · rw [upd_ne hb] at e ⊢; exact s _ _ e
theorem Ok.more (k : Ok g n F H σ ρ) {m : Nat} (h : n ≤ m) (hl : m ≤ lim) : Ok g m F H σ ρ := { k with
  dk := by
    obtain ⟨ne, cs, a, j, h1, h2, h3, h4, h5, h6⟩ := k.dk
    exact ⟨ne, cs, a, j, h1, h2, h3, h4, by omega, hl⟩ }
theorem Ok.lim (k : Ok g n F H σ ρ) : n ≤ lim := by
  obtain ⟨ne, cs, a, j, h1, h2, h3, h4, h5, h6⟩ := k.dk
  exact h6
theorem Ok.freeP (k : Ok g n F H σ ρ) {p : Addr} (h : H p = none) : g.pin p = none := by
  cases q : g.pin p with
  | none => rfl
  | some x => rw [(k.pin p x q).1] at h; cases h
theorem Ok.freeF (k : Ok g n F H σ ρ) {p : Addr} (h : H p = none) : F p = none := k.sub.free h
theorem Ok.nofp (k : Ok g n F H σ ρ) {p : Addr} (h : H p = none) : ¬ g.c.fp p := fun q => k.dk.there q h
theorem Ok.freeH0 (k : Ok g n F H σ ρ) {p : Addr} (h : H p = none) : g.H0 p = none := by
  cases q : g.H0 p with
  | none => rfl
  | some x => rw [k.keep p x q (k.nofp h)] at h; cases h
theorem CellOk.alloc {ov : Option (Option V)} {k : Cell} {p : Addr} {o : HO} (hp : H p = none) (hF : F p = none) (h : CellOk g F H ov k) : CellOk g (upd F p o) (upd H p o) ov k := by
  cases k with
  | any => trivial
  | sh d =>
    obtain ⟨v, e, r⟩ := h
    exact ⟨v, e, r.mono (same_upd hF)⟩
  | own d =>
    obtain ⟨a, x, e, h1, h2, h3, h4, h5⟩ := h
    have ne : a ≠ p := ne_of_none h1 hp
    exact ⟨a, x, e, by rw [upd_ne ne]; exact h1, by rw [upd_ne ne]; exact h2, h3, h4, h5.mono (same_upd hF)⟩
/-- a new object that never changes -/
theorem Ok.alloc (k : Ok g n F H σ ρ) {p : Addr} (o : HO) (hp : H p = none) : Ok g n (upd F p o) (upd H p o) σ ρ where
  keep := fun b x e n => by rw [upd_ne (ne_of_none (k.keep b x e n) hp)]; exact k.keep b x e n
  sub := Same.updBoth k.sub
  ffp := fun b q => by
    have ne : b ≠ p := fun z => by subst z; exact k.nofp hp q
    rw [upd_ne ne]; exact k.ffp b q
  new := fun b q n => by
    have ne : b ≠ p := fun z => by subst z; exact q (k.freeH0 hp)
    rw [upd_ne ne]; exact k.new b q n
  dk := k.dk.keep fun b q => by
    have ne : b ≠ p := fun z => by subst z; exact k.nofp hp q
    rw [upd_ne ne]
  pin := fun b x q => by
    obtain ⟨h1, h2, h3⟩ := k.pin b x q
    have ne : b ≠ p := ne_of_none h1 hp
    rw [upd_ne ne, upd_ne ne]; exact ⟨h1, h2, h3⟩
  len := k.len
  cells := fun i c e => (k.cells i c e).alloc hp (k.freeF hp)
  mon := k.mon.trans (same_upd (k.freeF hp))
  disj := k.disj
theorem Ok.sameF (k : Ok g n F H σ ρ) {p : Addr} (o : HO) (hp : H p = none) : Same F (upd F p o) := same_upd (k.freeF hp)
/-- a new object that is not frozen yet -/
theorem Ok.allocH (k : Ok g n F H σ ρ) {p : Addr} (o : HO) (hp : H p = none) : Ok g n F (upd H p o) σ ρ where
  keep := fun b x e n => by rw [upd_ne (ne_of_none (k.keep b x e n) hp)]; exact k.keep b x e n
  sub := fun b x e => by rw [upd_ne (ne_of_none (k.sub b x e) hp)]; exact k.sub b x e
  ffp := k.ffp
  new := k.new
  dk := k.dk.keep fun b q => by
    have ne : b ≠ p := fun z => by subst z; exact k.nofp hp q
    rw [upd_ne ne]
  pin := fun b x q => by
    obtain ⟨h1, h2, h3⟩ := k.pin b x q
    rw [upd_ne (ne_of_none h1 hp)]; exact ⟨h1, h2, h3⟩
  len := k.len
  cells := fun i c e => by
    have h := k.cells i c e
    cases c with
    | any => trivial
    | sh d => exact h
    | own d =>
      obtain ⟨a, x, e, h1, h2, h3, h4, h5⟩ := h
      exact ⟨a, x, e, by rw [upd_ne (ne_of_none h1 hp)]; exact h1, h2, h3, h4, h5⟩
  mon := k.mon
  disj := k.disj
theorem getD_set {α : Type} {l : List α} {i j : Nat} {a b : α} (h : (l.set i a)[j]? = some b) : (i = j ∧ b = a) ∨ (i ≠ j ∧ l[j]? = some b) := by
  rw [List.getElem?_set] at h
  by_cases e : i = j
  · subst e
    rw [if_pos rfl] at h
    split at h
    · exact .inl ⟨rfl, (Option.some.inj h).symm⟩
    · cases h
  · rw [if_neg e] at h
    exact .inr ⟨e, h⟩
theorem set_same {α : Type} {l : List α} {i : Nat} {a : α} (h : i < l.length) : (l.set i a)[i]? = some a := by
  rw [List.getElem?_set, if_pos rfl, if_pos h]
theorem lt_of_get {α : Type} {l : List α} {i : Nat} {a : α} (h : l[i]? = some a) : i < l.length := by
  obtain ⟨h, _⟩ := List.getElem?_eq_some_iff.mp h
  exact h
theorem lt_of_set {α : Type} {l : List α} {i j : Nat} {a b : α} (h : (l.set i a)[j]? = some b) : j < l.length := by
  have := lt_of_get h
  rwa [List.length_set] at this
/-- a name gets shared data -/
theorem Ok.set (k : Ok g n F H σ ρ) (i : Nat) {v : V} {d : D} (r : Rep g.c F v d) : Ok g n F H (σ.set i (some v)) (ρ.set i (.sh d)) where
  keep := k.keep
  sub := k.sub
  ffp := k.ffp
  new := k.new
  dk := k.dk
  pin := k.pin
  len := by rw [List.length_set, List.length_set]; exact k.len
  cells := fun j c e => by
    rcases getD_set e with ⟨rfl, rfl⟩ | ⟨ne, e'⟩
    · exact ⟨v, set_same (by rw [k.len]; exact lt_of_set e), r⟩
    · have h := k.cells j c e'
      have es : (σ.set i (some v))[j]? = σ[j]? := by rw [List.getElem?_set, if_neg ne]
      rw [es]
      exact h
  mon := k.mon
  disj := fun a b d' e' o h1 h2 h3 h4 => by
    rcases getD_set h1 with ⟨_, z⟩ | ⟨n1, h1⟩
    · cases z
    · rcases getD_set h2 with ⟨_, z⟩ | ⟨n2, h2⟩
      · cases z
      · rw [List.getElem?_set, if_neg n1] at h3
        rw [List.getElem?_set, if_neg n2] at h4
        exact k.disj a b d' e' o h1 h2 h3 h4
/-- a name gets a container of one's own -/
theorem Ok.setOwn (k : Ok g n F H σ ρ) (i : Nat) {a : Addr} {x : HO} {d : D} (hH : H a = some x) (hF : F a = none) (h0 : g.H0 a = none) (hf : ¬ g.c.fp a ∧ g.pin a = none) (hc : Cont g.c F a x d)
    (hn : ∀ (j : Nat) (e : D), ρ[j]? = some (.own e) → j ≠ i → σ[j]? ≠ some (some (.ref a))) : Ok g n F H (σ.set i (some (.ref a))) (ρ.set i (.own d)) where
  keep := k.keep
  sub := k.sub
  ffp := k.ffp
  new := k.new
  dk := k.dk
  pin := k.pin
  len := by rw [List.length_set, List.length_set]; exact k.len
  cells := fun j c e => by
    rcases getD_set e with ⟨rfl, rfl⟩ | ⟨ne, e'⟩
    · exact ⟨a, x, set_same (by rw [k.len]; exact lt_of_set e), hH, hF, h0, hf, hc⟩
    · have h := k.cells j c e'
      have es : (σ.set i (some (.ref a)))[j]? = σ[j]? := by rw [List.getElem?_set, if_neg ne]
      rw [es]
      exact h
  mon := k.mon
  disj := fun p q d' e' o h1 h2 h3 h4 => by
    rcases getD_set h1 with ⟨r1, z⟩ | ⟨n1, h1⟩
    · rcases getD_set h2 with ⟨r2, z⟩ | ⟨n2, h2⟩
      · rw [← r1, ← r2]
      · exfalso
        subst r1
        have l1 : i < σ.length := lt_of_set h3
        rw [set_same l1] at h3
        cases h3
        rw [List.getElem?_set, if_neg n2] at h4
        exact hn q e' h2 (Ne.symm n2) h4
    · rcases getD_set h2 with ⟨r2, z⟩ | ⟨n2, h2⟩
      · exfalso
        subst r2
        have l1 : i < σ.length := lt_of_set h4
        rw [set_same l1] at h4
        cases h4
        rw [List.getElem?_set, if_neg n1] at h3
        exact hn p d' h1 (Ne.symm n1) h3
      · rw [List.getElem?_set, if_neg n1] at h3
        rw [List.getElem?_set, if_neg n2] at h4
        exact k.disj p q d' e' o h1 h2 h3 h4
/-- a container of one's own changes -/
theorem Ok.write (k : Ok g n F H σ ρ) {i : Nat} {a : Addr} {x' : HO} {d d' : D} (hi : ρ[i]? = some (.own d)) (hs : σ[i]? = some (some (.ref a))) (hc : Cont g.c F a x' d') : Ok g n F (upd H a x') σ (ρ.set i (.own d')) := by
  obtain ⟨a', x, e, h1, h2, h3, h4, h5⟩ := k.cells i _ hi
  rw [hs] at e
  cases e
  refine ⟨fun b y e n => ?_, fun b y e => ?_, k.ffp, k.new, k.dk.keep fun b q => ?_, fun b x q => ?_, by rw [List.length_set]; exact k.len, fun j c e => ?_, k.mon, fun p q d1 e1 o h1' h2' h3' h4' => ?_⟩
  · have ne : b ≠ a := fun z => by subst z; rw [h3] at e; cases e
    rw [upd_ne ne]; exact k.keep b y e n
  · have ne : b ≠ a := fun z => by subst z; rw [h2] at e; cases e
    rw [upd_ne ne]; exact k.sub b y e
  · have ne : b ≠ a := fun z => by subst z; exact h4.1 q
    rw [upd_ne ne]
  · obtain ⟨p1, p2, p3⟩ := k.pin b x q
    have ne : b ≠ a := fun z => by subst z; rw [h4.2] at q; cases q
    rw [upd_ne ne]; exact ⟨p1, p2, p3⟩
  · rcases getD_set e with ⟨rfl, rfl⟩ | ⟨ne, e'⟩
    · exact ⟨a, x', hs, upd_same, h2, h3, h4, hc⟩
    · have h := k.cells j c e'
      cases c with
      | any => trivial
      | sh d => exact h
      | own d =>
        obtain ⟨b, y, q1, q2, q3, q4, q5, q6⟩ := h
        have nb : b ≠ a := fun z => by
          subst z
          exact ne (k.disj i j _ _ b hi e' hs q1)
        exact ⟨b, y, q1, by rw [upd_ne nb]; exact q2, q3, q4, q5, q6⟩
  · have back : ∀ {p : Nat} {d1 : D}, (ρ.set i (.own d'))[p]? = some (.own d1) → ∃ d2, ρ[p]? = some (.own d2) := fun {p d1} h => by
      rcases getD_set h with ⟨rfl, _⟩ | ⟨_, h⟩
      · exact ⟨_, hi⟩
      · exact ⟨_, h⟩
    obtain ⟨d2, g1⟩ := back h1'
    obtain ⟨d3, g2⟩ := back h2'
    exact k.disj p q d2 d3 o g1 g2 h3' h4'
/-- a container of one's own is changed no more -/
theorem Ok.freeze (k : Ok g n F H σ ρ) {i : Nat} {d : D} (hi : ρ[i]? = some (.own d)) : ∃ F', Same F F' ∧ Ok g n F' H σ (ρ.set i (.sh d)) := by
  obtain ⟨a, x, e, h1, h2, h3, h4, h5⟩ := k.cells i _ hi
  refine ⟨upd F a x, same_upd h2, k.keep, fun b y q => ?_, fun b q => ?_, fun b q n => ?_, k.dk, fun b y q => ?_, by rw [List.length_set]; exact k.len, fun j c ej => ?_, k.mon.trans (same_upd h2), fun p q d1 e1 o h1' h2' h3' h4' => ?_⟩
  · by_cases hb : b = a
    · subst hb; rw [upd_same] at q; cases q; exact h1
    · rw [upd_ne hb] at q; exact k.sub b y q
  · have ne : b ≠ a := fun z => by subst z; exact h4.1 q
    rw [upd_ne ne]; exact k.ffp b q
  · have ne : b ≠ a := fun z => by subst z; exact q h3
    rw [upd_ne ne]; exact k.new b q n
  · obtain ⟨p1, p2, p3⟩ := k.pin b y q
    have ne : b ≠ a := fun z => by subst z; rw [h4.2] at q; cases q
    rw [upd_ne ne]; exact ⟨p1, p2, p3⟩
  · rcases getD_set ej with ⟨rfl, rfl⟩ | ⟨ne, e'⟩
    · exact ⟨_, e, (h5.mono (same_upd h2)).rep upd_same⟩
    · have h := k.cells j c e'
      cases c with
      | any => trivial
      | sh d =>
        obtain ⟨v, q1, q2⟩ := h
        exact ⟨v, q1, q2.mono (same_upd h2)⟩
      | own d' =>
        obtain ⟨b, y, q1, q2, q3, q4, q5, q6⟩ := h
        have nb : b ≠ a := fun z => by
          subst z
          exact ne (k.disj i j _ _ b hi e' e q1)
        exact ⟨b, y, q1, q2, by rw [upd_ne nb]; exact q3, q4, q5, q6.mono (same_upd h2)⟩
  · have back : ∀ {p : Nat} {d1 : D}, (ρ.set i (.sh d))[p]? = some (.own d1) → ρ[p]? = some (.own d1) := fun {p d1} h => by
      rcases getD_set h with ⟨_, z⟩ | ⟨_, h⟩
      · cases z
      · exact h
    exact k.disj p q d1 e1 o (back h1') (back h2') h3' h4'
/-- of a name nothing is known any more -/
theorem Ok.forget (k : Ok g n F H σ ρ) (i : Nat) (ov : Option V) : Ok g n F H (σ.set i ov) (ρ.set i .any) where
  keep := k.keep
  sub := k.sub
  ffp := k.ffp
  new := k.new
  dk := k.dk
  pin := k.pin
  len := by rw [List.length_set, List.length_set]; exact k.len
  cells := fun j c e => by
    rcases getD_set e with ⟨rfl, rfl⟩ | ⟨ne, e'⟩
    · trivial
    · have h := k.cells j c e'
      have es : (σ.set i ov)[j]? = σ[j]? := by rw [List.getElem?_set, if_neg ne]
      rw [es]
      exact h
  mon := k.mon
  disj := fun a b d' e' o h1 h2 h3 h4 => by
    rcases getD_set h1 with ⟨_, z⟩ | ⟨n1, h1⟩
    · cases z
    · rcases getD_set h2 with ⟨_, z⟩ | ⟨n2, h2⟩
      · cases z
      · rw [List.getElem?_set, if_neg n1] at h3
        rw [List.getElem?_set, if_neg n2] at h4
        exact k.disj a b d' e' o h1 h2 h3 h4
end
end PL

/-! PL: lifted readings, expressions. -/
namespace PL
open PySem PySem.Spec L2

/-! ### weakening -/
theorem _root_.L2.PE.imp {X : Cx} {e : Expr} {t t' : TE} (h : PE X e t) (w : ∀ σ H Q, t' σ H Q → t σ H Q) : PE X e t' := ⟨fun pins s σ H Q I q => h.run pins s σ H Q I (w σ H Q q)⟩
theorem _root_.L2.PT.imp {X : Cx} {e : Expr} {t t' : TT} (h : PT X e t) (w : ∀ σ H Q, t' σ H Q → t σ H Q) : PT X e t' := ⟨fun pins s σ H Q I q => h.run pins s σ H Q I (w σ H Q q)⟩
theorem _root_.L2.PW.imp {X : Cx} {e : Expr} {t t' : TT} (h : PW X e t) (w : ∀ σ H Q, t' σ H Q → t σ H Q) : PW X e t' := ⟨fun wh pins s σ H Q I q => h.run wh pins s σ H Q I (w σ H Q q)⟩
theorem _root_.L2.PA.imp {X : Cx} {e : List Expr} {t t' : TA} (h : PA X e t) (w : ∀ σ H Q, t' σ H Q → t σ H Q) : PA X e t' := ⟨fun pos pins s σ H Q I q => h.run pos pins s σ H Q I (w σ H Q q)⟩
theorem _root_.L2.PS.imp {X : Cx} {e : Stmt} {t t' : TS} (h : PS X e t) (w : ∀ D σ H, t' D σ H → t D σ H) : PS X e t' := ⟨fun pins s σ H Q I q => h.run pins s σ H Q I (w Q σ H q)⟩
theorem _root_.L2.PSs.imp {X : Cx} {e : List Stmt} {t t' : TS} (h : PSs X e t) (w : ∀ D σ H, t' D σ H → t D σ H) : PSs X e t' := ⟨fun pins s σ H Q I q => h.run pins s σ H Q I (w Q σ H q)⟩
theorem _root_.L2.PG.imp {X : Cx} {e : Expr} {t t' : TG} (h : PG X e t) (w : ∀ v σ H Q, t' v σ H Q → t v σ H Q) : PG X e t' := ⟨fun pins s σ H v u Q I r q => h.run pins s σ H v u Q I r (w v σ H Q q)⟩
theorem _root_.L2.PGs.imp {X : Cx} {e : List Expr} {t t' : TGs} (h : PGs X e t) (w : ∀ v σ H Q, t' v σ H Q → t v σ H Q) : PGs X e t' := ⟨fun pins s σ H v u Q I r q => h.run pins s σ H v u Q I r (w v σ H Q q)⟩
theorem _root_.L2.PI.imp {X : Cx} {tg e : Expr} {t t' : TI} (h : PI X tg e t) (w : ∀ σ H R, t' σ H R → t σ H R) : PI X tg e t' := ⟨fun pins s σ H Q I q => h.run pins s σ H Q I (w σ H Q q)⟩
theorem _root_.L2.PTs.imp {X : Cx} {e : List Expr} {t t' : TT} (h : PTs X e t) (w : ∀ σ H Q, t' σ H Q → t σ H Q) : PTs X e t' := ⟨fun pins s σ H Q I q => h.run pins s σ H Q I (w σ H Q q)⟩

/-! ### pure readings: the cells, the count of draws, what is wanted -/
abbrev PEnv := List Cell
abbrev TPE := PEnv → Nat → (D → Nat → Prop) → Prop
abbrev TPT := PEnv → Nat → (Bool → Nat → Prop) → Prop
abbrev TPA := PEnv → Nat → (List D → Nat → Prop) → Prop
structure Post where
  nx : PEnv → Nat → Prop
  rt : D → Nat → Prop
  bk : PEnv → Nat → Prop := fun _ _ => False
  ct : PEnv → Nat → Prop := fun _ _ => False
abbrev TPS := Post → PEnv → Nat → Prop

/-- what may be read: shared data, or a container of one's own -/
def RR (g : G) (F : Hp) (σ : L2.St) (ρ : PEnv) (x : V) (d : D) : Prop := Rep g.c F x d ∨ ∃ i : Nat, ρ[i]? = some (.own d) ∧ σ[i]? = some (some x)
theorem RR.mono {g : G} {F F' : Hp} {σ : L2.St} {ρ : PEnv} {x : V} {d : D} (s : Same F F') (h : RR g F σ ρ x d) : RR g F' σ ρ x d := h.elim (fun r => .inl (r.mono s)) .inr

def LE (g : G) (p : TPE) : TE := fun σ H Q => ∃ n F ρ R, Ok g n F H σ ρ ∧ p ρ n R ∧ ∀ n' F' H' v d, Same F F' → Ok g n' F' H' σ ρ → Rep g.c F' v d → R d n' → Q v H'
def LQ (g : G) (p : TPE) : TE := fun σ H Q => ∃ n F ρ R, Ok g n F H σ ρ ∧ p ρ n R ∧ ∀ n' F' H' v d, Same F F' → Ok g n' F' H' σ ρ → RR g F' σ ρ v d → R d n' → Q v H'
/-- a new container at a -/
def LF (g : G) (p : TPE) : TE := fun σ H Q => ∃ n F ρ R, Ok g n F H σ ρ ∧ p ρ n R ∧ ∀ n' F' H' a x d, Same F F' → Ok g n' F' H' σ ρ → H' a = none → Cont g.c F' a x d → R d n' → Q (.ref a) (upd H' a x)
def LT (g : G) (p : TPT) : TT := fun σ H Q => ∃ n F ρ R, Ok g n F H σ ρ ∧ p ρ n R ∧ ∀ n' F' H' b, Same F F' → Ok g n' F' H' σ ρ → R b n' → Q b H'
def LA (g : G) (p : TPA) : TA := fun σ H Q => ∃ n F ρ R, Ok g n F H σ ρ ∧ p ρ n R ∧ ∀ n' F' H' vs ds, Same F F' → Ok g n' F' H' σ ρ → Reps g.c F' vs ds → R ds n' → Q vs H'
inductive RRs (g : G) (F : Hp) (σ : L2.St) (ρ : PEnv) : List V → List D → Prop
  | nil : RRs g F σ ρ [] []
  | cons {v : V} {vs : List V} {d : D} {ds : List D} : RR g F σ ρ v d → RRs g F σ ρ vs ds → RRs g F σ ρ (v :: vs) (d :: ds)
theorem RRs.mono {g : G} {F F' : Hp} {σ : L2.St} {ρ : PEnv} (s : Same F F') : ∀ {x : List V} {d : List D}, RRs g F σ ρ x d → RRs g F' σ ρ x d
  | _, _, .nil => .nil
  | _, _, .cons h t => .cons (h.mono s) (RRs.mono s t)
def LB (g : G) (p : TPA) : TA := fun σ H Q => ∃ n F ρ R, Ok g n F H σ ρ ∧ p ρ n R ∧ ∀ n' F' H' vs ds, Same F F' → Ok g n' F' H' σ ρ → RRs g F' σ ρ vs ds → R ds n' → Q vs H'

def DE (X : Cx) (e : Expr) (p : TPE) : Prop := ∀ g : G, g.c.K = X.K → PE X e (LE g p)
def SE (X : Cx) (e : Expr) (p : TPE) : Prop := ∀ g : G, g.c.K = X.K → PE X e (LQ g p)
def FE (X : Cx) (e : Expr) (p : TPE) : Prop := ∀ g : G, g.c.K = X.K → PE X e (LF g p)
def DT (X : Cx) (e : Expr) (p : TPT) : Prop := ∀ g : G, g.c.K = X.K → PT X e (LT g p)
def DW (X : Cx) (e : Expr) (p : TPT) : Prop := ∀ g : G, g.c.K = X.K → PW X e (LT g p)
def DA (X : Cx) (e : List Expr) (p : TPA) : Prop := ∀ g : G, g.c.K = X.K → PA X e (LA g p)
def SA (X : Cx) (e : List Expr) (p : TPA) : Prop := ∀ g : G, g.c.K = X.K → PA X e (LB g p)

section
variable {X : Cx} {e a b : Expr} {p pa pb : TPE}
theorem SE.of (h : DE X e p) : SE X e p := fun g hK => (h g hK).imp fun σ H Q ⟨n, F, ρ, R, ok, hp, k⟩ => ⟨n, F, ρ, R, ok, hp, fun n' F' H' v d s ok' r => k n' F' H' v d s ok' (.inl r)⟩
/-- a new container, frozen at once -/
theorem DE.of (h : FE X e p) : DE X e p := fun g hK => (h g hK).imp fun σ H Q ⟨n, F, ρ, R, ok, hp, k⟩ => ⟨n, F, ρ, R, ok, hp, fun n' F' H' a x d s ok' hn hc hR =>
  k n' (upd F' a x) (upd H' a x) _ d (s.trans (ok'.sameF x hn)) (ok'.alloc x hn) ((hc.mono (ok'.sameF x hn)).rep upd_same) hR⟩

/-! ### names and constants -/
def pVar (i : Nat) : TPE := fun ρ n R => match ρ[i]? with | some (.sh d) => R d n | _ => False
def pRd (i : Nat) : TPE := fun ρ n R => match ρ[i]? with | some (.sh d) => R d n | some (.own d) => R d n | _ => False
def pC (d : D) : TPE := fun _ n R => R d n
theorem de_var {i : Nat} (h : PE X e (tVar i)) : DE X e (pVar i) := fun g hK => h.imp fun σ H Q ⟨n, F, ρ, R, ok, hp, k⟩ => by
  have hp : pVar i ρ n R := hp
  unfold pVar at hp
  split at hp
  · rename_i d hd
    obtain ⟨v, e, r⟩ := ok.cells i _ hd
    exact ⟨v, e, k n F H v d (Same.refl F) ok r hp⟩
  · exact hp.elim
theorem se_var {i : Nat} (h : PE X e (tVar i)) : SE X e (pRd i) := fun g hK => h.imp fun σ H Q ⟨n, F, ρ, R, ok, hp, k⟩ => by
  have hp : pRd i ρ n R := hp
  unfold pRd at hp
  split at hp
  · rename_i d hd
    obtain ⟨v, e, r⟩ := ok.cells i _ hd
    exact ⟨v, e, k n F H v d (Same.refl F) ok (.inl r) hp⟩
  · rename_i d hd
    obtain ⟨a, x, e, _⟩ := ok.cells i _ hd
    exact ⟨.ref a, e, k n F H _ d (Same.refl F) ok (.inr ⟨i, hd, e⟩) hp⟩
  · exact hp.elim
theorem de_tC {v : V} {d : D} (h : PE X e (tC v)) (r : ∀ c F, Rep c F v d) : DE X e (pC d) := fun g hK => h.imp fun σ H Q ⟨n, F, ρ, R, ok, hp, k⟩ => k n F H v d (Same.refl F) ok (r _ _) hp
theorem de_int {i j pos} : DE X (.Constant (.int i) j pos) (pC (.int i)) := de_tC pe_int fun _ _ => .int i
theorem de_bl {b j pos} : DE X (.Constant (.bool b) j pos) (pC (.bl b)) := de_tC pe_bl fun _ _ => .bl b
theorem de_non {j pos} : DE X (.Constant .none j pos) (pC .non) := de_tC pe_non fun _ _ => .non
theorem de_str {x j pos} : DE X (.Constant (.str x) j pos) (pC (.str x)) := de_tC pe_str fun _ _ => .str x
theorem de_gint {x : Str} {i : Int} {t : Tok} {pos : Pos} (hg : Gl X x) (hm : X.mg x = some (.int i t)) (hd : (x == ("__debug__" : Str)) = false := by decide) : DE X (.Name x pos) (pC (.int i)) := de_tC (pe_glob (v := .int i) hg hm ⟨t, rfl⟩ hd) fun _ _ => .int i
theorem de_gstr {x : Str} {i : Str} {t : Tok} {pos : Pos} (hg : Gl X x) (hm : X.mg x = some (.str i t)) (hd : (x == ("__debug__" : Str)) = false := by decide) : DE X (.Name x pos) (pC (.str i)) := de_tC (pe_glob (v := .str i) hg hm ⟨t, rfl⟩ hd) fun _ _ => .str i

/-! ### operators -/
/-- a pure operator -/
abbrev O2 := D → D → (D → Prop) → Prop
def OpP (K : PySem.W.Frag) (r : R2) (o : O2) : Prop := ∀ (g : G) (n : Nat) (F H : Hp) (σ : L2.St) (ρ : PEnv) (x y : V) (d e : D) (R : D → Prop) (Q : VK), g.c.K = K → Ok g n F H σ ρ → RR g F σ ρ x d → RR g F σ ρ y e → o d e R →
  (∀ F' H' v z, Same F F' → Ok g n F' H' σ ρ → Rep g.c F' v z → R z → Q v H') → r x y H Q
def pBin (o : O2) (a b : TPE) : TPE := fun ρ n R => a ρ n fun d n1 => b ρ n1 fun e n2 => o d e fun z => R z n2
theorem LQ.two {g : G} {r : R2} {o : O2} (hp : OpP g.c.K r o) {σ : L2.St} {H : Hp} {Q : VK} (h : LE g (pBin o pa pb) σ H Q) : tOp r (LQ g pa) (LQ g pb) σ H Q := by
  obtain ⟨n, F, ρ, R, ok, hq, k⟩ := h
  refine ⟨n, F, ρ, _, ok, hq, fun n1 F1 H1 x d s1 ok1 r1 h1 => ⟨n1, F1, ρ, _, ok1, h1, fun n2 F2 H2 y e s2 ok2 r2 h2 => ?_⟩⟩
  exact hp g n2 F2 H2 σ ρ x y d e _ Q rfl ok2 (r1.mono s2) r2 h2 fun F3 H3 v z s3 ok3 r3 h3 => k n2 F3 H3 v z (s1.trans (s2.trans s3)) ok3 r3 h3
theorem de_bin {op : Operator} {r : R2} {o : O2} {pos : Pos} (ho : OpR X (binaryOp op) r) (hp : OpP X.K r o) (ha : SE X a pa) (hb : SE X b pb) : DE X (.BinOp a op b pos) (pBin o pa pb) := fun g hK =>
  (pe_op ho (ha g hK) (hb g hK)).imp fun σ H Q h => LQ.two (by rw [hK]; exact hp) h
theorem de_cmp {op : CmpOp} {r : R2} {o : O2} {pos : Pos} (ho : OpR X (compareOp op) r) (hp : OpP X.K r o) (ha : SE X a pa) (hb : SE X b pb) (hm : behindInMarks op b = false) : DE X (.Compare a [op] [b] pos) (pBin o pa pb) := fun g hK =>
  (pe_cmpR ho (ha g hK) (hb g hK) hm).imp fun σ H Q h => LQ.two (by rw [hK]; exact hp) h
theorem de_ix {r : R2} {o : O2} {pos : Pos} (ho : IxR X r) (hp : OpP X.K r o) (ha : SE X a pa) (hb : SE X b pb) (hs : PlainIx b) : DE X (.Subscript a b pos) (pBin o pa pb) := fun g hK =>
  (pe_ix ho (ha g hK) (hb g hK) hs).imp fun σ H Q h => LQ.two (by rw [hK]; exact hp) h
theorem OpP.or {K : PySem.W.Frag} {r r' : R2} {o o' : O2} (h : OpP K r o) (h' : OpP K r' o') : OpP K (fun x y H Q => r x y H Q ∨ r' x y H Q) (fun d e R => o d e R ∨ o' d e R) := fun g n F H σ ρ x y d e R Q hK ok r1 r2 q k =>
  q.elim (fun q => .inl (h g n F H σ ρ x y d e R Q hK ok r1 r2 q k)) fun q => .inr (h' g n F H σ ρ x y d e R Q hK ok r1 r2 q k)
theorem OpP.imp {K : PySem.W.Frag} {r : R2} {o o' : O2} (h : OpP K r o) (w : ∀ d e R, o' d e R → o d e R) : OpP K r o' := fun g n F H σ ρ x y d e R Q hK ok r1 r2 q k => h g n F H σ ρ x y d e R Q hK ok r1 r2 (w d e R q) k

/-- from what is read: scalars -/
theorem RR.int {g : G} {F : Hp} {σ : L2.St} {ρ : PEnv} {x : V} {i : Int} {n : Nat} {H : Hp} (ok : Ok g n F H σ ρ) (h : RR g F σ ρ x (.int i)) : x = .int i := by
  rcases h with h | ⟨j, h, _⟩
  · cases h; rfl
  · obtain ⟨a, o, _, _, _, _, _, z⟩ := ok.cells j _ h
    cases z
theorem RR.str {g : G} {F : Hp} {σ : L2.St} {ρ : PEnv} {x : V} {i : Str} {n : Nat} {H : Hp} (ok : Ok g n F H σ ρ) (h : RR g F σ ρ x (.str i)) : x = .str i := by
  rcases h with h | ⟨j, h, _⟩
  · cases h; rfl
  · obtain ⟨a, o, _, _, _, _, _, z⟩ := ok.cells j _ h
    cases z
theorem RR.bl {g : G} {F : Hp} {σ : L2.St} {ρ : PEnv} {x : V} {i : Bool} {n : Nat} {H : Hp} (ok : Ok g n F H σ ρ) (h : RR g F σ ρ x (.bl i)) : x = .bl i := by
  rcases h with h | ⟨j, h, _⟩
  · cases h; rfl
  · obtain ⟨a, o, _, _, _, _, _, z⟩ := ok.cells j _ h
    cases z
theorem RR.non {g : G} {F : Hp} {σ : L2.St} {ρ : PEnv} {x : V} {n : Nat} {H : Hp} (ok : Ok g n F H σ ρ) (h : RR g F σ ρ x .non) : x = .non := by
  rcases h with h | ⟨j, h, _⟩
  · cases h; rfl
  · obtain ⟨a, o, _, _, _, _, _, z⟩ := ok.cells j _ h
    cases z
theorem RR.lst {g : G} {F : Hp} {σ : L2.St} {ρ : PEnv} {x : V} {ds : List D} {n : Nat} {H : Hp} (ok : Ok g n F H σ ρ) (h : RR g F σ ρ x (.lst ds)) : ∃ a xs, x = .ref a ∧ H a = some (.lst xs) ∧ Reps g.c F xs ds := by
  rcases h with h | ⟨j, h, e⟩
  · cases h with
    | lst h r => exact ⟨_, _, rfl, ok.sub _ _ h, r⟩
  · obtain ⟨a, o, e', h1, _, _, _, z⟩ := ok.cells j _ h
    rw [e] at e'
    cases e'
    cases z with
    | lst r => exact ⟨_, _, rfl, h1, r⟩
theorem RR.tup {g : G} {F : Hp} {σ : L2.St} {ρ : PEnv} {x : V} {ds : List D} {n : Nat} {H : Hp} (ok : Ok g n F H σ ρ) (h : RR g F σ ρ x (.tup ds)) : ∃ a xs, x = .ref a ∧ SqT g.c.K H a xs ∧ Reps g.c F xs ds ∧ Rep g.c F x (.tup ds) := by
  rcases h with h | ⟨j, h, _⟩
  · cases h with
    | tup h r => exact ⟨_, _, rfl, Same.seqT ok.sub h, r, .tup h r⟩
  · obtain ⟨a, o, _, _, _, _, _, z⟩ := ok.cells j _ h
    cases z
theorem RR.dic {g : G} {F : Hp} {σ : L2.St} {ρ : PEnv} {x : V} {ks : List Key} {ds : List D} {n : Nat} {H : Hp} (ok : Ok g n F H σ ρ) (h : RR g F σ ρ x (.dic ks ds)) : ∃ a xs, x = .ref a ∧ H a = some (.dK (ks.zip xs)) ∧ ks.length = xs.length ∧ Reps g.c F xs ds := by
  rcases h with h | ⟨j, h, e⟩
  · cases h with
    | dic h l r => exact ⟨_, _, rfl, ok.sub _ _ h, l, r⟩
  · obtain ⟨a, o, e', h1, _, _, _, z⟩ := ok.cells j _ h
    rw [e] at e'
    cases e'
    cases z with
    | dic l r => exact ⟨_, _, rfl, h1, l, r⟩
theorem RR.dit {g : G} {F : Hp} {σ : L2.St} {ρ : PEnv} {x : V} {ks : List (List Key)} {ds : List D} {n : Nat} {H : Hp} (ok : Ok g n F H σ ρ) (h : RR g F σ ρ x (.dit ks ds)) : ∃ a xs, x = .ref a ∧ H a = some (.dT (ks.zip xs)) ∧ ks.length = xs.length ∧ Reps g.c F xs ds := by
  rcases h with h | ⟨j, h, e⟩
  · cases h with
    | dit h l r => exact ⟨_, _, rfl, ok.sub _ _ h, l, r⟩
  · obtain ⟨a, o, e', h1, _, _, _, z⟩ := ok.cells j _ h
    rw [e] at e'
    cases e'
    cases z with
    | dit l r => exact ⟨_, _, rfl, h1, l, r⟩

/-- an operator on two ints -/
def oI (f : Int → Int → (D → Prop) → Prop) : O2 := fun d e R => match d, e with | .int i, .int j => f i j R | _, _ => False
theorem op_rI {K : PySem.W.Frag} {C : Int → Int → Prop} {z : Int → Int → V} {zd : Int → Int → D} (hz : ∀ c F i j, Rep c F (z i j) (zd i j)) : OpP K (rI C z) (oI fun i j R => C i j ∧ R (zd i j)) := fun g n F H σ ρ x y d e R Q hK ok r1 r2 q k => by
  have q : oI (fun i j R => C i j ∧ R (zd i j)) d e R := q
  unfold oI at q
  split at q
  · exact ⟨_, _, r1.int ok, r2.int ok, q.1, k F H _ _ (Same.refl F) ok (hz _ _ _ _) q.2⟩
  · exact q.elim
theorem op_rI0 {K : PySem.W.Frag} {z : Int → Int → V} {zd : Int → Int → D} (hz : ∀ c F i j, Rep c F (z i j) (zd i j)) : OpP K (rI0 z) (oI fun i j R => R (zd i j)) := fun g n F H σ ρ x y d e R Q hK ok r1 r2 q k => by
  have q : oI (fun i j R => R (zd i j)) d e R := q
  unfold oI at q
  split at q
  · exact ⟨_, _, r1.int ok, r2.int ok, k F H _ _ (Same.refl F) ok (hz _ _ _ _) q⟩
  · exact q.elim

/-- + -/
def oAdd : O2 := fun d e R => match d, e with
  | .int i, .int j => R (.int (i + j))
  | .str s, .str t => s.length + t.length ≤ sizeLine ∧ R (.str (s ++ t))
  | .lst ds, .lst es => ds.length + es.length ≤ sizeLine ∧ R (.lst (ds ++ es))
  | .tup ds, .tup es => ds.length + es.length ≤ sizeLine ∧ R (.tup (ds ++ es))
  | _, _ => False
theorem de_add {pos : Pos} (ha : SE X a pa) (hb : SE X b pb) : DE X (.BinOp a .Add b pos) (pBin oAdd pa pb) := by
  refine de_bin (op_add.or (op_add_str.or (op_cat.or op_catA))) (fun g n F H σ ρ x y d e R Q hK ok r1 r2 q k => ?_) ha hb
  have q : oAdd d e R := q
  unfold oAdd at q
  split at q
  · exact .inl ⟨_, _, r1.int ok, r2.int ok, k F H _ _ (Same.refl F) ok (.int _) q⟩
  · exact .inr (.inl ⟨_, _, r1.str ok, r2.str ok, q.1, k F H _ _ (Same.refl F) ok (.str _) q.2⟩)
  · obtain ⟨a, xs, rfl, h1, s1⟩ := r1.lst ok
    obtain ⟨b, ys, rfl, h2, s2⟩ := r2.lst ok
    refine .inr (.inr (.inl ⟨a, b, xs, ys, rfl, rfl, h1, h2, by rw [s1.length, s2.length]; exact q.1, fun p hp => ?_⟩))
    exact k (upd F p _) _ _ _ (ok.sameF _ hp) (ok.alloc _ hp) (.lst upd_same ((s1.append s2).mono (ok.sameF _ hp))) q.2
  · obtain ⟨a, xs, rfl, h1, s1, t1⟩ := r1.tup ok
    obtain ⟨b, ys, rfl, h2, s2, t2⟩ := r2.tup ok
    rw [hK] at h1 h2
    refine .inr (.inr (.inr ⟨a, b, xs, ys, rfl, rfl, h1, h2, by rw [s1.length, s2.length]; exact q.1, fun ex => ?_, fun ex ey => ?_, fun ex ey p hp => ?_⟩))
    · subst ex
      cases s1
      exact k F H _ _ (Same.refl F) ok t2 q.2
    · subst ey
      cases s2
      rw [List.append_nil] at q
      exact k F H _ _ (Same.refl F) ok t1 q.2
    · exact k (upd F p _) _ _ _ (ok.sameF _ hp) (ok.alloc _ hp) (.tup (SqT.of upd_same) ((s1.append s2).mono (ok.sameF _ hp))) q.2
  · exact q.elim
def oSub : O2 := oI fun i j R => R (.int (i - j))
theorem de_sub {pos : Pos} (ha : SE X a pa) (hb : SE X b pb) : DE X (.BinOp a .Sub b pos) (pBin oSub pa pb) := de_bin op_sub (op_rI0 fun _ _ _ _ => .int _) ha hb
def MulOk (i j : Int) : Prop := IntMulOk i j
theorem MulOk.small {i j : Int} (h : (-(2 ^ 64) < i ∧ i < 2 ^ 64) ∨ (-(2 ^ 64) < j ∧ j < 2 ^ 64)) : MulOk i j := CMul.ok h
theorem MulOk.wide {i j : Int} {a b : Nat} (ha : i.natAbs < 2 ^ a) (hb : j.natAbs < 2 ^ b) (h0 : 0 < a := by omega) (h1 : 0 < b := by omega) (h : a + b ≤ 1000000 := by omega) : MulOk i j := CMulW.ok (wide_mul ha hb h0 h1 h)
/-- * -/
def oMul : O2 := fun d e R => match d, e with
  | .int i, .int j => MulOk i j ∧ R (.int (i * j))
  | .lst ds, .int k => -(2 ^ 63) ≤ k ∧ k < 2 ^ 63 ∧ ds.length * k.toNat ≤ sizeLine ∧ R (.lst (List.replicate k.toNat ds).flatten)
  | _, _ => False
theorem op_mulA : OpR X (binaryOp .Mult) (rI MulOk fun i j => .int (i * j)) := opI fun _ _ _ _ _ _ _ hc q => PyProof.Rows.mul_int q hc
theorem de_mul {pos : Pos} (ha : SE X a pa) (hb : SE X b pb) : DE X (.BinOp a .Mult b pos) (pBin oMul pa pb) := by
  refine de_bin (op_mulA.or op_rep) (fun g n F H σ ρ x y d e R Q hK ok r1 r2 q k => ?_) ha hb
  have q : oMul d e R := q
  unfold oMul at q
  split at q
  · exact .inl ⟨_, _, r1.int ok, r2.int ok, q.1, k F H _ _ (Same.refl F) ok (.int _) q.2⟩
  · obtain ⟨a, xs, rfl, h1, s1⟩ := r1.lst ok
    obtain ⟨q1, q2, q3, q4⟩ := q
    refine .inr ⟨a, _, xs, rfl, r2.int ok, h1, q1, q2, by rw [s1.length]; exact q3, fun p hp => ?_⟩
    exact k (upd F p _) _ _ _ (ok.sameF _ hp) (ok.alloc _ hp) (.lst upd_same ((s1.rep _).mono (ok.sameF _ hp))) q4
  · exact q.elim
def oMod : O2 := oI fun i j R => j ≠ 0 ∧ R (.int (i.fmod j))
theorem de_mod {pos : Pos} (ha : SE X a pa) (hb : SE X b pb) : DE X (.BinOp a .Mod b pos) (pBin oMod pa pb) := de_bin op_modN (op_rI fun _ _ _ _ => .int _) ha hb
def DivOk (_ j : Int) : Prop := j ≠ 0 ∧ j.natAbs.log2 < 9000
theorem op_fdivA : OpR X (binaryOp .FloorDiv) (rI DivOk fun i j => .int (i.fdiv j)) := opI fun i j _ _ _ _ _ hc q => PyProof.Rows.floordiv_int hc.1 q (.inl (PyProof.noPylong_of_log2 hc.2))
def oDiv : O2 := oI fun i j R => DivOk i j ∧ R (.int (i.fdiv j))
theorem de_fdiv {pos : Pos} (ha : SE X a pa) (hb : SE X b pb) : DE X (.BinOp a .FloorDiv b pos) (pBin oDiv pa pb) := de_bin op_fdivA (op_rI fun _ _ _ _ => .int _) ha hb
def oPow : O2 := oI fun i j R => CPow i j ∧ R (.int (i ^ j.toNat))
theorem de_pow {pos : Pos} (ha : SE X a pa) (hb : SE X b pb) : DE X (.BinOp a .Pow b pos) (pBin oPow pa pb) := de_bin op_pow (op_rI fun _ _ _ _ => .int _) ha hb
def pUn (f : Int → D) (a : TPE) : TPE := fun ρ n R => a ρ n fun d n1 => match d with | .int i => R (f i) n1 | _ => False
theorem de_neg {pos : Pos} (ha : SE X a pa) : DE X (.UnaryOp .USub a pos) (pUn (fun i => .int (-i)) pa) := fun g hK => (pe_un un_neg (ha g hK)).imp fun σ H Q ⟨n, F, ρ, R, ok, hq, k⟩ => by
  refine ⟨n, F, ρ, _, ok, hq, fun n1 F1 H1 x d s1 ok1 r1 h1 => ?_⟩
  revert h1
  cases d <;> intro h1 <;> first | exact False.elim h1 | skip
  exact ⟨_, r1.int ok1, k n1 F1 H1 _ _ s1 ok1 (.int _) h1⟩

/-! ### comparisons of ints, of texts -/
def oLt : O2 := fun d e R => match d, e with
  | .int i, .int j => R (.bl (decide (i < j)))
  | .str s, .str t => R (.bl (decide (s.cps.toList < t.cps.toList)))
  | _, _ => False
theorem opp_lt {K : PySem.W.Frag} : OpP K (fun x y H Q => rI0 (fun i j => V.bl (decide (i < j))) x y H Q ∨ ∃ i j, x = .str i ∧ y = .str j ∧ Q (.bl (decide (i.cps.toList < j.cps.toList))) H) oLt := fun g n F H σ ρ x y d e R Q hK ok r1 r2 q k => by
  have q : oLt d e R := q
  unfold oLt at q
  split at q
  · exact .inl ⟨_, _, r1.int ok, r2.int ok, k F H _ _ (Same.refl F) ok (.bl _) q⟩
  · exact .inr ⟨_, _, r1.str ok, r2.str ok, k F H _ _ (Same.refl F) ok (.bl _) q⟩
  · exact q.elim
theorem de_lt {pos : Pos} (ha : SE X a pa) (hb : SE X b pb) : DE X (.Compare a [.Lt] [b] pos) (pBin oLt pa pb) := de_cmp (op_lt.or op_lt_str) opp_lt ha hb (nomark _)
def oLe : O2 := oI fun i j R => R (.bl (decide (i ≤ j)))
theorem de_le {pos : Pos} (ha : SE X a pa) (hb : SE X b pb) : DE X (.Compare a [.LtE] [b] pos) (pBin oLe pa pb) := de_cmp op_le (op_rI0 fun _ _ _ _ => .bl _) ha hb (nomark _)
def oGt : O2 := oI fun i j R => R (.bl (decide (j < i)))
theorem de_gt {pos : Pos} (ha : SE X a pa) (hb : SE X b pb) : DE X (.Compare a [.Gt] [b] pos) (pBin oGt pa pb) := de_cmp op_gt (op_rI0 fun _ _ _ _ => .bl _) ha hb (nomark _)
def oGe : O2 := oI fun i j R => R (.bl (decide (j ≤ i)))
theorem de_ge {pos : Pos} (ha : SE X a pa) (hb : SE X b pb) : DE X (.Compare a [.GtE] [b] pos) (pBin oGe pa pb) := de_cmp op_ge (op_rI0 fun _ _ _ _ => .bl _) ha hb (nomark _)
end
end PL

/-! PL: tests, displays, subscripts, slices, built-ins, calls. -/
namespace PL
open PySem PySem.Spec L2
section
variable {X : Cx} {e a b : Expr} {es rest : List Expr} {p pa pb : TPE} {pos : Pos}

/-! ### tests -/
def pB (p : TPE) : TPT := fun ρ n R => p ρ n fun d m => match d with | .bl b => R b m | _ => False
theorem LE.bool {g : G} {σ : L2.St} {H : Hp} {Q : Bool → Hp → Prop} (h : LT g (pB p) σ H Q) : LE g p σ H fun x H1 => ∃ c, x = .bl c ∧ Q c H1 := by
  obtain ⟨n, F, ρ, R, ok, hq, k⟩ := h
  refine ⟨n, F, ρ, _, ok, hq, fun n1 F1 H1 x d s1 ok1 r1 h1 => ?_⟩
  revert h1 r1
  cases d <;> intro r1 h1 <;> first | exact False.elim h1 | skip
  cases r1
  exact ⟨_, rfl, k n1 F1 H1 _ s1 ok1 h1⟩
theorem dt_val (h : DE X e p) (he : ∀ whole, isTrue e X.env whole = (do let v ← whole; standAt e.pos; holding [v] (truthy v)) := by intro _; rfl) : DT X e (pB p) := fun g hK =>
  (pt_val (h g hK) he).imp fun σ H Q q => LE.bool q
theorem dt_cmp {op : CmpOp} {r : R2} {o : O2} (ho : OpR X (compareOp op) r) (hp : OpP X.K r o) (ha : SE X a pa) (hb : SE X b pb) (hm : behindInMarks op b = false) : DT X (.Compare a [op] [b] pos) (pB (pBin o pa pb)) := fun g hK =>
  (pt_cmpR ho (ha g hK) (hb g hK) hm).imp fun σ H Q h => LQ.two (by rw [hK]; exact hp) (LE.bool h)
theorem dt_lt (ha : SE X a pa) (hb : SE X b pb) : DT X (.Compare a [.Lt] [b] pos) (pB (pBin oLt pa pb)) := dt_cmp (op_lt.or op_lt_str) opp_lt ha hb (nomark _)
theorem dt_le (ha : SE X a pa) (hb : SE X b pb) : DT X (.Compare a [.LtE] [b] pos) (pB (pBin oLe pa pb)) := dt_cmp op_le (op_rI0 fun _ _ _ _ => .bl _) ha hb (nomark _)
theorem dt_gt (ha : SE X a pa) (hb : SE X b pb) : DT X (.Compare a [.Gt] [b] pos) (pB (pBin oGt pa pb)) := dt_cmp op_gt (op_rI0 fun _ _ _ _ => .bl _) ha hb (nomark _)
theorem dt_ge (ha : SE X a pa) (hb : SE X b pb) : DT X (.Compare a [.GtE] [b] pos) (pB (pBin oGe pa pb)) := dt_cmp op_ge (op_rI0 fun _ _ _ _ => .bl _) ha hb (nomark _)
variable {qa qb : TPT}
def pNot (q : TPT) : TPT := fun ρ n R => q ρ n fun b m => R (!b) m
theorem dt_not (h : DT X a qa) : DT X (.UnaryOp .Not a pos) (pNot qa) := fun g hK => (pt_not (h g hK)).imp fun σ H Q ⟨n, F, ρ, R, ok, hq, k⟩ => ⟨n, F, ρ, _, ok, hq, fun n1 F1 H1 b s1 ok1 h1 => k n1 F1 H1 _ s1 ok1 h1⟩
def pAnd (q r : TPT) : TPT := fun ρ n R => q ρ n fun b m => if b = true then r ρ m R else R false m
def pOr (q r : TPT) : TPT := fun ρ n R => q ρ n fun b m => if b = true then R true m else r ρ m R
theorem dw_and1 (h : DT X a qa) : DW X (.BoolOp .And [a] pos) qa := fun g hK => pw_and1 (h g hK)
theorem dw_or1 (h : DT X a qa) : DW X (.BoolOp .Or [a] pos) qa := fun g hK => pw_or1 (h g hK)
theorem dw_and (h : DT X a qa) (h2 : DW X (.BoolOp .And (b :: rest) pos) qb) : DW X (.BoolOp .And (a :: b :: rest) pos) (pAnd qa qb) := fun g hK => (pw_and (h g hK) (h2 g hK)).imp fun σ H Q ⟨n, F, ρ, R, ok, hq, k⟩ => by
  refine ⟨n, F, ρ, _, ok, hq, fun n1 F1 H1 c s1 ok1 h1 => ?_⟩
  cases c with
  | true => exact ⟨n1, F1, ρ, R, ok1, h1, fun n2 F2 H2 c2 s2 ok2 h2 => k n2 F2 H2 c2 (s1.trans s2) ok2 h2⟩
  | false => exact k n1 F1 H1 false s1 ok1 h1
theorem dw_or (h : DT X a qa) (h2 : DW X (.BoolOp .Or (b :: rest) pos) qb) : DW X (.BoolOp .Or (a :: b :: rest) pos) (pOr qa qb) := fun g hK => (pw_or (h g hK) (h2 g hK)).imp fun σ H Q ⟨n, F, ρ, R, ok, hq, k⟩ => by
  refine ⟨n, F, ρ, _, ok, hq, fun n1 F1 H1 c s1 ok1 h1 => ?_⟩
  cases c with
  | false => exact ⟨n1, F1, ρ, R, ok1, h1, fun n2 F2 H2 c2 s2 ok2 h2 => k n2 F2 H2 c2 (s1.trans s2) ok2 h2⟩
  | true => exact k n1 F1 H1 true s1 ok1 h1
theorem dt_w (h : DW X a qa) : DT X a qa := fun g hK => (h g hK).pt
/-- and, or, not as values, of bools -/
def pAndV (q r : TPE) : TPE := fun ρ n R => q ρ n fun d m => match d with | .bl b => if b = true then r ρ m R else R (.bl false) m | _ => False
def pOrV (q r : TPE) : TPE := fun ρ n R => q ρ n fun d m => match d with | .bl b => if b = true then R (.bl true) m else r ρ m R | _ => False
def pNotV (q : TPE) : TPE := fun ρ n R => q ρ n fun d m => match d with | .bl b => R (.bl (!b)) m | _ => False
theorem de_one {op} (h : DE X a pa) : DE X (.BoolOp op [a] pos) pa := fun g hK => pe_one (h g hK)
theorem de_and (h : DE X a pa) (h2 : DE X (.BoolOp .And (b :: rest) pos) pb) : DE X (.BoolOp .And (a :: b :: rest) pos) (pAndV pa pb) := fun g hK => (pe_and (h g hK) (h2 g hK)).imp fun σ H Q ⟨n, F, ρ, R, ok, hq, k⟩ => by
  refine ⟨n, F, ρ, _, ok, hq, fun n1 F1 H1 x d s1 ok1 r1 h1 => ?_⟩
  revert h1 r1
  cases d <;> intro r1 h1 <;> first | exact False.elim h1 | skip
  cases r1
  rename_i c
  refine ⟨c, rfl, ?_⟩
  cases c with
  | true => exact ⟨n1, F1, ρ, R, ok1, h1, fun n2 F2 H2 v d s2 ok2 r2 h2 => k n2 F2 H2 v d (s1.trans s2) ok2 r2 h2⟩
  | false => exact k n1 F1 H1 _ _ s1 ok1 (.bl false) h1
theorem de_or (h : DE X a pa) (h2 : DE X (.BoolOp .Or (b :: rest) pos) pb) : DE X (.BoolOp .Or (a :: b :: rest) pos) (pOrV pa pb) := fun g hK => (pe_or (h g hK) (h2 g hK)).imp fun σ H Q ⟨n, F, ρ, R, ok, hq, k⟩ => by
  refine ⟨n, F, ρ, _, ok, hq, fun n1 F1 H1 x d s1 ok1 r1 h1 => ?_⟩
  revert h1 r1
  cases d <;> intro r1 h1 <;> first | exact False.elim h1 | skip
  cases r1
  rename_i c
  refine ⟨c, rfl, ?_⟩
  cases c with
  | false => exact ⟨n1, F1, ρ, R, ok1, h1, fun n2 F2 H2 v d s2 ok2 r2 h2 => k n2 F2 H2 v d (s1.trans s2) ok2 r2 h2⟩
  | true => exact k n1 F1 H1 _ _ s1 ok1 (.bl true) h1
theorem de_not (h : DE X a pa) : DE X (.UnaryOp .Not a pos) (pNotV pa) := fun g hK => (pe_not (h g hK)).imp fun σ H Q ⟨n, F, ρ, R, ok, hq, k⟩ => by
  refine ⟨n, F, ρ, _, ok, hq, fun n1 F1 H1 x d s1 ok1 r1 h1 => ?_⟩
  revert h1 r1
  cases d <;> intro r1 h1 <;> first | exact False.elim h1 | skip
  cases r1
  exact ⟨_, rfl, k n1 F1 H1 _ _ s1 ok1 (.bl _) h1⟩
def pIf (c : TPT) (p q : TPE) : TPE := fun ρ n R => c ρ n fun b m => if b = true then p ρ m R else q ρ m R
theorem de_ife {c : Expr} (hc : DT X c qa) (ha : DE X a pa) (hb : DE X b pb) : DE X (.IfExp c a b pos) (pIf qa pa pb) := fun g hK => (pe_ifExp (hc g hK) (ha g hK) (hb g hK)).imp fun σ H Q ⟨n, F, ρ, R, ok, hq, k⟩ => by
  refine ⟨n, F, ρ, _, ok, hq, fun n1 F1 H1 c s1 ok1 h1 => ?_⟩
  cases c with
  | true => exact ⟨n1, F1, ρ, R, ok1, h1, fun n2 F2 H2 v d s2 ok2 r2 h2 => k n2 F2 H2 v d (s1.trans s2) ok2 r2 h2⟩
  | false => exact ⟨n1, F1, ρ, R, ok1, h1, fun n2 F2 H2 v d s2 ok2 r2 h2 => k n2 F2 H2 v d (s1.trans s2) ok2 r2 h2⟩

/-! ### argument lists, displays -/
variable {ta : TPA}
def pNil : TPA := fun _ n R => R [] n
def pCons (p : TPE) (t : TPA) : TPA := fun ρ n R => p ρ n fun d m => t ρ m fun ds k => R (d :: ds) k
theorem da_nil : DA X [] pNil := fun g hK => pa_nil.imp fun σ H Q ⟨n, F, ρ, R, ok, hq, k⟩ => k n F H _ _ (Same.refl F) ok .nil hq
theorem da_cons (h : DE X e p) (hr : DA X es ta) (hs : starEach (e :: es) X.env = (false, eval e X.env) :: starEach es X.env := by rfl) : DA X (e :: es) (pCons p ta) := fun g hK => (pa_cons (h g hK) (hr g hK) hs).imp fun σ H Q ⟨n, F, ρ, R, ok, hq, k⟩ =>
  ⟨n, F, ρ, _, ok, hq, fun n1 F1 H1 x d s1 ok1 r1 h1 => ⟨n1, F1, ρ, _, ok1, h1, fun n2 F2 H2 vs ds s2 ok2 r2 h2 => k n2 F2 H2 _ _ (s1.trans s2) ok2 (.cons (r1.mono s2) r2) h2⟩⟩
theorem sa_nil : SA X [] pNil := fun g hK => pa_nil.imp fun σ H Q ⟨n, F, ρ, R, ok, hq, k⟩ => k n F H _ _ (Same.refl F) ok .nil hq
theorem sa_cons (h : SE X e p) (hr : SA X es ta) (hs : starEach (e :: es) X.env = (false, eval e X.env) :: starEach es X.env := by rfl) : SA X (e :: es) (pCons p ta) := fun g hK => (pa_cons (h g hK) (hr g hK) hs).imp fun σ H Q ⟨n, F, ρ, R, ok, hq, k⟩ =>
  ⟨n, F, ρ, _, ok, hq, fun n1 F1 H1 x d s1 ok1 r1 h1 => ⟨n1, F1, ρ, _, ok1, h1, fun n2 F2 H2 vs ds s2 ok2 r2 h2 => k n2 F2 H2 _ _ (s1.trans s2) ok2 (.cons (r1.mono s2) r2) h2⟩⟩
/-- a list of constants -/
def constE : Expr → Option D
  | .Constant (.int i) _ _ => some (.int i)
  | .Constant (.str x) _ _ => some (.str x)
  | .Constant (.bool b) _ _ => some (.bl b)
  | .Constant .none _ _ => some .non
  | _ => none
def constsA : List Expr → Option (List D)
  | [] => some []
  | e :: es => match constE e, constsA es with | some d, some ds => some (d :: ds) | _, _ => none
def pConsts (ds : List D) : TPA := fun _ n R => R ds n
theorem da_consts : ∀ {es : List Expr} {ds : List D}, constsA es = some ds → DA X es (pConsts ds)
  | [], ds, h => by cases h; exact fun g hK => da_nil g hK
  | e :: es, ds, h => by
    rw [constsA] at h
    cases h1 : constE e with
    | none => rw [h1] at h; cases h
    | some d =>
      cases h2 : constsA es with
      | none => rw [h1, h2] at h; cases h
      | some xs =>
        rw [h1, h2] at h
        cases h
        have ih := da_consts h2
        unfold constE at h1
        split at h1
        · cases h1; exact da_cons de_int ih
        · cases h1; exact da_cons de_str ih
        · cases h1; exact da_cons de_bl ih
        · cases h1; exact da_cons de_non ih
        · cases h1
def pTup (t : TPA) : TPE := fun ρ n R => t ρ n fun ds m => ds.length ≤ sizeLine ∧ R (.tup ds) m
theorem de_tup {x1} (h : DA X es ta) : DE X (.Tuple es x1 pos) (pTup ta) := fun g hK => (pe_tup (h g hK)).imp fun σ H Q ⟨n, F, ρ, R, ok, hq, k⟩ =>
  ⟨n, F, ρ, _, ok, hq, fun n1 F1 H1 vs ds s1 ok1 r1 h1 => ⟨by rw [r1.length]; exact h1.1, fun q hn => k n1 (upd F1 q _) _ _ _ (s1.trans (ok1.sameF _ hn)) (ok1.alloc _ hn) (.tup (SqT.of upd_same) (r1.mono (ok1.sameF _ hn))) h1.2⟩⟩
def pLst (t : TPA) : TPE := fun ρ n R => t ρ n fun ds m => ds.length ≤ sizeLine ∧ R (.lst ds) m
theorem fe_lst (h : DA X es ta) : FE X (.List es pos) (pLst ta) := fun g hK => (pe_lst (h g hK)).imp fun σ H Q ⟨n, F, ρ, R, ok, hq, k⟩ =>
  ⟨n, F, ρ, _, ok, hq, fun n1 F1 H1 vs ds s1 ok1 r1 h1 => ⟨by rw [r1.length]; exact h1.1, fun q hn => k n1 F1 H1 q _ _ s1 ok1 hn (.lst r1) h1.2⟩⟩
theorem fe_dnew : FE X (.Dict [] [] pos) (pC (.dic [] [])) := fun g hK => pe_dnewK.imp fun σ H Q ⟨n, F, ρ, R, ok, hq, k⟩ => fun q hn => k n F H q _ _ (Same.refl F) ok hn (.dic (ks := []) (xs := []) rfl .nil) hq

/-! ### subscripts -/
def oIx : O2 := fun d e R => match d, e with
  | .lst ds, .int i => match atI ds i with | some z => R z | none => False
  | .tup ds, .int i => match atI ds i with | some z => R z | none => False
  | .str s, .int i => s.length ≤ sizeLine ∧ match atI s.cps.toList i with | some c => R (.str ⟨#[c]⟩) | none => False
  | _, _ => False
theorem Reps.atI {c : Cfg} {F : Hp} {xs : List V} {ds : List D} {i : Int} {z : D} (r : Reps c F xs ds) (h : L2.atI ds i = some z) : ∃ v, L2.atI xs i = some v ∧ Rep c F v z := by
  unfold L2.atI at h ⊢
  rw [r.length]
  cases q : ixN ds.length i with
  | none => rw [q] at h; cases h
  | some j =>
    rw [q] at h
    exact r.get h
theorem de_sub_ix (ha : SE X a pa) (hb : SE X b pb) (hs : PlainIx b := by intro _ _; rfl) : DE X (.Subscript a b pos) (pBin oIx pa pb) := by
  refine de_ix ix_seq (fun g n F H σ ρ x y d e R Q hK ok r1 r2 q k => ?_) ha hb hs
  have q : oIx d e R := q
  unfold oIx at q
  split at q
  · obtain ⟨a, xs, rfl, h1, s1⟩ := r1.lst ok
    split at q
    · rename_i z hz
      obtain ⟨v, hv, r⟩ := s1.atI hz
      exact .inl ⟨a, xs, _, v, rfl, r2.int ok, SqL.of h1, hv, k F H v z (Same.refl F) ok r q⟩
    · exact q.elim
  · obtain ⟨a, xs, rfl, h1, s1, _⟩ := r1.tup ok
    rw [hK] at h1
    split at q
    · rename_i z hz
      obtain ⟨v, hv, r⟩ := s1.atI hz
      exact .inr (.inl ⟨a, xs, _, v, rfl, r2.int ok, h1, hv, k F H v z (Same.refl F) ok r q⟩)
    · exact q.elim
  · obtain ⟨hz, q⟩ := q
    split at q
    · rename_i c hc
      exact .inr (.inr ⟨_, _, c, r1.str ok, r2.int ok, hz, hc, k F H _ _ (Same.refl F) ok (.str _) q⟩)
    · exact q.elim
  · exact q.elim

/-! ### slices -/
def cutL {α : Type} (xs : List α) (lo hi : Option Int) : List α := (xs.drop (HT.sIx xs.length 0 lo)).take (HT.sIx xs.length xs.length hi - HT.sIx xs.length 0 lo)
theorem Reps.cut {c : Cfg} {F : Hp} {xs : List V} {ds : List D} (r : Reps c F xs ds) (lo hi : Option Int) : Reps c F (cutV xs lo hi) (cutL ds lo hi) := by
  unfold cutV cutL
  rw [r.length]
  exact (r.drop _).take _
abbrev TPO := PEnv → Nat → (Option Int → Nat → Prop) → Prop
def LO (g : G) (p : TPO) : TO := fun σ H Q => ∃ n F ρ R, Ok g n F H σ ρ ∧ p ρ n R ∧ ∀ n' F' H' o, Same F F' → Ok g n' F' H' σ ρ → R o n' → Q o H'
def DO (X : Cx) (e : Option Expr) (p : TPO) : Prop := ∀ g : G, g.c.K = X.K → PO X e (LO g p)
theorem _root_.L2.PO.imp {X : Cx} {e : Option Expr} {t t' : TO} (h : PO X e t) (w : ∀ σ H Q, t' σ H Q → t σ H Q) : PO X e t' := by
  constructor
  intro pins s σ H Q I q
  exact h.run pins s σ H Q I (w σ H Q q)
def pNo : TPO := fun _ n R => R none n
def pPart (p : TPE) : TPO := fun ρ n R => p ρ n fun d m => match d with | .int i => R (some i) m | _ => False
theorem do_none : DO X none pNo := fun g hK => po_none.imp fun σ H Q ⟨n, F, ρ, R, ok, hq, k⟩ => k n F H _ (Same.refl F) ok hq
theorem do_some (h : SE X e p) : DO X (some e) (pPart p) := fun g hK => (po_some (h g hK)).imp fun σ H Q ⟨n, F, ρ, R, ok, hq, k⟩ => by
  refine ⟨n, F, ρ, _, ok, hq, fun n1 F1 H1 x d s1 ok1 r1 h1 => ?_⟩
  revert h1 r1
  cases d <;> intro r1 h1 <;> first | exact False.elim h1 | skip
  exact ⟨_, r1.int ok1, k n1 F1 H1 _ s1 ok1 h1⟩
def oSl (d : D) (lo hi : Option Int) (R : D → Prop) : Prop := match d with
  | .lst ds => R (.lst (cutL ds lo hi))
  | .tup ds => R (.tup (cutL ds lo hi))
  | .str s => s.length ≤ sizeLine ∧ R (.str (cutS s lo hi))
  | _ => False
def pSl (p : TPE) (l h : TPO) : TPE := fun ρ n R => p ρ n fun d n1 => l ρ n1 fun lo n2 => h ρ n2 fun hi n3 => oSl d lo hi fun z => R z n3
theorem cutL_whole {α : Type} {xs : List α} {lo hi : Option Int} (h : HT.sIx xs.length 0 lo = 0 ∧ HT.sIx xs.length xs.length hi = xs.length) : cutL xs lo hi = xs := by
  unfold cutL
  rw [h.1, h.2]
  simp
theorem de_slice {lo hi : Option Expr} {p2 : Pos} {pl ph : TPO} (h : SE X e p) (hl : DO X lo pl) (hh : DO X hi ph) : DE X (.Subscript e (.Slice lo hi none p2) pos) (pSl p pl ph) := fun g hK =>
  (pe_slice (sl_list.or (sl_tupA.or sl_str)) (h g hK) (hl g hK) (hh g hK)).imp fun σ H Q ⟨n, F, ρ, R, ok, hq, k⟩ => by
  refine ⟨n, F, ρ, _, ok, hq, fun n1 F1 H1 x d s1 ok1 r1 h1 => ⟨n1, F1, ρ, _, ok1, h1, fun n2 F2 H2 lo s2 ok2 h2 => ⟨n2, F2, ρ, _, ok2, h2, fun n3 F3 H3 hi s3 ok3 h3 => ?_⟩⟩⟩
  have r1 := (r1.mono s2).mono s3
  have s13 := s1.trans (s2.trans s3)
  have h3 : oSl d lo hi fun z => R z n3 := h3
  unfold oSl at h3
  split at h3
  · obtain ⟨a, xs, rfl, e1, t1⟩ := r1.lst ok3
    exact .inl ⟨a, xs, rfl, SqL.of e1, fun q hn => k n3 (upd F3 q _) _ _ _ (s13.trans (ok3.sameF _ hn)) (ok3.alloc _ hn) (.lst upd_same ((t1.cut lo hi).mono (ok3.sameF _ hn))) h3⟩
  · obtain ⟨a, xs, rfl, e1, t1, t2⟩ := r1.tup ok3
    rw [hK] at e1
    refine .inr (.inl ⟨a, xs, rfl, e1, fun hw => ?_, fun _ q hn => ?_⟩)
    · rw [t1.length] at hw
      rw [cutL_whole hw] at h3
      exact k n3 F3 H3 _ _ s13 ok3 t2 h3
    · exact k n3 (upd F3 q _) _ _ _ (s13.trans (ok3.sameF _ hn)) (ok3.alloc _ hn) (.tup (SqT.of upd_same) ((t1.cut lo hi).mono (ok3.sameF _ hn))) h3
  · exact .inr (.inr ⟨_, r1.str ok3, h3.1, k n3 F3 H3 _ _ s13 ok3 (.str _) h3.2⟩)
  · exact h3.elim

/-! ### built-in functions -/
abbrev OL := List D → (D → Prop) → Prop
def CaP (K : PySem.W.Frag) (r : List V → Hp → VK → Prop) (o : OL) : Prop := ∀ (g : G) (n : Nat) (F H : Hp) (σ : L2.St) (ρ : PEnv) (xs : List V) (ds : List D) (R : D → Prop) (Q : VK), g.c.K = K → Ok g n F H σ ρ → RRs g F σ ρ xs ds → o ds R →
  (∀ F' H' v z, Same F F' → Ok g n F' H' σ ρ → Rep g.c F' v z → R z → Q v H') → r xs H Q
def pCall (o : OL) (t : TPA) : TPE := fun ρ n R => t ρ n fun ds m => o ds fun z => R z m
theorem LB.call {g : G} {r : List V → Hp → VK → Prop} {o : OL} (hp : CaP g.c.K r o) {σ : L2.St} {H : Hp} {Q : VK} (h : LE g (pCall o ta) σ H Q) : tCB r (LB g ta) σ H Q := by
  obtain ⟨n, F, ρ, R, ok, hq, k⟩ := h
  exact ⟨n, F, ρ, _, ok, hq, fun n1 F1 H1 vs ds s1 ok1 r1 h1 => hp g n1 F1 H1 σ ρ vs ds _ Q rfl ok1 r1 h1 fun F3 H3 v z s3 ok3 r3 h3 => k n1 F3 H3 v z (s1.trans s3) ok3 r3 h3⟩
theorem de_callB {x : Str} {pf : Pos} {id : String} {r : List V → Hp → VK → Prop} {o : OL} (hc : CallR X (.builtin id) r) (hp : CaP X.K r o) (hg : Gl X x) (hm : X.mg x = none) (hv : bootBuiltins x = some (.builtin id)) (ha : SA X (e :: es) ta)
    (hn : x ≠ "__name__" := by decide) (hdb : (x == ("__debug__" : Str)) = false := by decide)
    (he : starEach (e :: es) X.env = (false, eval e X.env) :: starEach es X.env := by rfl) (hpl : (backTo pos (starEach es X.env)).any (·.1) = false := by rfl) : DE X (.Call (.Name x pf) (e :: es) [] pos) (pCall o ta) := fun g hK =>
  (pe_callB hc hg hm hv (ha g hK) hn hdb he hpl).imp fun σ H Q h => LB.call (by rw [hK]; exact hp) h
theorem de_callTy {x : Str} {pf : Pos} {id : String} {r : List V → Hp → VK → Prop} {o : OL} (hc : CallR X (.type id) r) (hp : CaP X.K r o) (hg : Gl X x) (hm : X.mg x = none) (hv : bootBuiltins x = some (.type id)) (ha : SA X (e :: es) ta)
    (hn : x ≠ "__name__" := by decide) (hdb : (x == ("__debug__" : Str)) = false := by decide)
    (he : starEach (e :: es) X.env = (false, eval e X.env) :: starEach es X.env := by rfl) (hpl : (backTo pos (starEach es X.env)).any (·.1) = false := by rfl) : DE X (.Call (.Name x pf) (e :: es) [] pos) (pCall o ta) := fun g hK =>
  (pe_callTy hc hg hm hv (ha g hK) hn hdb he hpl).imp fun σ H Q h => LB.call (by rw [hK]; exact hp) h
/-- len -/
def oLen : OL := fun ds R => match ds with
  | [.lst xs] => R (.int xs.length)
  | [.tup xs] => R (.int xs.length)
  | [.str s] => s.length ≤ sizeLine ∧ R (.int s.length)
  | _ => False
theorem cp_len : CaP X.K (fun xs H Q => ∃ x n, xs = [x] ∧ LenV X.K x H n ∧ Q (.int n) H) oLen := fun g n F H σ ρ xs ds R Q hK ok r q k => by
  have q : oLen ds R := q
  unfold oLen at q
  split at q
  · cases r with
    | cons r t =>
      cases t
      obtain ⟨a, xs, rfl, h1, s1⟩ := r.lst ok
      exact ⟨_, _, rfl, .inl ⟨xs, SqL.of h1, rfl⟩, k F H _ _ (Same.refl F) ok (by rw [s1.length]; exact .int _) q⟩
  · cases r with
    | cons r t =>
      cases t
      obtain ⟨a, xs, rfl, h1, s1, _⟩ := r.tup ok
      rw [hK] at h1
      exact ⟨_, _, rfl, .inr ⟨xs, h1, rfl⟩, k F H _ _ (Same.refl F) ok (by rw [s1.length]; exact .int _) q⟩
  · cases r with
    | cons r t =>
      cases t
      cases r.str ok
      exact ⟨_, _, rfl, ⟨q.1, rfl⟩, k F H _ _ (Same.refl F) ok (.int _) q.2⟩
  · exact q.elim
theorem de_len {pf : Pos} (hm : X.mg "len" = none) (hg : Gl X "len") (ha : SA X [e] ta) (he : starEach [e] X.env = (false, eval e X.env) :: starEach [] X.env := by rfl) : DE X (.Call (.Name "len" pf) [e] [] pos) (pCall oLen ta) :=
  de_callB call_len cp_len hg hm PySem.boot_len ha (he := he) (hpl := rfl)
/-- int, of an int or a bool -/
def oInt : OL := fun ds R => match ds with
  | [.int i] => R (.int i)
  | [.bl b] => R (.int (if b then 1 else 0))
  | _ => False
theorem cp_int {K : PySem.W.Frag} : CaP K (fun xs H Q => (∃ i, xs = [.int i] ∧ Q (.int i) H) ∨ ∃ k, xs = [.bl k] ∧ Q (.int (if k then 1 else 0)) H) oInt := fun g n F H σ ρ xs ds R Q hK ok r q k => by
  have q : oInt ds R := q
  unfold oInt at q
  split at q
  · cases r with
    | cons r t =>
      cases t
      cases r.int ok
      exact .inl ⟨_, rfl, k F H _ _ (Same.refl F) ok (.int _) q⟩
  · cases r with
    | cons r t =>
      cases t
      cases r.bl ok
      exact .inr ⟨_, rfl, k F H _ _ (Same.refl F) ok (.int _) q⟩
  · exact q.elim
end
end PL

/-! PL: statements, loops, comprehensions, calls of defs. -/
namespace PL
open PySem PySem.Spec L2
structure Conts (g : G) (F : Hp) (P : Post) (D : Ends) : Prop where
  nx : ∀ n F' H σ ρ, Same F F' → Ok g n F' H σ ρ → P.nx ρ n → D.nx σ H
  rt : ∀ n F' H σ ρ v d, Same F F' → Ok g n F' H σ ρ → Rep g.c F' v d → P.rt d n → D.rt v H
  bk : ∀ n F' H σ ρ, Same F F' → Ok g n F' H σ ρ → P.bk ρ n → D.bk σ H
  ct : ∀ n F' H σ ρ, Same F F' → Ok g n F' H σ ρ → P.ct ρ n → D.ct σ H
theorem Conts.mono {g : G} {F F' : Hp} {P : Post} {D : Ends} (h : Conts g F P D) (s : Same F F') : Conts g F' P D :=
  ⟨fun n F2 H σ ρ s2 => h.nx n F2 H σ ρ (s.trans s2), fun n F2 H σ ρ v d s2 => h.rt n F2 H σ ρ v d (s.trans s2), fun n F2 H σ ρ s2 => h.bk n F2 H σ ρ (s.trans s2), fun n F2 H σ ρ s2 => h.ct n F2 H σ ρ (s.trans s2)⟩
def LS (g : G) (p : TPS) : TS := fun D σ H => ∃ n F ρ P, Ok g n F H σ ρ ∧ p P ρ n ∧ Conts g F P D
def DS (X : Cx) (st : Stmt) (p : TPS) : Prop := ∀ g : G, g.c.K = X.K → PS X st (LS g p)
def DSs (X : Cx) (st : List Stmt) (p : TPS) : Prop := ∀ g : G, g.c.K = X.K → PSs X st (LS g p)
section
variable {X : Cx} {st : Stmt} {rest : List Stmt} {e a b : Expr} {p pa pb : TPE} {q q2 : TPS} {pos : Pos}
def pNext : TPS := fun P ρ n => P.nx ρ n
def pSeq (p q : TPS) : TPS := fun P ρ n => p { P with nx := q P } ρ n
theorem dss_nil : DSs X [] pNext := fun g hK => pss_nil.imp fun D σ H ⟨n, F, ρ, P, ok, h, k⟩ => k.nx n F H σ ρ (Same.refl F) ok h
theorem dss_cons (h1 : DS X st q) (h2 : DSs X rest q2) : DSs X (st :: rest) (pSeq q q2) := fun g hK => (pss_cons (h1 g hK) (h2 g hK)).imp fun D σ H ⟨n, F, ρ, P, ok, h, k⟩ =>
  ⟨n, F, ρ, _, ok, h, ⟨fun n1 F1 H1 σ1 ρ1 s1 ok1 h1 => ⟨n1, F1, ρ1, P, ok1, h1, k.mono s1⟩, k.rt, k.bk, k.ct⟩⟩
theorem dss_one (h1 : DS X st q) : DSs X [st] q := fun g hK => pss_one (h1 g hK)
theorem ds_pass : DS X (.Pass pos) pNext := fun g hK => ps_pass.imp fun D σ H ⟨n, F, ρ, P, ok, h, k⟩ => k.nx n F H σ ρ (Same.refl F) ok h
theorem ds_doc {x j pos pos'} : DS X (.Expr (.Constant (.str x) j pos) pos') pNext := fun g hK => ps_doc.imp fun D σ H ⟨n, F, ρ, P, ok, h, k⟩ => k.nx n F H σ ρ (Same.refl F) ok h
def pBrk : TPS := fun P ρ n => P.bk ρ n
def pCnt : TPS := fun P ρ n => P.ct ρ n
theorem ds_break : DS X (.Break pos) pBrk := fun g hK => ps_break.imp fun D σ H ⟨n, F, ρ, P, ok, h, k⟩ => k.bk n F H σ ρ (Same.refl F) ok h
theorem ds_continue : DS X (.Continue pos) pCnt := fun g hK => ps_continue.imp fun D σ H ⟨n, F, ρ, P, ok, h, k⟩ => k.ct n F H σ ρ (Same.refl F) ok h
/-- a name of one's own is read as a value: it is frozen -/
theorem RR.frozen {g : G} {n : Nat} {F H : Hp} {σ : L2.St} {ρ : PEnv} {x : V} {d : D} (ok : Ok g n F H σ ρ) (h : RR g F σ ρ x d) : ∃ F' ρ', Same F F' ∧ Ok g n F' H σ ρ' ∧ Rep g.c F' x d := by
  rcases h with h | ⟨i, hi, hs⟩
  · exact ⟨F, ρ, Same.refl F, ok, h⟩
  · obtain ⟨F', s, ok'⟩ := ok.freeze hi
    obtain ⟨v, e, r⟩ := ok'.cells i _ (set_same (lt_of_get hi))
    rw [hs] at e
    cases e
    exact ⟨F', _, s, ok', r⟩
def pRet (p : TPE) : TPS := fun P ρ n => p ρ n P.rt
theorem ds_ret (h : SE X e p) : DS X (.Return (some e) pos) (pRet p) := fun g hK => (ps_ret (h g hK)).imp fun D σ H ⟨n, F, ρ, P, ok, h, k⟩ =>
  ⟨n, F, ρ, _, ok, h, fun n1 F1 H1 v d s1 ok1 r1 h1 => by
    obtain ⟨F2, ρ2, s2, ok2, r2⟩ := r1.frozen ok1
    exact k.rt n1 F2 H1 σ ρ2 v d (s1.trans s2) ok2 r2 h1⟩
def pIfS (c : TPT) (p q : TPS) : TPS := fun P ρ n => c ρ n fun b m => if b = true then p P ρ m else q P ρ m
theorem ds_if {c : Expr} {as bs : List Stmt} {qc : TPT} (hc : DT X c qc) (ha : DSs X as q) (hb : DSs X bs q2) : DS X (.If c as bs pos) (pIfS qc q q2) := fun g hK => (ps_if (hc g hK) (ha g hK) (hb g hK)).imp fun D σ H ⟨n, F, ρ, P, ok, h, k⟩ =>
  ⟨n, F, ρ, _, ok, h, fun n1 F1 H1 b s1 ok1 h1 => by
    cases b with
    | true => exact ⟨n1, F1, ρ, P, ok1, h1, k.mono s1⟩
    | false => exact ⟨n1, F1, ρ, P, ok1, h1, k.mono s1⟩⟩
def pDrop (p : TPE) : TPS := fun P ρ n => p ρ n fun _ m => P.nx ρ m
theorem ds_expr (h : DE X e p) (hs : swapsWith e none pos.line X.env = pure false := by rfl) : DS X (.Expr e pos) (pDrop p) := fun g hK => (ps_expr (h g hK) hs).imp fun D σ H ⟨n, F, ρ, P, ok, h, k⟩ =>
  ⟨n, F, ρ, _, ok, h, fun n1 F1 H1 v d s1 ok1 r1 h1 => k.nx n1 F1 H1 σ ρ s1 ok1 h1⟩

/-! ### targets -/
def wipeC (ρ : PEnv) : List Nat → PEnv
  | [] => ρ
  | v :: vs => (wipeC ρ vs).set v .any
theorem set_set_ne {α : Type} (l : List α) {i j : Nat} (a b : α) (h : i ≠ j) : (l.set i a).set j b = (l.set j b).set i a := (List.set_comm a b h)
theorem wipe_set_out (σ : L2.St) (i : Nat) (x : Option V) : ∀ ws : List Nat, i ∈ ws → wipe (σ.set i x) ws = wipe σ ws
  | [], h => nomatch h
  | v :: vs, h => by
    unfold wipe
    by_cases e : i ∈ vs
    · rw [wipe_set_out σ i x vs e]
    · have e1 : i = v := (List.mem_cons.mp h).resolve_right e
      subst e1
      have : ∀ ws : List Nat, i ∉ ws → wipe (σ.set i x) ws = (wipe σ ws).set i x := fun ws => by
        induction ws with
        | nil => intro _; rfl
        | cons w ws ih =>
          intro hn
          rw [List.mem_cons, not_or] at hn
          show (wipe (σ.set i x) ws).set w none = ((wipe σ ws).set w none).set i x
          rw [ih hn.2, set_set_ne _ _ _ hn.1]
      rw [this vs e, List.set_set]
theorem wipeC_set_out (ρ : PEnv) (i : Nat) (x : Cell) : ∀ ws : List Nat, i ∈ ws → wipeC (ρ.set i x) ws = wipeC ρ ws
  | [], h => nomatch h
  | v :: vs, h => by
    unfold wipeC
    by_cases e : i ∈ vs
    · rw [wipeC_set_out ρ i x vs e]
    · have e1 : i = v := (List.mem_cons.mp h).resolve_right e
      subst e1
      have : ∀ ws : List Nat, i ∉ ws → wipeC (ρ.set i x) ws = (wipeC ρ ws).set i x := fun ws => by
        induction ws with
        | nil => intro _; rfl
        | cons w ws ih =>
          intro hn
          rw [List.mem_cons, not_or] at hn
          show (wipeC (ρ.set i x) ws).set w .any = ((wipeC ρ ws).set w .any).set i x
          rw [ih hn.2, set_set_ne _ _ _ hn.1]
      rw [this vs e, List.set_set]
/-- only the places is are changed -/
def Just (is : List Nat) (σ σ' : L2.St) (ρ ρ' : PEnv) : Prop := ∀ ws : List Nat, (∀ j ∈ is, j ∈ ws) → wipe σ' ws = wipe σ ws ∧ wipeC ρ' ws = wipeC ρ ws
abbrev TPG := D → PEnv → Nat → (PEnv → Nat → Prop) → Prop
def LG (g : G) (t : TPG) (is : List Nat) : TG := fun v σ H Q => ∃ n F ρ d S, Ok g n F H σ ρ ∧ Rep g.c F v d ∧ t d ρ n S ∧ ∀ n' F' H' σ' ρ', Same F F' → Ok g n' F' H' σ' ρ' → Just is σ σ' ρ ρ' → S ρ' n' → Q σ' H'
def DG (X : Cx) (tg : Expr) (t : TPG) (is : List Nat) : Prop := ∀ g : G, g.c.K = X.K → PG X tg (LG g t is)
abbrev TPGs := List D → PEnv → Nat → (PEnv → Nat → Prop) → Prop
def LGs (g : G) (t : TPGs) (is : List Nat) : TGs := fun vs σ H Q => ∃ n F ρ ds S, Ok g n F H σ ρ ∧ Reps g.c F vs ds ∧ t ds ρ n S ∧ ∀ n' F' H' σ' ρ', Same F F' → Ok g n' F' H' σ' ρ' → Just is σ σ' ρ ρ' → S ρ' n' → Q σ' H'
def DGs (X : Cx) (tg : List Expr) (t : TPGs) (is : List Nat) : Prop := ∀ g : G, g.c.K = X.K → PGs X tg (LGs g t is)
def gSet (i : Nat) : TPG := fun d ρ n S => S (ρ.set i (.sh d)) n
theorem dg_name {i : Nat} (h : PG X e (gName i)) : DG X e (gSet i) [i] := fun g hK => h.imp fun v σ H Q ⟨n, F, ρ, d, S, ok, r, h, k⟩ => k n F H _ _ (Same.refl F) (ok.set i r) (fun ws hw => ⟨wipe_set_out σ i _ ws (hw i List.mem_cons_self), wipeC_set_out ρ i _ ws (hw i List.mem_cons_self)⟩) h
def gNil' : TPGs := fun ds ρ n S => ds = [] ∧ S ρ n
def gCons' (t : TPG) (u : TPGs) : TPGs := fun ds ρ n S => match ds with | d :: r => t d ρ n fun ρ1 m => u r ρ1 m S | [] => False
def gTup' (k : Nat) (t : TPGs) : TPG := fun d ρ n S => match d with | .tup ds => ds.length = k ∧ t ds ρ n S | _ => False
theorem dgs_nil : DGs X [] gNil' [] := fun g hK => pgs_nil.imp fun v σ H Q ⟨n, F, ρ, d, S, ok, r, h, k⟩ => by
  obtain ⟨rfl, h⟩ := h
  cases r
  exact ⟨rfl, k n F H _ _ (Same.refl F) ok (fun _ _ => ⟨rfl, rfl⟩) h⟩
theorem dgs_cons {es : List Expr} {t : TPG} {u : TPGs} {is js : List Nat} (h1 : DG X e t is) (h2 : DGs X es u js) (hs : (assignEach (e :: es) X.env).map (·.2) = assign e X.env :: (assignEach es X.env).map (·.2) := by rfl) : DGs X (e :: es) (gCons' t u) (is ++ js) := fun g hK => (pgs_cons (h1 g hK) (h2 g hK) hs).imp fun v σ H Q ⟨n, F, ρ, d, S, ok, r, h, k⟩ => by
  cases r with
  | nil => exact False.elim h
  | cons r rs => exact ⟨_, _, rfl, n, F, ρ, _, _, ok, r, h, fun n1 F1 H1 σ1 ρ1 s1 ok1 j1 h1 => ⟨n1, F1, ρ1, _, S, ok1, rs.mono s1, h1, fun n2 F2 H2 σ2 ρ2 s2 ok2 j2 h2 => k n2 F2 H2 σ2 ρ2 (s1.trans s2) ok2 (fun ws hw => by
      obtain ⟨a1, b1⟩ := j1 ws fun j hj => hw j (List.mem_append_left _ hj)
      obtain ⟨a2, b2⟩ := j2 ws fun j hj => hw j (List.mem_append_right _ hj)
      exact ⟨a2.trans a1, b2.trans b1⟩) h2⟩⟩
theorem dg_tup {es : List Expr} {u : TPGs} {kk m : Nat} {is : List Nat} (h : DGs X es u is) (hc : X.calm = true := by rfl) (hn : (assignEach es X.env).length = m := by rfl) (hst : (assignEach es X.env).findIdx? (·.1) = none := by rfl) : DG X (.Tuple es kk pos) (gTup' m u) is := fun g hK => (pg_tup hc (h g hK) hn hst).imp fun v σ H Q ⟨n, F, ρ, d, S, ok, r, h, k⟩ => by
  revert h r
  cases d <;> intro r h <;> first | exact False.elim h | skip
  cases r with
  | tup hT rs =>
    refine ⟨_, _, rfl, ?_, by rw [rs.length]; exact h.1, n, F, ρ, _, S, ok, rs, h.2, k⟩
    rw [← hK]
    exact Same.seqT ok.sub hT
def pAsg (p : TPE) (t : TPG) : TPS := fun P ρ n => p ρ n fun d m => t d ρ m P.nx
theorem ds_asg {tg : Expr} {t : TPG} {is : List Nat} (h : DE X e p) (hg : DG X tg t is) (hs : swapsWithSole [tg] e pos.line X.env = pure false := by rfl) (hw : swappedStores [tg] e X.env = pure none := by rfl) (h1 : (assignEach [tg] X.env).map (·.2) = [assign tg X.env] := by rfl) : DS X (.Assign [tg] e pos) (pAsg p t) := fun g hK => (ps_asg (h g hK) (hg g hK) hs hw h1).imp fun D σ H ⟨n, F, ρ, P, ok, h, k⟩ =>
  ⟨n, F, ρ, _, ok, h, fun n1 F1 H1 v d s1 ok1 r1 h1 => ⟨n1, F1, ρ, d, _, ok1, r1, h1, fun n2 F2 H2 σ2 ρ2 s2 ok2 _ h2 => k.nx n2 F2 H2 σ2 ρ2 (s1.trans s2) ok2 h2⟩⟩
/-- x = a new container, one's own -/
def pOwnS (i : Nat) (p : TPE) : TPS := fun P ρ n => p ρ n fun d m => P.nx (ρ.set i (.own d)) m
theorem ds_own {tg : Expr} {i : Nat} (h : FE X e p) (hg : PG X tg (gName i)) (hs : swapsWithSole [tg] e pos.line X.env = pure false := by rfl) (hw : swappedStores [tg] e X.env = pure none := by rfl) (h1 : (assignEach [tg] X.env).map (·.2) = [assign tg X.env] := by rfl) : DS X (.Assign [tg] e pos) (pOwnS i p) := fun g hK => (ps_asg (h g hK) hg hs hw h1).imp fun D σ H ⟨n, F, ρ, P, ok, h, k⟩ =>
  ⟨n, F, ρ, _, ok, h, fun n1 F1 H1 a x d s1 ok1 hn hc h1 => by
    refine k.nx n1 F1 (upd H1 a x) _ _ s1 ((ok1.allocH x hn).setOwn i upd_same (ok1.freeF hn) (ok1.freeH0 hn) ⟨ok1.nofp hn, ok1.freeP hn⟩ hc fun j e hj _ hz => ?_) h1
    obtain ⟨o, y, e1, e2, _⟩ := ok1.cells j _ hj
    rw [hz] at e1
    cases e1
    rw [hn] at e2
    cases e2⟩
/-- a, b = e1, e2 -/
def pPar (i j : Nat) (t : TPA) : TPS := fun P ρ n => t ρ n fun ds m => match ds with | [d, e] => P.nx ((ρ.set i (.sh d)).set j (.sh e)) m | _ => False
theorem LA.par {g : G} {t : TPA} {i j : Nat} {D : Ends} {σ : L2.St} {H : Hp} (h : LS g (pPar i j t) D σ H) : tPar i j (LA g t) D σ H := by
  obtain ⟨n, F, ρ, P, ok, h, k⟩ := h
  refine ⟨n, F, ρ, _, ok, h, fun n1 F1 H1 vs ds s1 ok1 r1 h1 => ?_⟩
  match ds, r1, h1 with
  | [d, e], .cons r1 (.cons r2 .nil), h1 => exact ⟨_, _, rfl, k.nx n1 F1 H1 _ _ s1 ((ok1.set i r1).set j r2) h1⟩
def pPar3 (i j l : Nat) (t : TPA) : TPS := fun P ρ n => t ρ n fun ds m => match ds with | [d, e, f] => P.nx (((ρ.set i (.sh d)).set j (.sh e)).set l (.sh f)) m | _ => False

/-! ### the own list -/
def pAppend (i : Nat) (p : TPE) : TPS := fun P ρ n => match ρ[i]? with | some (.own (.lst ds)) => p ρ n fun d m => ds.length < sizeLine ∧ P.nx (ρ.set i (.own (.lst (ds ++ [d])))) m | _ => False

/-! ### for -/
def LI (g : G) (p : TPA) : TI := fun σ H R => ∃ n F ρ S, Ok g n F H σ ρ ∧ p ρ n S ∧ ∀ n' F' H' ds J, Same F F' → Ok g n' F' H' σ ρ → S ds n' →
  (∀ g' m F2 H2 σ2 ρ2, g'.c = g.c → Same F' F2 → Ok g' m F2 H2 σ2 ρ2 → J.stop ds.length H2 ∧
    ∀ i d, ds[i]? = some d → J.go i H2 ∧ ∀ x H3, J.yld i H2 x H3 → ∃ F3, Same F2 F3 ∧ Ok g' m F3 H3 σ2 ρ2 ∧ Rep g.c F3 x d) → R J H'
def DI (X : Cx) (tg iter : Expr) (p : TPA) : Prop := ∀ g : G, g.c.K = X.K → PI X tg iter (LI g p)
def forW (t : TPG) (b : TPS) : List D → Post → PEnv → Nat → Prop
  | [], P, ρ, n => P.nx ρ n
  | d :: ds, P, ρ, n => t d ρ n fun ρ1 n1 => b { nx := forW t b ds P, ct := forW t b ds P, bk := P.nx, rt := P.rt } ρ1 n1
def pFor (pi : TPA) (t : TPG) (b : TPS) : TPS := fun P ρ n => pi ρ n fun ds m => forW t b ds P ρ m
theorem drop_get {α : Type} {l : List α} {i : Nat} {d : α} {ds : List α} (h : l.drop i = d :: ds) : l[i]? = some d ∧ l.drop (i + 1) = ds := by
  have h1 : (l.drop i)[0]? = some d := by rw [h]; rfl
  rw [List.getElem?_drop] at h1
  refine ⟨by simpa using h1, ?_⟩
  rw [← List.drop_drop, h]
  rfl
theorem ds_for {tg iter : Expr} {body : List Stmt} {pi : TPA} {t : TPG} {b : TPS} {is : List Nat} (hp : PassesOwn (model X.prog X.w) X.A X.env X.xe) (hc : X.calm = true) (hi : DI X tg iter pi) (hg : DG X tg t is) (hb : DSs X body b)
    (hs : ∀ x, foldedSetIterable iter X.env x = pure x := by intro _; rfl) : DS X (.For tg iter body [] pos) (pFor pi t b) := fun g hK => (ps_for hp hc (hi g hK) (hg g hK) (hb g hK) hs).imp fun D σ H ⟨n, F, ρ, P, ok, h, k⟩ => by
  refine ⟨n, F, ρ, _, ok, h, fun n1 F1 H1 ds J s1 ok1 h1 hJ => ?_⟩
  refine ⟨fun i m σ H => m = ds.length - i ∧ i ≤ ds.length ∧ ∃ n F2 ρ, Same F1 F2 ∧ Ok g n F2 H σ ρ ∧ forW t b (ds.drop i) P ρ n, ⟨_, rfl, Nat.zero_le _, n1, F1, ρ, Same.refl _, ok1, h1⟩, ?_⟩
  rintro i m σ2 H2 ⟨rfl, hi, n2, F2, ρ2, s2, ok2, h2⟩
  obtain ⟨st, gg⟩ := hJ g n2 F2 H2 σ2 ρ2 rfl s2 ok2
  cases hd : ds.drop i with
  | nil =>
    have hl : i = ds.length := by
      have := List.drop_eq_nil_iff.mp hd
      omega
    subst hl
    rw [hd] at h2
    exact .inl ⟨st, k.nx n2 F2 H2 σ2 ρ2 (s1.trans s2) ok2 h2⟩
  | cons d r =>
    obtain ⟨gd, gr⟩ := drop_get hd
    rw [hd] at h2
    obtain ⟨go, yl⟩ := gg i d gd
    have hlt : i < ds.length := lt_of_get gd
    refine .inr ⟨go, fun σ H => ∃ n F2 ρ, Same F1 F2 ∧ Ok g n F2 H σ ρ ∧ forW t b (ds.drop (i + 1)) P ρ n, fun σ' H' q => ⟨_, by omega, rfl, hlt, q⟩, fun x H3 y => ?_⟩
    obtain ⟨F3, s3, ok3, r3⟩ := yl x H3 y
    refine ⟨n2, F3, ρ2, d, _, ok3, r3, h2, fun n4 F4 H4 σ4 ρ4 s4 ok4 _ h4 => ⟨n4, F4, ρ4, _, ok4, h4, ?_⟩⟩
    have s14 := s2.trans (s3.trans s4)
    refine ⟨fun n F' H σ ρ s ok h => ⟨n, F', ρ, s14.trans s, ok, by rw [gr]; exact h⟩, fun n F' H σ ρ v d s ok r h => k.rt n F' H σ ρ v d (s1.trans (s14.trans s)) ok r h, fun n F' H σ ρ s ok h => k.nx n F' H σ ρ (s1.trans (s14.trans s)) ok h, fun n F' H σ ρ s ok h => ⟨n, F', ρ, s14.trans s, ok, by rw [gr]; exact h⟩⟩

/-! ### while -/
def pWhile (c : TPT) (b : TPS) : TPS := fun P ρ n => ∃ W : Nat → PEnv → Nat → Prop, (∃ m, W m ρ n) ∧ ∀ m ρ n, W m ρ n → c ρ n fun t n1 => if t = true then b { nx := fun ρ' n' => ∃ m', m' < m ∧ W m' ρ' n', ct := fun ρ' n' => ∃ m', m' < m ∧ W m' ρ' n', bk := P.nx, rt := P.rt } ρ n1 else P.nx ρ n1
theorem ds_while {c : Expr} {body : List Stmt} {qc : TPT} {b : TPS} (hp : PassesOwn (model X.prog X.w) X.A X.env X.xe) (hc : DT X c qc) (hb : DSs X body b) : DS X (.While c body [] pos) (pWhile qc b) := fun g hK => (ps_while hp (hc g hK) (hb g hK)).imp fun D σ H ⟨n, F, ρ, P, ok, h, k⟩ => by
  obtain ⟨W, ⟨m0, w0⟩, turn⟩ := h
  refine ⟨fun m σ H => ∃ n F2 ρ, Same F F2 ∧ Ok g n F2 H σ ρ ∧ W m ρ n, ⟨m0, n, F, ρ, Same.refl _, ok, w0⟩, ?_⟩
  rintro m σ2 H2 ⟨n2, F2, ρ2, s2, ok2, w2⟩
  refine ⟨n2, F2, ρ2, _, ok2, turn m ρ2 n2 w2, fun n3 F3 H3 t s3 ok3 h3 => ?_⟩
  cases t with
  | false => exact k.nx n3 F3 H3 σ2 ρ2 (s2.trans s3) ok3 h3
  | true =>
    refine ⟨fun σ H => ∃ m', m' < m ∧ ∃ n F2 ρ, Same F F2 ∧ Ok g n F2 H σ ρ ∧ W m' ρ n, fun σ' H' ⟨m', hm, q⟩ => ⟨m', hm, q⟩, n3, F3, ρ2, _, ok3, h3, ?_⟩
    have s13 := s2.trans s3
    exact ⟨fun n F' H σ ρ s ok ⟨m', hm, h⟩ => ⟨m', hm, n, F', ρ, s13.trans s, ok, h⟩, fun n F' H σ ρ v d s ok r h => k.rt n F' H σ ρ v d (s13.trans s) ok r h, fun n F' H σ ρ s ok h => k.nx n F' H σ ρ (s13.trans s) ok h, fun n F' H σ ρ s ok ⟨m', hm, h⟩ => ⟨m', hm, n, F', ρ, s13.trans s, ok, h⟩⟩

/-! ### calls of defs -/
abbrev Spec := List D → Nat → (D → Nat → Prop) → Prop
def spP (K : PySem.W.Frag) (S : Spec) : Sp := fun vs H Q _ => ∃ (c : Cfg) (n : Nat) (F : Hp) (ds : List D) (R : D → Nat → Prop), c.K = K ∧ Same F H ∧ (∀ b, c.fp b → F b = none) ∧ DeckAt c n H ∧ Reps c F vs ds ∧ S ds n R ∧
  ∀ n' F' H' v d, Same F F' → (∀ b x, H b = some x → ¬ c.fp b → H' b = some x) → Same F' H' → (∀ b, c.fp b → F' b = none) → (∀ b, H b ≠ none → F b = none → F' b = none) → DeckAt c n' H' → Rep c F' v d → R d n' → Q v H'
theorem Ok.after {g : G} {n n' : Nat} {F F' H H' : Hp} {σ : L2.St} {ρ : PEnv} (ok : Ok g n F H σ ρ) (h1 : Same F F') (h2 : ∀ b x, H b = some x → ¬ g.c.fp b → H' b = some x) (h3 : Same F' H') (h4 : ∀ b, g.c.fp b → F' b = none) (h5 : ∀ b, H b ≠ none → F b = none → F' b = none) (h6 : DeckAt g.c n' H') : Ok g n' F' H' σ ρ where
  keep := fun b x e hn => h2 b x (ok.keep b x e hn) hn
  sub := h3
  ffp := h4
  new := fun b q hn => by
    by_cases hf : g.c.fp b
    · exact h4 b hf
    · refine h5 b ?_ (ok.new b q hn)
      cases z : g.H0 b with
      | none => exact absurd z q
      | some x => rw [ok.keep b x z hf]; exact fun z => nomatch z
  dk := h6
  pin := fun b x q => by
    obtain ⟨p1, p2, p3⟩ := ok.pin b x q
    exact ⟨h2 b x p1 p3, h5 b (by rw [p1]; exact fun z => nomatch z) p2, p3⟩
  len := ok.len
  cells := fun i c e => by
    have h := ok.cells i c e
    cases c with
    | any => trivial
    | sh d => obtain ⟨v, e, r⟩ := h; exact ⟨v, e, r.mono h1⟩
    | own d =>
      obtain ⟨o, x, e, q1, q2, q3, q4, q5⟩ := h
      exact ⟨o, x, e, h2 o x q1 q4.1, h5 o (by rw [q1]; exact fun z => nomatch z) q2, q3, q4, q5.mono h1⟩
  mon := ok.mon.trans h1
  disj := ok.disj
/-- a call's wish; what is wanted behind it is not looked into -/
def Shut (_ : D → Nat → Prop) : Type := PUnit
def shut (R : D → Nat → Prop) : Shut R := PUnit.unit
def callZ (S : Spec) (ds : List D) (n : Nat) (R : D → Nat → Prop) (_ : Shut R) : Prop := S ds n R
abbrev callS (S : Spec) (ds : List D) (n : Nat) (R : D → Nat → Prop) : Prop := callZ S ds n R (shut R)
def pFn (S : Spec) (t : TPA) : TPE := fun ρ n R => t ρ n fun ds m => callZ S ds m R (shut R)
theorem LA.fn {g : G} {S : Spec} {t : TPA} {E : XK} {σ : L2.St} {H : Hp} {Q : VK} {vs : List V} {ds : List D} {n : Nat} {F : Hp} {ρ : PEnv} {R : D → Nat → Prop} (ok : Ok g n F H σ ρ) (r : Reps g.c F vs ds) (h : S ds n R)
    (k : ∀ n' F' H' v d, Same F F' → Ok g n' F' H' σ ρ → Rep g.c F' v d → R d n' → Q v H') : spP g.c.K S vs H Q E :=
  ⟨g.c, n, F, ds, R, rfl, ok.sub, ok.ffp, ok.dk, r, h, fun n' F' H' v d h1 h2 h3 h4 h5 h6 r' hR => k n' F' H' v d h1 (ok.after h1 h2 h3 h4 h5 h6) r' hR⟩
theorem de_call {S : Spec} {t : TPA} {CX : CXT} {k : Nat} {f : Addr} {fd : FuncData} {ps : List Str} {E : XK} {x : Str} {pf : Pos} {es : List Expr} (Fn : FnOk X.prog X.w X.K X.mg X.base CX k f fd ps (spP X.K S)) (hr : Room k X.A) (hg : Gl X x) (hm : X.mg x = some (.ref f)) (hk : PySem.W.keepIn X.K (.ref f) = true) (hb : Binds X.K fd ps []) (hx : Passes CX X E)
    (ha : DA X (e :: es) t) (hdb : (x == ("__debug__" : Str)) = false := by decide) (he : starEach (e :: es) X.env = (false, eval e X.env) :: starEach es X.env := by rfl) (hpl : (backTo pos (starEach es X.env)).any (·.1) = false := by rfl) :
    DE X (.Call (.Name x pf) (e :: es) [] pos) (pFn S t) := fun g hK => (pe_call (E := E) Fn hr hg hm hk hb .nil hx (ha g hK) hdb he hpl).imp fun σ H Q ⟨n, F, ρ, R, ok, hq, k⟩ =>
  ⟨n, F, ρ, _, ok, hq, fun n1 F1 H1 vs ds s1 ok1 r1 h1 => by
    show spP X.K S (vs ++ []) H1 Q E
    rw [List.append_nil, ← hK]
    exact LA.fn (t := t) ok1 r1 h1 fun n' F' H' v d s2 ok2 r2 h2 => k n' F' H' v d (s1.trans s2) ok2 r2 h2⟩
end
end PL

/-! PL: comprehensions, the rule for a def, iterables. -/
namespace PL
open PySem PySem.Spec L2
open PyProof.Rows (envOfC)
/-! ### pins -/
def erase (H : Hp) (a : Addr) : Hp := fun b => if b = a then none else H b
theorem erase_same (H : Hp) (a : Addr) : erase H a a = none := by unfold erase; rw [if_pos rfl]
theorem erase_ne {H : Hp} {a b : Addr} (h : b ≠ a) : erase H a b = H b := by unfold erase; rw [if_neg h]
theorem upd_erase {H : Hp} {a : Addr} {x : HO} (h : H a = some x) : upd (erase H a) a x = H := by
  funext b
  by_cases e : b = a
  · subst e; rw [upd_same, h]
  · rw [upd_ne e, erase_ne e]
abbrev G.pinned (g : G) (a : Addr) (x : HO) : G := { g with pin := upd g.pin a x }
section
variable {g : G} {n : Nat} {F H : Hp} {σ : L2.St} {ρ : PEnv} {a : Addr}
theorem Ok.pinNew (ok : Ok g n F H σ ρ) (x : HO) (h : H a = none) : Ok (g.pinned a x) n F (upd H a x) σ ρ := by
  have k := ok.allocH x h
  refine ⟨k.keep, k.sub, k.ffp, k.new, k.dk, fun b y q => ?_, k.len, fun i c e => ?_, k.mon, k.disj⟩
  · by_cases e : b = a
    · subst e
      have q : upd g.pin b x b = some y := q
      rw [upd_same] at q
      cases q
      exact ⟨upd_same, ok.freeF h, ok.nofp h⟩
    · have q : upd g.pin a x b = some y := q
      rw [upd_ne e] at q
      exact k.pin b y q
  · have h1 := ok.cells i c e
    have h2 := k.cells i c e
    cases c with
    | any => trivial
    | sh d => exact h2
    | own d =>
      obtain ⟨o, y, e1, q1, q2, q3, q4, q5⟩ := h1
      have ne : o ≠ a := ne_of_none q1 h
      exact ⟨o, y, e1, by rw [upd_ne ne]; exact q1, q2, q3, ⟨q4.1, by show upd g.pin a x o = none; rw [upd_ne ne]; exact q4.2⟩, q5⟩
theorem Ok.pinAt {x : HO} (ok : Ok (g.pinned a x) n F H σ ρ) : H a = some x ∧ F a = none ∧ ¬ g.c.fp a := ok.pin a x upd_same
theorem Ok.pinWrite {x : HO} (ok : Ok (g.pinned a x) n F H σ ρ) (h0 : g.H0 a = none) (x' : HO) : Ok (g.pinned a x') n F (upd H a x') σ ρ := by
  obtain ⟨p1, p2, p3⟩ := ok.pinAt
  refine ⟨fun b y e q => ?_, fun b y e => ?_, ok.ffp, ok.new, ok.dk.keep fun b q => ?_, fun b y q => ?_, ok.len, fun i c e => ?_, ok.mon, ok.disj⟩
  · have ne : b ≠ a := fun z => by subst z; have e : g.H0 b = some y := e; rw [h0] at e; cases e
    rw [upd_ne ne]; exact ok.keep b y e q
  · have ne : b ≠ a := fun z => by subst z; rw [p2] at e; cases e
    rw [upd_ne ne]; exact ok.sub b y e
  · have ne : b ≠ a := fun z => by subst z; exact p3 q
    rw [upd_ne ne]
  · by_cases e : b = a
    · subst e
      have q : upd g.pin b x' b = some y := q
      rw [upd_same] at q
      cases q
      exact ⟨upd_same, p2, p3⟩
    · have q : upd g.pin a x' b = some y := q
      rw [upd_ne e] at q
      rw [upd_ne e]
      exact ok.pin b y (by show upd g.pin a x b = some y; rw [upd_ne e]; exact q)
  · have h1 := ok.cells i c e
    cases c with
    | any => trivial
    | sh d => exact h1
    | own d =>
      obtain ⟨o, y, e1, q1, q2, q3, q4, q5⟩ := h1
      have ne : o ≠ a := fun z => by
        subst z
        have q := q4.2
        have q : upd g.pin o x o = none := q
        rw [upd_same] at q
        cases q
      have q42 : upd g.pin a x o = none := q4.2
      rw [upd_ne ne] at q42
      exact ⟨o, y, e1, by rw [upd_ne ne]; exact q1, q2, q3, ⟨q4.1, by show upd g.pin a x' o = none; rw [upd_ne ne]; exact q42⟩, q5⟩
theorem Ok.unpin {x : HO} (ok : Ok (g.pinned a x) n F H σ ρ) (h0 : g.H0 a = none) (hp : g.pin a = none) : Ok g n F (erase H a) σ ρ := by
  obtain ⟨p1, p2, p3⟩ := ok.pinAt
  refine ⟨fun b y e q => ?_, fun b y e => ?_, ok.ffp, ok.new, ok.dk.keep fun b q => ?_, fun b y q => ?_, ok.len, fun i c e => ?_, ok.mon, ok.disj⟩
  · have ne : b ≠ a := fun z => by subst z; rw [h0] at e; cases e
    rw [erase_ne ne]; exact ok.keep b y e q
  · have ne : b ≠ a := fun z => by subst z; rw [p2] at e; cases e
    rw [erase_ne ne]; exact ok.sub b y e
  · have ne : b ≠ a := fun z => by subst z; exact p3 q
    rw [erase_ne ne]
  · have ne : b ≠ a := fun z => by subst z; rw [hp] at q; cases q
    rw [erase_ne ne]
    exact ok.pin b y (by show upd g.pin a x b = some y; rw [upd_ne ne]; exact q)
  · have h1 := ok.cells i c e
    cases c with
    | any => trivial
    | sh d => exact h1
    | own d =>
      obtain ⟨o, y, e1, q1, q2, q3, q4, q5⟩ := h1
      have ne : o ≠ a := fun z => by
        subst z
        have q : upd g.pin o x o = none := q4.2
        rw [upd_same] at q
        cases q
      have q42 : upd g.pin a x o = none := q4.2
      rw [upd_ne ne] at q42
      exact ⟨o, y, e1, by rw [erase_ne ne]; exact q1, q2, q3, ⟨q4.1, q42⟩, q5⟩
theorem Ok.wipe (ok : Ok g n F H σ ρ) : ∀ vs : List Nat, Ok g n F H (L2.wipe σ vs) (wipeC ρ vs)
  | [] => ok
  | v :: vs => (Ok.wipe ok vs).forget v none
def noOwn (ρ : PEnv) (vs : List Nat) : Bool := vs.all fun v => match ρ[v]? with | some (.own _) => false | _ => true
theorem wipe_get (σ : L2.St) {i : Nat} : ∀ {vs : List Nat}, i ∉ vs → (L2.wipe σ vs)[i]? = σ[i]?
  | [], _ => rfl
  | v :: vs, h => by
    rw [List.mem_cons, not_or] at h
    show ((L2.wipe σ vs).set v none)[i]? = _
    rw [List.getElem?_set_ne (Ne.symm h.1)]
    exact wipe_get σ h.2
theorem wipeC_get (ρ : PEnv) {i : Nat} : ∀ {vs : List Nat}, i ∉ vs → (wipeC ρ vs)[i]? = ρ[i]?
  | [], _ => rfl
  | v :: vs, h => by
    rw [List.mem_cons, not_or] at h
    show ((wipeC ρ vs).set v .any)[i]? = _
    rw [List.getElem?_set_ne (Ne.symm h.1)]
    exact wipeC_get ρ h.2
theorem Ok.restore {g' : G} {n' : Nat} {F' H' : Hp} {vs : List Nat} (ok : Ok g n F H σ ρ) (s : Same F F') (hc : g'.c = g.c) (ok' : Ok g' n' F' H' (L2.wipe σ vs) (wipeC ρ vs)) (hn : noOwn ρ vs = true) : Ok g' n' F' H' σ ρ := by
  have no : ∀ {i : Nat} {d : D}, ρ[i]? = some (.own d) → i ∉ vs := fun {i d} e z => by
    have q := List.all_eq_true.mp hn i z
    rw [e] at q
    cases q
  refine ⟨ok'.keep, ok'.sub, ok'.ffp, ok'.new, ok'.dk, ok'.pin, ok.len, fun i c e => ?_, ok'.mon, fun i j d e' o h1 h2 h3 h4 => ?_⟩
  · by_cases hi : i ∈ vs
    · have h := ok.cells i c e
      cases c with
      | any => trivial
      | sh d => obtain ⟨v, e1, r⟩ := h; exact ⟨v, e1, by rw [hc]; exact r.mono s⟩
      | own d => exact absurd hi (no e)
    · have h := ok'.cells i c (by rw [wipeC_get ρ hi]; exact e)
      rw [wipe_get σ hi] at h
      exact h
  · have n1 := no h1
    have n2 := no h2
    exact ok'.disj i j d e' o (by rw [wipeC_get ρ n1]; exact h1) (by rw [wipeC_get ρ n2]; exact h2) (by rw [wipe_get σ n1]; exact h3) (by rw [wipe_get σ n2]; exact h4)
end

/-! ### list comprehensions -/
section
variable {X : Cx} {pos : Pos}
def pYes : TPT := fun _ n R => R true n
def DTs (X : Cx) (es : List Expr) (p : TPT) : Prop := ∀ g : G, g.c.K = X.K → PTs X es (LT g p)
theorem dts_nil : DTs X [] pYes := fun g hK => pts_nil.imp fun σ H Q ⟨n, F, ρ, R, ok, h, k⟩ => k n F H _ (Same.refl F) ok h
theorem dts_one {c : Expr} {q : TPT} (h : DT X c q) : DTs X [c] q := fun g hK => pts_one (h g hK)
def lcW (t : TPG) (tt : TPT) (te : TPE) : List D → List D → PEnv → Nat → (List D → Nat → Prop) → Prop
  | [], acc, _, n, R => R acc n
  | d :: ds, acc, ρ, n, R => t d ρ n fun ρ1 n1 => tt ρ1 n1 fun b n2 => if b = true then te ρ1 n2 fun y n3 => lcW t tt te ds (acc ++ [y]) ρ n3 R else lcW t tt te ds acc ρ n2 R
def pLc (pi : TPA) (t : TPG) (tt : TPT) (te : TPE) (vs : List Nat) : TPE := fun ρ n R => pi ρ n fun ds m => ds.length ≤ sizeLine ∧ noOwn ρ vs = true ∧ lcW t tt te ds [] (wipeC ρ vs) m fun acc k => R (.lst acc) k
def XG (K : PySem.W.Frag) (t : TPG) (is : List Nat) : TG := fun v σ H Q => ∃ g : G, g.c.K = K ∧ LG g t is v σ H Q
def XT (K : PySem.W.Frag) (t : TPT) : TT := fun σ H Q => ∃ g : G, g.c.K = K ∧ LT g t σ H Q
def XE (K : PySem.W.Frag) (t : TPE) : TE := fun σ H Q => ∃ g : G, g.c.K = K ∧ LE g t σ H Q
theorem lc_sound {g : G} {pi : TPA} {t : TPG} {is : List Nat} {tt : TPT} {te : TPE} {vs : List Nat} (his : ∀ j ∈ is, j ∈ vs) {σ : L2.St} {H : Hp} {Q : VK} (h : LF g (pLc pi t tt te vs) σ H Q) :
    tLc (LI g pi) (XG g.c.K t is) (XT g.c.K tt) (XE g.c.K te) vs σ H Q := by
  obtain ⟨n, F, ρ, R, ok, h, k⟩ := h
  refine ⟨n, F, ρ, _, ok, h, fun n1 F1 H1 ds J s1 ok1 h1 hJ a ha => ?_⟩
  obtain ⟨hz, hno, h1⟩ := h1
  have h0 := ok1.freeH0 ha
  have hp := ok1.freeP ha
  refine ⟨fun i m H => m = ds.length - i ∧ i ≤ ds.length ∧ ∃ n F2 acc accD, Same F1 F2 ∧ Ok (g.pinned a (.lst acc)) n F2 H (L2.wipe σ vs) (wipeC ρ vs) ∧ Reps g.c F2 acc accD ∧ accD.length ≤ i ∧ lcW t tt te (ds.drop i) accD (wipeC ρ vs) n (fun acc k => R (.lst acc) k),
    ⟨_, rfl, Nat.zero_le _, n1, F1, [], [], Same.refl _, (ok1.wipe _).pinNew (.lst []) ha, .nil, Nat.le_refl _, h1⟩, ?_⟩
  rintro i m H2 ⟨rfl, hi, n2, F2, acc, accD, s2, ok2, ra, la, h2⟩
  obtain ⟨st, gg⟩ := hJ _ n2 F2 H2 _ _ (by rfl) s2 ok2
  cases hd : ds.drop i with
  | nil =>
    have hl : i = ds.length := by
      have := List.drop_eq_nil_iff.mp hd
      omega
    subst hl
    rw [hd] at h2
    have p1 := ok2.pinAt.1
    refine .inl ⟨st, ?_⟩
    have ok3 := ok1.restore s2 rfl (ok2.unpin h0 hp) hno
    have := k n2 F2 (erase H2 a) a (.lst acc) (.lst accD) (s1.trans s2) ok3 (erase_same _ _) (.lst ra) h2
    rw [upd_erase p1] at this
    exact this
  | cons d r =>
    obtain ⟨gd, gr⟩ := drop_get hd
    rw [hd] at h2
    obtain ⟨go, yl⟩ := gg i d gd
    have hlt : i < ds.length := lt_of_get gd
    refine .inr ⟨go, fun H => ∃ n F2 acc accD, Same F1 F2 ∧ Ok (g.pinned a (.lst acc)) n F2 H (L2.wipe σ vs) (wipeC ρ vs) ∧ Reps g.c F2 acc accD ∧ accD.length ≤ i + 1 ∧ lcW t tt te (ds.drop (i + 1)) accD (wipeC ρ vs) n (fun acc k => R (.lst acc) k), fun H' q => ⟨_, by omega, rfl, hlt, q⟩, fun x H3 y => ?_⟩
    obtain ⟨F3, s3, ok3, r3⟩ := yl x H3 y
    refine ⟨g.pinned a (.lst acc), rfl, n2, F3, _, d, _, ok3, r3, h2, fun n4 F4 H4 σ4 ρ4 s4 ok4 j4 h4 => ?_⟩
    obtain ⟨w1, w2⟩ := j4 vs his
    have ww : wipe (wipe σ vs) vs = wipe σ vs := by
      have : ∀ (us vs : List Nat) (σ : L2.St), (∀ j ∈ us, j ∈ vs) → wipe (wipe σ us) vs = wipe σ vs := fun us => by
        induction us with
        | nil => intro vs σ _; rfl
        | cons u us ih =>
          intro vs σ hu
          show wipe ((wipe σ us).set u none) vs = _
          rw [wipe_set_out _ _ _ _ (hu u List.mem_cons_self), ih vs σ fun j hj => hu j (List.mem_cons_of_mem _ hj)]
      exact this _ _ _ fun j hj => hj
    have wc : wipeC (wipeC ρ vs) vs = wipeC ρ vs := by
      have : ∀ (us vs : List Nat) (ρ : PEnv), (∀ j ∈ us, j ∈ vs) → wipeC (wipeC ρ us) vs = wipeC ρ vs := fun us => by
        induction us with
        | nil => intro vs ρ _; rfl
        | cons u us ih =>
          intro vs ρ hu
          show wipeC ((wipeC ρ us).set u .any) vs = _
          rw [wipeC_set_out _ _ _ _ (hu u List.mem_cons_self), ih vs ρ fun j hj => hu j (List.mem_cons_of_mem _ hj)]
      exact this _ _ _ fun j hj => hj
    rw [ww] at w1
    rw [wc] at w2
    have back : ∀ {n' : Nat} {F' H' : Hp}, Ok (g.pinned a (.lst acc)) n' F' H' σ4 ρ4 → Ok (g.pinned a (.lst acc)) n' F' H' (wipe σ vs) (wipeC ρ vs) := fun {n' F' H'} o => by
      have := o.wipe vs
      rw [w1, w2] at this
      exact this
    refine ⟨w1, g.pinned a (.lst acc), rfl, n4, F4, ρ4, _, ok4, h4, fun n5 F5 H5 b s5 ok5 h5 => ?_⟩
    have s15 := s2.trans (s3.trans (s4.trans s5))
    cases b with
    | false => exact ⟨n5, F5, acc, accD, s15, back ok5, ra.mono (s3.trans (s4.trans s5)), by omega, by rw [gr]; exact h5⟩
    | true =>
      refine ⟨g.pinned a (.lst acc), rfl, n5, F5, ρ4, _, ok5, h5, fun n6 F6 H6 y d6 s6 ok6 r6 h6 => ?_⟩
      have ra6 := ra.mono (s3.trans (s4.trans (s5.trans s6)))
      refine ⟨acc, ok6.pinAt.1, ?_, n6, F6, acc ++ [y], accD ++ [d6], s15.trans s6, (back ok6).pinWrite h0 _, ra6.append (.cons r6 .nil), ?_, by rw [gr]; exact h6⟩
      · rw [ra6.length]; omega
      · rw [List.length_append]; simp; omega
theorem fe_lc {elt tg iter : Expr} {ifs : List Expr} {scope : Scope} {own : List (Str × Nat)} {pi : TPA} {t : TPG} {is : List Nat} {tt : TPT} {te : TPE} (hi : DI X tg iter pi) (hN : X.N.Nodup) (ok : BlkOk X.N X.env.scope scope own) (his : ∀ j ∈ is, j ∈ own.map (·.2))
    (hg : ∀ (s : Shared) (H : Hp) (C : Addr) (cl : List (Str × Addr)) (fp : List Addr), DG (X.blk s H scope (compEnvC scope cl C X.env) fp) tg t is) (ht : ∀ (s : Shared) (H : Hp) (C : Addr) (cl : List (Str × Addr)) (fp : List Addr), DTs (X.blk s H scope (compEnvC scope cl C X.env) fp) ifs tt)
    (he : ∀ (s : Shared) (H : Hp) (C : Addr) (cl : List (Str × Addr)) (fp : List Addr), DE (X.blk s H scope (compEnvC scope cl C X.env) fp) elt te) (hc : X.calm = true := by rfl) (hs : ∀ x, foldedSetIterable iter X.env x = pure x := by intro _; rfl) :
    FE X (.ListComp elt [⟨tg, iter, ifs, 0⟩] scope pos) (pLc pi t tt te (own.map (·.2))) := fun g hK =>
  (pe_lc hc hN (hi g hK) ok (fun s H C cl fp => (⟨fun pins s σ H v u Q I r ⟨g', hK', q⟩ => ((hg _ _ C cl fp) g' (hK'.trans hK)).run pins s σ H v u Q I r q⟩ : PG _ tg (XG g.c.K t is)))
    (fun s H C cl fp => (⟨fun pins s σ H Q I ⟨g', hK', q⟩ => ((ht _ _ C cl fp) g' (hK'.trans hK)).run pins s σ H Q I q⟩ : PTs _ ifs (XT g.c.K tt)))
    (fun s H C cl fp => (⟨fun pins s σ H Q I ⟨g', hK', q⟩ => ((he _ _ C cl fp) g' (hK'.trans hK)).run pins s σ H Q I q⟩ : PE _ elt (XE g.c.K te))) hs).imp fun σ H Q h => lc_sound his h
/-- y = [..], on one line, y a local -/
theorem ds_setLc {i : Nat} {y : Str} {py spos : Pos} {elt tg iter : Expr} {ifs : List Expr} {scope : Scope} {own : List (Str × Nat)} {pi : TPA} {t : TPG} {is : List Nat} {tt : TPT} {te : TPE} (hi : DI X tg iter pi) (hN : X.N.Nodup) (ok : BlkOk X.N X.env.scope scope own) (his : ∀ j ∈ is, j ∈ own.map (·.2))
    (hg : ∀ (s : Shared) (H : Hp) (C : Addr) (cl : List (Str × Addr)) (fp : List Addr), DG (X.blk s H scope (compEnvC scope cl C X.env) fp) tg t is) (ht : ∀ (s : Shared) (H : Hp) (C : Addr) (cl : List (Str × Addr)) (fp : List Addr), DTs (X.blk s H scope (compEnvC scope cl C X.env) fp) ifs tt)
    (he : ∀ (s : Shared) (H : Hp) (C : Addr) (cl : List (Str × Addr)) (fp : List Addr), DE (X.blk s H scope (compEnvC scope cl C X.env) fp) elt te)
    (hsw : swapsWith (.ListComp elt [⟨tg, iter, ifs, 0⟩] scope pos) (some (.Name y py)) spos.line X.env = pure true) (hy : X.N[i]? = some y := by rfl) (hyl : X.env.scope.names.lookup y = some .local := by rfl) (hc : X.calm = true := by rfl) (hs : ∀ x, foldedSetIterable iter X.env x = pure x := by intro _; rfl) :
    DS X (.Assign [.Name y py] (.ListComp elt [⟨tg, iter, ifs, 0⟩] scope pos) spos) (pOwnS i (pLc pi t tt te (own.map (·.2)))) := fun g hK =>
  (ps_setLc hc hN hy hyl hsw (hi g hK) ok (fun s H C cl fp => (⟨fun pins s σ H v u Q I r ⟨g', hK', q⟩ => ((hg _ _ C cl fp) g' (hK'.trans hK)).run pins s σ H v u Q I r q⟩ : PG _ tg (XG g.c.K t is)))
    (fun s H C cl fp => (⟨fun pins s σ H Q I ⟨g', hK', q⟩ => ((ht _ _ C cl fp) g' (hK'.trans hK)).run pins s σ H Q I q⟩ : PTs _ ifs (XT g.c.K tt)))
    (fun s H C cl fp => (⟨fun pins s σ H Q I ⟨g', hK', q⟩ => ((he _ _ C cl fp) g' (hK'.trans hK)).run pins s σ H Q I q⟩ : PE _ elt (XE g.c.K te))) hs).imp fun D σ H ⟨n, F, ρ, P, ok, h, k⟩ => by
  refine lc_sound his ⟨n, F, ρ, _, ok, h, fun n1 F1 H1 a x d s1 ok1 hn hc h1 => ?_⟩
  refine k.nx n1 F1 (upd H1 a x) _ _ s1 ((ok1.allocH x hn).setOwn i upd_same (ok1.freeF hn) (ok1.freeH0 hn) ⟨ok1.nofp hn, ok1.freeP hn⟩ hc fun j e hj _ hz => ?_) h1
  obtain ⟨o, y, e1, e2, _⟩ := ok1.cells j _ hj
  rw [hz] at e1
  cases e1
  rw [hn] at e2
  cases e2
end

/-! ### the rule for a def -/
def env0 (m : Nat) (ds : List D) : PEnv := ds.map Cell.sh ++ List.replicate (m - ds.length) .any
theorem reps_map_get {c : Cfg} {F : Hp} : ∀ {vs : List V} {ds : List D} (i : Nat), Reps c F vs ds → ∀ k, (ds.map Cell.sh)[i]? = some k → ∃ v d, k = .sh d ∧ (vs.map some)[i]? = some (some v) ∧ Rep c F v d
  | _, _, _, .nil, k, h => by simp at h
  | _, _, 0, .cons (v := v) (d := d) r _, k, h => by
    have h : some (Cell.sh d) = some k := h
    cases h
    exact ⟨v, d, rfl, rfl, r⟩
  | _, _, i + 1, .cons _ t, k, h => reps_map_get i t k h
theorem Ok.start {c : Cfg} {n : Nat} {F H : Hp} {vs : List V} {ds : List D} {N : List Str} (h1 : Same F H) (h2 : ∀ b, c.fp b → F b = none) (h3 : DeckAt c n H) (r : Reps c F vs ds) (hl : vs.length ≤ N.length) : Ok ⟨c, H, F, fun _ => none⟩ n F H (L2.start N vs) (env0 N.length ds) where
  keep := fun b x e _ => e
  sub := h1
  ffp := h2
  new := fun b _ e => e
  dk := h3
  pin := fun b x q => nomatch q
  len := by
    unfold L2.start env0
    rw [List.length_append, List.length_append, List.length_map, List.length_map, List.length_replicate, List.length_replicate, r.length]
  cells := fun i k e => by
    unfold env0 at e
    by_cases hi : i < ds.length
    · rw [List.getElem?_append_left (by simpa using hi)] at e
      obtain ⟨v, d, rfl, e1, e2⟩ := reps_map_get i r k e
      refine ⟨v, ?_, e2⟩
      unfold L2.start
      rw [List.getElem?_append_left (by rw [List.length_map, r.length]; exact hi)]
      exact e1
    · rw [List.getElem?_append_right (by simpa using hi), List.getElem?_replicate] at e
      split at e
      · cases e; trivial
      · cases e
  mon := Same.refl F
  disj := fun i j d e' o h1 _ _ _ => by
    exfalso
    unfold env0 at h1
    by_cases hi : i < ds.length
    · rw [List.getElem?_append_left (by simpa using hi)] at h1
      obtain ⟨v, d, z, _⟩ := reps_map_get i r _ h1
      cases z
    · rw [List.getElem?_append_right (by simpa using hi), List.getElem?_replicate] at h1
      split at h1 <;> cases h1
section
variable {P : Program} {w : World} {K : PySem.W.Frag} {mg : Str → Option Value} {base : Heap}
theorem _root_.L2.Fun.okP {x qual : Str} {st : Stmt} {f : Addr} {fd : FuncData} {N ps : List Str} {k : Nat} {S : Spec} (Fu : Fun K x qual st f fd) (sc : FnScope N ps (defScope st)) (len : ∀ ds n R, S ds n R → ds.length = ps.length)
    (hbody : ∀ (cdv : Value) (A : Around) (outer : List Env) (s : Shared) (H : Hp) (E : XK), Room k (A.deeper (envOfC qual (defScope st) s.heap.objs.size f cdv)) →
      ∃ q, DSs (cxOf CX0 P w K mg base N qual (defScope st) f cdv A outer s H E).nox (defBody st) q ∧ ∀ ds n R, S ds n R → q { nx := fun _ m => R .non m, rt := R } (env0 N.length ds) n) : FnOk P w K mg base CX0 (k + 1) f fd ps (spP K S) := by
  have hpl : ps.length ≤ N.length := by have := congrArg List.length sc.pre; rw [List.length_take] at this; omega
  refine Fu.ok sc (fun vs H Q E h => ?_) (fun cdv A outer s H vs Q E hr h => ?_)
  · obtain ⟨c, n, F, ds, R, hK, h1, h2, h3, r, hS, _⟩ := h
    rw [r.length]
    exact len ds n R hS
  · obtain ⟨c, n, F, ds, R, hK, h1, h2, h3, r, hS, hq⟩ := h
    obtain ⟨q, hd, hb⟩ := hbody cdv A outer s H E hr
    refine ⟨LS ⟨c, H, F, fun _ => none⟩ q, hd _ hK, n, F, env0 N.length ds, _, Ok.start h1 h2 h3 r ?_, hb ds n R hS, ?_⟩
    · rw [r.length, len ds n R hS]; exact hpl
    · have fin : ∀ n' F' H' σ' ρ' v d, Same F F' → Ok ⟨c, H, F, fun _ => none⟩ n' F' H' σ' ρ' → Rep c F' v d → R d n' → Q v H' := fun n' F' H' σ' ρ' v d s ok r hR => hq n' F' H' v d s ok.keep ok.sub ok.ffp ok.new ok.dk r hR
      exact ⟨fun n' F' H' σ' ρ' s ok h => fin n' F' H' σ' ρ' _ _ s ok .non h, fun n' F' H' σ' ρ' v d s ok r h => fin n' F' H' σ' ρ' v d s ok r h, fun _ _ _ _ _ _ _ h => h.elim, fun _ _ _ _ _ _ _ h => h.elim⟩
end
end PL

/-! PL: enumerate of lists, tuples, texts, with a start; iterables. -/
namespace PL
open PySem PySem.Spec L2

/-! ### enumerate -/
def ItE (k0 : Int) (n : Nat) (Src : Hp → Prop) (Y : Nat → V → Prop) : It :=
  ⟨fun i H => i < n ∧ Src H, fun i H v H' => ∃ T x, v = .ref T ∧ H T = none ∧ H' = upd H T (.tup [.int (k0 + (i : Int)), x]) ∧ Y i x, fun i H => i = n ∧ Src H⟩
theorem turn_enumG {P : Program} {w : World} {K : PySem.W.Frag} {elts : List Expr} {kk : Nat} {tpos : Pos} {k0 : Int} {n : Nat} {e it : Addr} {Src : Hp → Prop} {Y : Nat → V → Prop} {ItS : Nat → Heap → Prop}
    (hne : e ≠ it) (objS : ∀ i h, ItS i h → ∃ o, h.get? it = some o ∧ ∀ v, o.data ≠ .cell v) (keepS : ∀ i h h', ItS i h → (∀ o, h.get? it = some o → h'.get? it = some o) → ItS i h')
    (W : ∀ (X : Cx), X.prog = P → X.w = w → X.K = K → X.calm = true → ∀ (i : Nat) (pins : List (Addr × Obj)) (s : Shared) (σ : L2.St) (H : Hp), Inv X pins σ H s → (∀ b ∈ [e, it], FpOk X pins H b) → Src H → ItS i s.heap → ∃ (fp : List Addr) (Pv : Nat → Value → Prop) (Sv : Nat → Heap → Prop),
      Draws P w X.A.in1 it fp n Pv Sv ∧ e ∉ fp ∧ it ∈ fp ∧ Sv i s.heap ∧ (∀ j h, Sv j h → ItS j h) ∧ ∀ j u, Pv j u → ∃ x, RelV x u ∧ Y j x) :
    Turn P w K (.Tuple elts kk tpos) (ItE k0 n Src Y) [e, it] e (fun i h => (∃ old, IsEnum h e it (k0 + (i : Int)) old) ∧ ItS i h) where
  mem := by simp
  obj := fun i h st b hb => by
    obtain ⟨⟨old, he⟩, hi⟩ := st
    have e' : b = e ∨ b = it := by simpa using hb
    rcases e' with z | z
    · rw [z]; exact ⟨_, he, fun v q => nomatch q⟩
    · rw [z]; exact objS i h hi
  keep := fun i h h' st k => let ⟨⟨old, he⟩, hi⟩ := st; ⟨⟨old, k e (by simp) _ he⟩, keepS i h h' hi fun o q => k it (by simp) o q⟩
  item := by
    intro X hP hw hK hc i pins s σ H E I hf st hg
    obtain ⟨⟨old, he⟩, hit⟩ := st
    obtain ⟨fp, Pv, Sv, D, h1, h2, h3, h4, h5⟩ := W X hP hw hK hc i pins s σ H I hf hg.2 hit
    have hel : e < s.heap.objs.size := Heap.lt_size he
    have hil : it < s.heap.objs.size := by obtain ⟨_, q, _⟩ := objS i _ hit; exact Heap.lt_size q
    refine (GoesN.enumFrom (elts := elts) (x1 := kk) (pos := tpos) k0 D e hne h1 h2).goes i s (fun u s2 => ∃ x H', Inv X pins σ H' s2 ∧ RelV x u ∧ (ItE k0 n Src Y).yld i H x H' ∧ ((∃ old, IsEnum s2.heap e it (k0 + ((i + 1 : Nat) : Int)) old) ∧ ItS (i + 1) s2.heap) ∧ ∀ b ∈ [e, it], H' b = none) E hg.1 ⟨⟨old, he⟩, h3⟩ ?_
    rintro v h' tk ⟨T, t, u, rfl, hT, hu, hTT⟩ st' hk htk
    obtain ⟨x, rx, hy⟩ := h5 i u hu
    have hn : H T = none := I.hok.fresh hT
    have new : ObjOk X.prog X.w (upd H T (.tup [.int (k0 + (i : Int)), x])) h' T (.tup [.int (k0 + (i : Int)), x]) :=
      ⟨by show 2 ≤ sizeLine; decide, [.int (k0 + (i : Int)) t, u], .cons ⟨_, rfl⟩ (.cons rx .nil), hTT⟩
    have I1 : Inv X pins σ (upd H T (.tup [.int (k0 + (i : Int)), x])) { s with heap := h', toks := tk } := I.turnedNew (ch := [e, it]) hk hf hT new
    refine ⟨.ref T, _, I1, rfl, ⟨T, x, rfl, hn, rfl, hy⟩, ⟨st'.1, h4 _ _ st'.2⟩, fun b hb => ?_⟩
    have hb' : b < s.heap.objs.size := by
      have e' : b = e ∨ b = it := by simpa using hb
      rcases e' with z | z
      · rw [z]; exact hel
      · rw [z]; exact hil
    rw [upd_ne (Nat.ne_of_lt (Nat.lt_of_lt_of_le hb' hT))]
    exact (hf b hb).1
  done := by
    intro X hP hw hK hc i pins s σ H E I hf st hg
    obtain ⟨⟨old, he⟩, hit⟩ := st
    obtain ⟨rfl, hs⟩ := hg
    obtain ⟨fp, Pv, Sv, D, h1, h2, h3, h4, h5⟩ := W X hP hw hK hc i pins s σ H I hf hs hit
    refine (GoesN.enumFrom (elts := elts) (x1 := kk) (pos := tpos) k0 D e hne h1 h2).stops s (fun s1 => Inv X pins σ H s1) E ⟨⟨old, he⟩, h3⟩ ?_
    intro h' tk hk htk
    have nit : ∀ b u, H b = some u → b ∉ [e, it] := fun b u q z => by rw [(hf b z).1] at q; cases q
    refine I.step (g' := s.gens) (d' := s.drawn) (t' := tk) (ch := [e, it]) (fun b hb => ?_) (fun b o _ _ hc q _ => hk b o hc q) (fun b o _ _ hc q _ => ⟨o.slots, hk b o hc q⟩) (fun _ _ _ _ n => n)
      (fun b o hc q => ⟨o, hk b o hc q⟩) (fun _ _ q => q) (fun _ _ _ q => q) (fun b ps q => ⟨#[], by rw [q]; simp⟩) (fun m hm => ?_) (fun b u q => ?_) I.bare
    · obtain ⟨_, f1, _, f3, f4, f5⟩ := hf b hb
      exact ⟨f3, f1, f4, f5⟩
    · obtain ⟨o, es, ep, ho, r⟩ := hm
      exact ⟨o, es, ep, hk _ o (fun z => (hf _ z).2.1 rfl) ho, r⟩
    · refine (I.hok b u q).stay (fun c v hc q' => hk c v ?_ q') (fun _ q => q) fun _ _ q => q
      rcases hc with z | z
      · rw [z]; exact nit b u q
      · exact nit c _ z
  self := fun A i s Q E st h => let ⟨⟨_, he⟩, _⟩ := st; wpAny_pyIter_enum he h
/-- the enumerate object stands; it is walked -/
theorem pie_enum {X : Cx} {pins : List (Addr × Obj)} {σ : L2.St} {H : Hp} {s : Shared} {h' : Heap} {k0 : Int} {n : Nat} {Src : Hp → Prop} {Y : Nat → V → Prop} {ItS : Nat → Heap → Prop} {R : It → Hp → Prop} {elts : List Expr} {kk : Nat} {tpos : Pos} {o : Obj} (I : Inv X pins σ H s)
    (he : IsEnum h' (s.heap.objs.size + 1) s.heap.objs.size k0 .none) (ho : h'.get? s.heap.objs.size = some o) (hk : ∀ b o, s.heap.get? b = some o → h'.get? b = some o)
    (hi : ItS 0 h') (objS : ∀ i h, ItS i h → ∃ o, h.get? s.heap.objs.size = some o ∧ ∀ v, o.data ≠ .cell v) (keepS : ∀ i h h', ItS i h → (∀ o, h.get? s.heap.objs.size = some o → h'.get? s.heap.objs.size = some o) → ItS i h')
    (W : ∀ (X' : Cx), X'.prog = X.prog → X'.w = X.w → X'.K = X.K → X'.calm = true → ∀ (i : Nat) (pins : List (Addr × Obj)) (s' : Shared) (σ : L2.St) (H : Hp), Inv X' pins σ H s' → (∀ b ∈ [s.heap.objs.size + 1, s.heap.objs.size], FpOk X' pins H b) → Src H → ItS i s'.heap → ∃ (fp : List Addr) (Pv : Nat → Value → Prop) (Sv : Nat → Heap → Prop),
      Draws X.prog X.w X'.A.in1 s.heap.objs.size fp n Pv Sv ∧ s.heap.objs.size + 1 ∉ fp ∧ s.heap.objs.size ∈ fp ∧ Sv i s'.heap ∧ (∀ j h, Sv j h → ItS j h) ∧ ∀ j u, Pv j u → ∃ x, RelV x u ∧ Y j x)
    (q : R (ItE k0 n Src Y) H) : PIE X pins σ (.Tuple elts kk tpos) R (.ref (s.heap.objs.size + 1)) { s with heap := h' } := by
  have I2 : Inv X pins σ H { s with heap := h' } := I.kept (t' := s.toks) hk
  refine ⟨s.heap.objs.size + 1, [s.heap.objs.size + 1, s.heap.objs.size], _, _, H, rfl, I2, turn_enumG (k0 := k0) (n := n) (Nat.succ_ne_self _) objS keepS W, ⟨⟨.none, by simpa using he⟩, hi⟩, fun b hb => ?_, q⟩
  have e' : b = s.heap.objs.size + 1 ∨ b = s.heap.objs.size := by simpa using hb
  have hle : s.heap.objs.size ≤ b := by
    rcases e' with z | z
    · rw [z]; exact Nat.le_add_right _ _
    · rw [z]; exact Nat.le_refl _
  exact I.fpOk hle (I.hok.fresh hle)
theorem vals_back : ∀ {xs : List V} {us : List Value} {i : Nat} {u : Value}, Vals xs us → us[i]? = some u → ∃ x, xs[i]? = some x ∧ RelV x u
  | _, _, _, _, .nil, e => by simp at e
  | _, _, 0, _, .cons r _, e => by simp at e; subst e; exact ⟨_, rfl, r⟩
  | _, _, i + 1, u, .cons _ t, e => by
    obtain ⟨x, h1, h2⟩ := vals_back (i := i) (u := u) t (by simpa using e)
    exact ⟨x, by simpa using h1, h2⟩
/-- a list, a tuple, a text -/
def iEnumV (K : PySem.W.Frag) (k0 : Int) (v : V) (H : Hp) (R : It → Hp → Prop) : Prop :=
  (∃ a xs, v = .ref a ∧ SqL K H a xs ∧ R (ItE k0 xs.length (fun H => SqL K H a xs) fun i x => xs[i]? = some x) H) ∨
  (∃ a xs, v = .ref a ∧ SqT K H a xs ∧ R (ItE k0 xs.length (fun H => SqT K H a xs) fun i x => xs[i]? = some x) H) ∨
  (∃ z, v = .str z ∧ R (ItE k0 z.cps.size (fun _ => True) fun i x => ∃ c, z.cps[i]? = some c ∧ x = .str ⟨#[c]⟩) H)
theorem enum_made {X : Cx} {pins : List (Addr × Obj)} {σ : L2.St} {H : Hp} {s : Shared} {k0 : Int} {v : V} {u : Value} {R : It → Hp → Prop} {elts : List Expr} {kk : Nat} {tpos : Pos} (hc : X.calm = true) (I : Inv X pins σ H s) (r : RelV v u) (q : iEnumV X.K k0 v H R)
    {f : Value → Sem Value} {Q : Value → Shared → Prop} {E : Value → Shared → Prop}
    (hf : ∀ (o : Obj) (Hh : Heap → Prop), Begins u o Hh → Hh s.heap → (∀ h', IsEnum h' (s.heap.objs.size + 1) s.heap.objs.size k0 .none → h'.get? s.heap.objs.size = some o → h'.objs.size = s.heap.objs.size + 2 → (∀ b o, s.heap.get? b = some o → h'.get? b = some o) → Q (.ref (s.heap.objs.size + 1)) { s with heap := h' }) → wpAny (model X.prog X.w) X.A (f u) Q E s)
    (hQ : ∀ h' e, IsEnum h' e s.heap.objs.size k0 .none → PIE X pins σ (.Tuple elts kk tpos) R (.ref e) { s with heap := h' } → Q (.ref e) { s with heap := h' }) : wpAny (model X.prog X.w) X.A (f u) Q E s := by
  rcases q with ⟨a, xs, rfl, hS, q⟩ | ⟨a, xs, rfl, hS, q⟩ | ⟨z, rfl, q⟩
  · cases r
    obtain ⟨its, rv, p, hz⟩ := I.list hS
    refine hf _ _ (begins_list a its.toArray) p.isList fun h' he ho hsz hk => hQ _ _ he (pie_enum I he ho hk (ItS := fun i h => h.IsListIter s.heap.objs.size a i) ⟨_, ho, rfl, by rfl⟩ (fun i h ⟨o, e, c, d⟩ => ⟨o, e, fun v z => by rw [d] at z; cases z⟩) (fun i h h' st k => st.at k) (fun X' hP hw hK hc' i pins' s' σ' H' I' hfp hS' hit => ?_) q)
    obtain ⟨its', rv', p', _⟩ := I'.list (by rw [hK]; exact hS')
    have na : a ≠ s.heap.objs.size := fun z => by
      obtain ⟨o, e, _⟩ := p.isList
      rw [z] at e
      exact absurd (Heap.lt_size e) (Nat.lt_irrefl _)
    have na1 : s.heap.objs.size + 1 ≠ a := fun z => by
      obtain ⟨o, e, _⟩ := p.isList
      rw [← z] at e
      exact absurd (Heap.lt_size e) (Nat.not_lt.mpr (Nat.le_succ _))
    refine ⟨[s.heap.objs.size, a], fun i v => its'.toArray[i]? = some v, fun i h => h.IsListIter s.heap.objs.size a i ∧ h.IsList a its'.toArray, (by rw [← hP, ← hw, rv'.length, ← List.size_toArray]; exact Draws.list (A := X'.A.in1) (I'.ok.hd hc') s.heap.objs.size a na its'.toArray), ?_, List.mem_cons_self, ⟨hit, p'.isList⟩, fun j h hh => hh.1, fun j u hu => ?_⟩
    · simp only [List.mem_cons, List.not_mem_nil, or_false, not_or]
      exact ⟨Nat.succ_ne_self _, na1⟩
    · obtain ⟨x, e, r⟩ := vals_back rv' (by simpa using hu)
      exact ⟨x, r, e⟩
  · cases r
    obtain ⟨its, rv, p, hz⟩ := I.tuple hS
    refine hf _ _ (begins_tuple a its.toArray) p fun h' he ho hsz hk => hQ _ _ he (pie_enum I he ho hk (ItS := fun i h => h.IsTupleIter s.heap.objs.size a i) ⟨_, ho, rfl, by rfl⟩ (fun i h ⟨o, e, c, d⟩ => ⟨o, e, fun v z => by rw [d] at z; cases z⟩) (fun i h h' st k => st.at k) (fun X' hP hw hK hc' i pins' s' σ' H' I' hfp hS' hit => ?_) q)
    obtain ⟨its', rv', p', _⟩ := I'.tuple (by rw [hK]; exact hS')
    have na : a ≠ s.heap.objs.size := fun z => by
      obtain ⟨o, e, _⟩ := id p
      rw [z] at e
      exact absurd (Heap.lt_size e) (Nat.lt_irrefl _)
    have na1 : s.heap.objs.size + 1 ≠ a := fun z => by
      obtain ⟨o, e, _⟩ := id p
      rw [← z] at e
      exact absurd (Heap.lt_size e) (Nat.not_lt.mpr (Nat.le_succ _))
    refine ⟨[s.heap.objs.size, a], fun i v => its'.toArray[i]? = some v, fun i h => h.IsTupleIter s.heap.objs.size a i ∧ h.IsTuple a its'.toArray, (by rw [← hP, ← hw, rv'.length, ← List.size_toArray]; exact Draws.tuple (A := X'.A.in1) (I'.ok.hd hc') s.heap.objs.size a na its'.toArray), ?_, List.mem_cons_self, ⟨hit, p'⟩, fun j h hh => hh.1, fun j u hu => ?_⟩
    · simp only [List.mem_cons, List.not_mem_nil, or_false, not_or]
      exact ⟨Nat.succ_ne_self _, na1⟩
    · obtain ⟨x, e, r⟩ := vals_back rv' (by simpa using hu)
      exact ⟨x, r, e⟩
  · obtain ⟨t, rfl⟩ := r
    refine hf _ _ (begins_text z t) trivial fun h' he ho hsz hk => hQ _ _ he (pie_enum I he ho hk (ItS := fun i h => h.IsStrIter s.heap.objs.size (strIterType z) z t i) ⟨_, ho, rfl, by rfl⟩ (fun i h ⟨o, e, c, d⟩ => ⟨o, e, fun v z => by rw [d] at z; cases z⟩) (fun i h h' ⟨o, e, c, d⟩ k => ⟨o, k o e, c, d⟩) (fun X' hP hw hK hc' i pins' s' σ' H' I' hfp hS' hit => ?_) q)
    refine ⟨_, _, _, (by rw [← hP, ← hw]; exact Draws.text (A := X'.A.in1) (I'.ok.hd hc') s.heap.objs.size z t), ?_, List.mem_cons_self, hit, fun j h hh => hh, fun j u hu => ?_⟩
    · simp only [List.mem_cons, List.not_mem_nil, or_false]
      exact Nat.succ_ne_self _
    · obtain ⟨c, v, e, rfl⟩ := hu
      exact ⟨.str ⟨#[c]⟩, ⟨_, rfl⟩, c, e, rfl⟩
set_option maxHeartbeats 1000000 in
/-- enumerate(v), whatever v begins with -/
theorem meets_enum1 {v : Value} {o : Obj} {Hh : Heap → Prop} (B : Begins v o Hh) :
    Meets (Builtin.«enumerate.__new__» ⟨[.type "enumerate", v], []⟩) (fun _ R s => Hh s.heap ∧
      R (.ok (.ret (.ref (s.heap.push o).objs.size))) { s with heap := (s.heap.push o).push { cls := .type "enumerate", data := .fields #[.none, .bool false, .ref s.heap.objs.size, rawInt 0, .none, .none] } }) :=
  .of_wp fun prog w A R s h => by
    obtain ⟨hp, gg, dd, tk, os⟩ := s
    obtain ⟨h1, h⟩ := h
    have hsub := sub_enumerate
    have beg : ∀ {A' : Around} {E : Value → Shared → Prop} {Q : Value → Shared → Prop}, Q (.ref hp.objs.size) ⟨hp.push o, gg, dd, tk, os⟩ → wpAny (model prog w) A' (pyIter v) Q E ⟨hp, gg, dd, tk, os⟩ :=
      fun q => B.iter prog w _ _ ⟨hp, gg, dd, tk, os⟩ _ h1 q
    wp_walk using beg
    refine wpAny_stack_any fun st => wpAny_pure ?_
    split
    · rename_i c _ _ _ _ _
      cases (c == Value.type "enumerate") <;> (wp_walk using beg; exact ⟨_, rfl, h⟩)
    · wp_walk using beg
      exact ⟨_, rfl, h⟩
theorem enum_one {prog : Program} {w : World} {A : Around} {E : Value → Shared → Prop} {s : Shared} {v : Value} {o : Obj} {Hh : Heap → Prop} {Q : Value → Shared → Prop} (B : Begins v o Hh) (h1 : Hh s.heap)
    (h : ∀ h', IsEnum h' (s.heap.objs.size + 1) s.heap.objs.size 0 .none → h'.get? s.heap.objs.size = some o → h'.objs.size = s.heap.objs.size + 2 →
      (∀ b o, s.heap.get? b = some o → h'.get? b = some o) → Q (.ref (s.heap.objs.size + 1)) { s with heap := h' }) : wpAny (model prog w) A (call (.type "enumerate") [v]) Q E s := by
  refine callType_new F.called_enumerate (by decide) (F.typeCall_enumerate_1 _) (F.newCall_enumerate_1 _) (fun obj => F.args_object_init_2 obj _) F.entry_enumerate_new (meets_enum1 B) ⟨h1, ?_⟩
  have hz : (s.heap.push o).objs.size = s.heap.objs.size + 1 := Heap.size_push ..
  show _ ∧ _
  rw [hz]
  have he : IsEnum ((s.heap.push o).push { cls := .type "enumerate", data := .fields #[.none, .bool false, .ref s.heap.objs.size, rawInt 0, .none, .none] }) (s.heap.objs.size + 1) s.heap.objs.size 0 .none := by
    have q := Heap.get?_push_size (s.heap.push o) (o := { cls := .type "enumerate", data := .fields #[.none, .bool false, .ref s.heap.objs.size, rawInt 0, .none, .none] }) rfl
    rw [hz] at q; exact q
  exact ⟨⟨_, he, rfl⟩, h _ he (Heap.get?_push_of_some _ (Heap.get?_push_size _ B.free)) (by rw [Heap.size_push, hz]) fun b o x => Heap.get?_push_of_some _ (Heap.get?_push_of_some _ x)⟩
section
variable {X : Cx} {e : Expr} {p pos tpos : Pos} {elts : List Expr} {kk : Nat}
def iEnumG (K : PySem.W.Frag) (k0 : Int) (ta : TA) : TI := fun σ H R => ta σ H fun vs H1 => ∃ v, vs = [v] ∧ iEnumV K k0 v H1 R
theorem pi_enumG {ta : TA} (hg : Gl X "enumerate") (hm : X.mg "enumerate" = none) (ha : PA X [e] ta) (hc : X.calm = true := by rfl) (hs : starEach [e] X.env = [(false, eval e X.env)] := by rfl) :
    PI X (.Tuple elts kk tpos) (.Call (.Name "enumerate" p) [e] [] pos) (iEnumG X.K 0 ta) := by
  refine ⟨fun pins s σ H R I h => ?_⟩
  refine PyProof.Rows.Call_ (ld_blt I hg hm PyProof.Rows.boot_enumerate (PyProof.Rows.callWith_type1 (thn (ha.run pos pins s σ H _ I h) fun us s1 ⟨vs, H1, I1, r1, q1⟩ => ?_) hs rfl))
  obtain ⟨v, rfl, q⟩ := q1
  cases r1 with
  | cons r rr =>
    cases rr
    exact enum_made (f := fun u => call (.type "enumerate") [u]) hc I1 r q (fun o Hh B hH k => enum_one B hH k) fun h' e' he hp => wpAny_pyIter_enum he hp
theorem callWith_tyK {M : Model} {A : Around} {E : Value → Shared → Prop} {s : Shared} {env : Env} {T : String} {Q : Value → Shared → Prop} {rest : List Expr} {kws : List Keyword} (hall : (backToKw pos (keywordEach kws env)).all (·.1.isSome) = true)
    (h : wpAny M A (spliced (backTo pos (starEach (e :: rest) env))) (fun vs s₁ => wpAny M A (evalAll ((backToKw pos (keywordEach kws env)).map (·.2)))
      (fun ks s₂ => True ∧ wpAny M A (call (.type T) ([] ++ vs) (((backToKw pos (keywordEach kws env)).filterMap (·.1)).zip ks)) Q E s₂) E s₁) E s)
    (hplain : ((backTo pos (starEach (e :: rest) env)).any (·.1) || (backToKw pos (keywordEach kws env)).any (·.1.isNone)) = false) (he : starEach (e :: rest) env = (false, eval e env) :: starEach rest env) :
    wpAny M A (callWith pos (.type T) [] (backTo pos (starEach (e :: rest) env)) (backToKw pos (keywordEach kws env))) Q E s :=
  PySem.W.callWith_of (P := fun _ => True) hplain (fun _ _ => ⟨.machine, .inr (.inl rfl), fun A Q E s _ q => wpAny_pure q⟩) (PyProof.Rows.evalArgs_kw2 hall h he)
def iEnumK (K : PySem.W.Frag) (ta tk : TA) : TI := fun σ H R => ta σ H fun vs H1 => tk σ H1 fun ks H2 => ∃ v k0, vs = [v] ∧ ks = [.int k0] ∧ -(2 ^ 63) ≤ k0 ∧ k0 < 2 ^ 63 ∧ iEnumV K k0 v H2 R
theorem pi_enumK {ta tk : TA} {kws : List Keyword} (hg : Gl X "enumerate") (hm : X.mg "enumerate" = none) (ha : PA X [e] ta) (hk : PK X kws tk) (hc : X.calm = true := by rfl) (hs : starEach [e] X.env = (false, eval e X.env) :: starEach [] X.env := by rfl)
    (hall : (backToKw pos (keywordEach kws X.env)).all (·.1.isSome) = true := by rfl) (hks : (backToKw pos (keywordEach kws X.env)).filterMap (·.1) = [Str.ofString "start"] := by rfl)
    (hpl : ((backTo pos (starEach [e] X.env)).any (·.1) || (backToKw pos (keywordEach kws X.env)).any (·.1.isNone)) = false := by rfl) :
    PI X (.Tuple elts kk tpos) (.Call (.Name "enumerate" p) [e] kws pos) (iEnumK X.K ta tk) := by
  constructor
  intro pins s σ H R I h
  refine wpAny_Call_Name_kw (ld_blt I hg hm PyProof.Rows.boot_enumerate (callWith_tyK hall (thn (ha.run pos pins s σ H _ I h) fun us s1 ⟨vs, H1, I1, r1, q1⟩ => thn (hk.run pos pins s1 σ H1 _ I1 q1) fun ws s2 ⟨zs, H2, I2, r2, q2⟩ => ⟨trivial, ?_⟩) hpl hs))
  obtain ⟨v, k0, rfl, rfl, b1, b2, q⟩ := q2
  rw [hks]
  cases r1 with
  | cons r rr =>
    cases rr
    cases r2 with
    | cons r2 rr2 =>
      cases rr2
      obtain ⟨t, rfl⟩ := r2
      exact enum_made (f := fun u => call (.type "enumerate") [u] [(Str.ofString "start", .int k0 t)]) hc I2 r q (fun o Hh B hH k => enum_begins_start B hH b1 b2 k) fun h' e' he hp => wpAny_pyIter_enum he hp
end
end PL

/-! PL: defs that are called while no repr is under way. -/
namespace PL
open PySem PySem.Spec L2
open PyProof.Rows (envOfC)
/-- the def at f keeps its promise wherever no repr is under way -/
structure FnG (P : Program) (w : World) (K : PySem.W.Frag) (mg : Str → Option Value) (base : Heap) (k : Nat) (f : Addr) (fd : FuncData) (ps : List Str) (sp : Sp) : Prop where
  len : ∀ vs H Q E, sp vs H Q E → vs.length = ps.length
  run : ∀ (A : Around) (outer : List Env) (s : Shared) (H : Hp) (args : Args) (us : List Value) (vs : List V) (Q : VK) (E : XK), A.guards = some [] → Room k A →
    Env0 P w K mg base A outer s H → BindsTo s fd args (ps.zip us) → Vals vs us → sp vs H Q E → codeAny (model P w) A (.call (.ref f) args) (CR CX0 outer P w H s Q E) s
theorem FnG.mono {P : Program} {w : World} {K : PySem.W.Frag} {mg : Str → Option Value} {base : Heap} {j k : Nat} {f : Addr} {fd : FuncData} {ps : List Str} {sp : Sp} (F : FnG P w K mg base j f fd ps sp) (h : j ≤ k) : FnG P w K mg base k f fd ps sp :=
  ⟨F.len, fun A outer s H args us vs Q E hg hr => F.run A outer s H args us vs Q E hg (hr.mono h)⟩
theorem cr_end {P : Program} {w : World} {X : Cx} {pins : List (Addr × Obj)} {σ : L2.St} {H : Hp} {s : Shared} {Q : VK} {E : XK} (I : Inv X pins σ H s) {r : Result} {s' : Shared} (h : CR CX0 X.stack X.prog X.w H s Q E r s') :
    ∃ u, r = .ok (.ret u) ∧ EP X pins σ Q u s' := by
  match r, h with
  | .ok (.ret u), h => exact ⟨u, rfl, I.after h⟩
  | .ok .next, h => exact False.elim h
  | .ok .brk, h => exact False.elim h
  | .ok .cont, h => exact False.elim h
  | .error e, h => exact False.elim h
section
variable {X : Cx} {k : Nat} {f : Addr} {fd : FuncData} {ps : List Str} {sp : Sp}
theorem run_g {pins : List (Addr × Obj)} {σ : L2.St} {H : Hp} {s : Shared} {Q : VK} {us zs : List Value} {vs : List V} {E : XK} {kw : List (Str × Value)} (F : FnG X.prog X.w X.K X.mg X.base k f fd ps sp) (hg : X.A.guards = some []) (hr : Room k X.A)
    (I : Inv X pins σ H s) (hb : BindsTo s fd ⟨us, kw⟩ (ps.zip zs)) (r : Vals vs zs) (h : sp vs H Q E) : wpAny (model X.prog X.w) X.A (call (.ref f) us kw) (EP X pins σ Q) X.xe s := by
  refine wpAny_call (codeAny_mono (F.run X.A X.stack s H ⟨us, kw⟩ zs vs Q E hg hr I.env0 hb r h) ?_)
  intro r s' hq
  obtain ⟨u, rfl, he⟩ := cr_end (P := X.prog) (w := X.w) I hq
  exact he
theorem pe_callG {E : XK} {x : Str} {pf pos : Pos} {e : Expr} {es : List Expr} {t : TA} (F : FnG X.prog X.w X.K X.mg X.base k f fd ps sp) (hgd : X.A.guards = some []) (hr : Room k X.A) (hg : Gl X x) (hm : X.mg x = some (.ref f)) (hk : PySem.W.keepIn X.K (.ref f) = true)
    (hb : Binds X.K fd ps []) (ha : PA X (e :: es) t) (hdb : (x == ("__debug__" : Str)) = false := by decide) (he : starEach (e :: es) X.env = (false, eval e X.env) :: starEach es X.env := by rfl) (hpl : (backTo pos (starEach es X.env)).any (·.1) = false := by rfl) :
    PE X (.Call (.Name x pf) (e :: es) [] pos) (fun σ H Q => t σ H fun vs H1 => sp vs H1 Q E) := by
  constructor
  intro pins s σ H Q I h
  refine wpAny_Call_Name_kw (ld_glob I hg hm ?_ hdb)
  refine PySem.W.callWith_K (h₀ := X.base) I.ok.mod.kin hk (thn (ha.run pos pins s σ H _ I h) ?_) he hpl
  rintro us s1 ⟨vs, H1, I1, r, q⟩
  have hl : (us ++ []).length = ps.length := by rw [List.append_nil, ← r.length]; exact F.len _ _ _ _ q
  have b := hb s1 us I1.kIn hl
  rw [List.append_nil] at b
  exact ⟨I1.kIn, run_g F hgd hr I1 b r q⟩
theorem pe_callG0 {E : XK} {x : Str} {pf pos : Pos} (F : FnG X.prog X.w X.K X.mg X.base k f fd ps sp) (hgd : X.A.guards = some []) (hr : Room k X.A) (hg : Gl X x) (hm : X.mg x = some (.ref f)) (hk : PySem.W.keepIn X.K (.ref f) = true)
    (hb : Binds X.K fd ps []) (hdb : (x == ("__debug__" : Str)) = false := by decide) : PE X (.Call (.Name x pf) [] [] pos) (fun σ H Q => sp [] H Q E) := by
  constructor
  intro pins s σ H Q I q
  refine wpAny_Call_Name_kw (ld_glob I hg hm ?_ hdb)
  have hl : ([] ++ ([] : List Value)).length = ps.length := F.len _ _ _ _ q
  have b := hb s [] I.kIn hl
  exact PySem.W.callWith_K0 I.kIn hk (run_g (zs := []) F hgd hr I b .nil q)
/-- keywords, behind positional arguments or alone -/
theorem pe_callGK {E : XK} {x : Str} {pf pos : Pos} {e : Expr} {es : List Expr} {kws : List Keyword} {ks : List Str} {gL : List Value → List Value → List Value} {gV : List V → List V → List V} {t tk : TA} (F : FnG X.prog X.w X.K X.mg X.base k f fd ps sp) (hgd : X.A.guards = some []) (hr : Room k X.A) (hg : Gl X x) (hm : X.mg x = some (.ref f)) (hk : PySem.W.keepIn X.K (.ref f) = true)
    (hb : KBinds X.K fd ps ks gL gV) (ha : PA X (e :: es) t) (hkw : PK X kws tk) (hall : (backToKw pos (keywordEach kws X.env)).all (·.1.isSome) = true := by rfl) (hks : (backToKw pos (keywordEach kws X.env)).filterMap (·.1) = ks := by rfl)
    (hdb : (x == ("__debug__" : Str)) = false := by decide) (he : starEach (e :: es) X.env = (false, eval e X.env) :: starEach es X.env := by rfl)
    (hpl : ((backTo pos (starEach (e :: es) X.env)).any (·.1) || (backToKw pos (keywordEach kws X.env)).any (·.1.isNone)) = false := by rfl) :
    PE X (.Call (.Name x pf) (e :: es) kws pos) (fun σ H Q => t σ H fun vs H1 => tk σ H1 fun zs H2 => sp (gV vs zs) H2 Q E) := by
  constructor
  intro pins s σ H Q I h
  refine wpAny_Call_Name_kw (ld_glob I hg hm ?_ hdb)
  refine PySem.W.callWith_KW (h₀ := X.base) I.ok.mod.kin hk hall (thn (ha.run pos pins s σ H _ I h) ?_) hpl he
  rintro us s1 ⟨vs, H1, I1, r, q⟩
  refine thn (hkw.run pos pins s1 σ H1 _ I1 q) ?_
  rintro ws s2 ⟨zs, H2, I2, rz, q2⟩
  rw [hks]
  have r2 := hb.rel r rz
  exact ⟨I2.kIn, run_g F hgd hr I2 (hb.to s2 us ws I2.kIn (by rw [← r2.length]; exact F.len _ _ _ _ q2)) r2 q2⟩
/-- how a call by names alone binds: the i-th parameter is the keyword with the number ix i -/
def picks {α : Type} (ix : List Nat) (zs : List α) : List α := ix.filterMap fun i => zs[i]?
def NBinds (K : PySem.W.Frag) (fd : FuncData) (ps ks : List Str) (ix : List Nat) : Prop := ∀ (s : Shared) (ws : List Value), K.In s.heap → ws.length = ks.length → BindsTo s fd ⟨[], ks.zip ws⟩ (ps.zip (picks ix ws))
theorem vals_picks {vs : List V} {us : List Value} (r : Vals vs us) : ∀ ix : List Nat, Vals (picks ix vs) (picks ix us)
  | [] => .nil
  | i :: ix => by
    unfold picks
    rw [List.filterMap_cons, List.filterMap_cons]
    cases h : vs[i]? with
    | none =>
      rw [Vals.none_of r h]
      exact vals_picks r ix
    | some d =>
      obtain ⟨v, hv, rv⟩ := r.get h
      rw [hv]
      exact .cons rv (vals_picks r ix)
theorem pe_callGK0 {E : XK} {x : Str} {pf pos : Pos} {kws : List Keyword} {ks : List Str} {ix : List Nat} {tk : TA} (F : FnG X.prog X.w X.K X.mg X.base k f fd ps sp) (hgd : X.A.guards = some []) (hr : Room k X.A) (hg : Gl X x) (hm : X.mg x = some (.ref f)) (hk : PySem.W.keepIn X.K (.ref f) = true)
    (hb : NBinds X.K fd ps ks ix) (hkw : PK X kws tk) (hall : (backToKw pos (keywordEach kws X.env)).all (·.1.isSome) = true := by rfl) (hks : (backToKw pos (keywordEach kws X.env)).filterMap (·.1) = ks := by rfl)
    (hdb : (x == ("__debug__" : Str)) = false := by decide)
    (hpl : ((backTo pos (starEach [] X.env)).any (·.1) || (backToKw pos (keywordEach kws X.env)).any (·.1.isNone)) = false := by rfl) :
    PE X (.Call (.Name x pf) [] kws pos) (fun σ H Q => tk σ H fun zs H2 => zs.length = ks.length ∧ sp (picks ix zs) H2 Q E) := by
  constructor
  intro pins s σ H Q I h
  refine wpAny_Call_Name_kw (ld_glob I hg hm ?_ hdb)
  refine PySem.W.callWith_KW0 (h₀ := X.base) I.ok.mod.kin hk hall (thn (hkw.run pos pins s σ H _ I h) ?_) hpl
  rintro ws s2 ⟨zs, H2, I2, rz, hl, q2⟩
  rw [hks]
  exact ⟨I2.kIn, run_g F hgd hr I2 (hb s2 ws I2.kIn (by rw [← rz.length]; exact hl)) (vals_picks rz ix) q2⟩
end

/-! ### the rule for a def -/
section
variable {P : Program} {w : World} {K : PySem.W.Frag} {mg : Str → Option Value} {base : Heap}
theorem _root_.L2.Fun.okG {x qual : Str} {st : Stmt} {f : Addr} {fd : FuncData} {N ps : List Str} {k : Nat} {sp : Sp} (Fu : Fun K x qual st f fd) (S : FnScope N ps (defScope st)) (len : ∀ vs H Q E, sp vs H Q E → vs.length = ps.length)
    (hbody : ∀ (cdv : Value) (A : Around) (outer : List Env) (s : Shared) (H : Hp) (vs : List V) (Q : VK) (E : XK), A.guards = some [] → Room k (A.deeper (envOfC qual (defScope st) s.heap.objs.size f cdv)) → sp vs H Q E →
      ∃ t, PSs (cxOf CX0 P w K mg base N qual (defScope st) f cdv A outer s H E).nox (defBody st) t ∧ t { nx := fun _ H' => Q .non H', rt := Q } (L2.start N vs) H) : FnG P w K mg base (k + 1) f fd ps sp := by
  obtain ⟨oc, od, kV, doc, pm, an, cdv, ct, osl, rfl, lk, hcd⟩ := Fu.ex
  refine ⟨len, ?_⟩
  intro A outer s H args us vs Q E hgd hr e0 hb r hsp
  have KX : K.In s.heap := e0.mod.kin.keeps fun b o e => (e0.bs b o e).1
  have lim : s.heap.NoLimit := e0.mod.nolimit.keeps fun b o e => (e0.bs b o e).1
  have hkind : ∀ y ∈ ps.zip us, (defScope st).names.lookup y.1 = some .local ∨ ((defScope st).names.lookup y.1 = some .cell ∧ ((cellsFrom (s.heap.objs.size + 1) (defScope st).names []).lookup y.1).isSome = true) := by
    rintro ⟨m, v⟩ hy
    exact (S.par m (List.of_mem_zip hy).1).elim .inl fun q => .inr ⟨q, PySem.W.cellsFrom_some _ _ _ (.inl q)⟩
  refine codeAny_call_function hr.depth (KX _ _ lk) rfl S.co S.gen rfl (PySem.W.codeRec_of KX hcd) (hb _ _ _ _ ?_)
  refine wpAny_newFunctionEnv_cells S.kind hkind ?_
  rintro env rfl s1 x
  refine ⟨lim.keeps x.toInCall.keep, codeAny_func ?_⟩
  obtain ⟨t, ht, hq⟩ := hbody cdv A outer s H vs Q E hgd (hr.deeper _) hsp
  have I : Inv (cxOf CX0 P w K mg base N qual (defScope st) f cdv A outer s H E) [] (L2.start N vs) H s1 := inv_start S hr.hd e0 (len _ _ _ _ hsp) r x
  refine wpAny_mono (ht.nox.run [] s1 (L2.start N vs) H _ I hq) ?_ fun e s' hs => hs
  intro fl s' hs
  match fl, hs with
  | .ret u, ⟨v, σ', H', J, rv, q⟩ => exact ⟨v, H', J.os, J.bare, J.base, J.hok, rv, q⟩
  | .next, ⟨σ', H', J, q⟩ => exact ⟨V.non, H', J.os, J.bare, J.base, J.hok, rfl, q⟩
  | .brk, ⟨_, _, _, q⟩ => exact q.elim
  | .cont, ⟨_, _, _, q⟩ => exact q.elim
theorem _root_.L2.Fun.okPG {x qual : Str} {st : Stmt} {f : Addr} {fd : FuncData} {N ps : List Str} {k : Nat} {S : Spec} (Fu : Fun K x qual st f fd) (sc : FnScope N ps (defScope st)) (len : ∀ ds n R, S ds n R → ds.length = ps.length)
    (hbody : ∀ (cdv : Value) (A : Around) (outer : List Env) (s : Shared) (H : Hp) (E : XK), A.guards = some [] → Room k (A.deeper (envOfC qual (defScope st) s.heap.objs.size f cdv)) →
      ∃ q, DSs (cxOf CX0 P w K mg base N qual (defScope st) f cdv A outer s H E).nox (defBody st) q ∧ ∀ ds n R, S ds n R → q { nx := fun _ m => R .non m, rt := R } (env0 N.length ds) n) : FnG P w K mg base (k + 1) f fd ps (spP K S) := by
  have hpl : ps.length ≤ N.length := by have := congrArg List.length sc.pre; rw [List.length_take] at this; omega
  refine Fu.okG sc (fun vs H Q E h => ?_) (fun cdv A outer s H vs Q E hgd hr h => ?_)
  · obtain ⟨c, n, F, ds, R, hK, h1, h2, h3, r, hS, _⟩ := h
    rw [r.length]
    exact len ds n R hS
  · obtain ⟨c, n, F, ds, R, hK, h1, h2, h3, r, hS, hq⟩ := h
    obtain ⟨q, hd, hb⟩ := hbody cdv A outer s H E hgd hr
    refine ⟨LS ⟨c, H, F, fun _ => none⟩ q, hd _ hK, n, F, env0 N.length ds, _, Ok.start h1 h2 h3 r ?_, hb ds n R hS, ?_⟩
    · rw [r.length, len ds n R hS]; exact hpl
    · have fin : ∀ n' F' H' σ' ρ' v d, Same F F' → Ok ⟨c, H, F, fun _ => none⟩ n' F' H' σ' ρ' → Rep c F' v d → R d n' → Q v H' := fun n' F' H' σ' ρ' v d s ok r hR => hq n' F' H' v d s ok.keep ok.sub ok.ffp ok.new ok.dk r hR
      exact ⟨fun n' F' H' σ' ρ' s ok h => fin n' F' H' σ' ρ' _ _ s ok .non h, fun n' F' H' σ' ρ' v d s ok r h => fin n' F' H' σ' ρ' v d s ok r h, fun _ _ _ _ _ _ _ h => h.elim, fun _ _ _ _ _ _ _ h => h.elim⟩
end

/-! ### calls, lifted -/
section
variable {X : Cx} {k : Nat} {f : Addr} {fd : FuncData} {ps : List Str} {S : Spec} {x : Str} {pf pos : Pos} {e : Expr} {es : List Expr} {t tk : TPA} {kws : List Keyword}
theorem de_fn (Fn : FnG X.prog X.w X.K X.mg X.base k f fd ps (spP X.K S)) (hgd : X.A.guards = some []) (hr : Room k X.A) (hg : Gl X x) (hm : X.mg x = some (.ref f)) (hk : PySem.W.keepIn X.K (.ref f) = true) (hb : Binds X.K fd ps [])
    (ha : DA X (e :: es) t) (hdb : (x == ("__debug__" : Str)) = false := by decide) (he : starEach (e :: es) X.env = (false, eval e X.env) :: starEach es X.env := by rfl) (hpl : (backTo pos (starEach es X.env)).any (·.1) = false := by rfl) :
    DE X (.Call (.Name x pf) (e :: es) [] pos) (pFn S t) := fun g hK => (pe_callG (E := fun _ _ _ => False) Fn hgd hr hg hm hk hb (ha g hK) hdb he hpl).imp fun σ H Q ⟨n, F, ρ, R, ok, hq, k⟩ =>
  ⟨n, F, ρ, _, ok, hq, fun n1 F1 H1 vs ds s1 ok1 r1 h1 => by
    rw [← hK]
    exact LA.fn (t := t) ok1 r1 h1 fun n' F' H' v d s2 ok2 r2 h2 => k n' F' H' v d (s1.trans s2) ok2 r2 h2⟩
theorem de_fn0 (Fn : FnG X.prog X.w X.K X.mg X.base k f fd ps (spP X.K S)) (hgd : X.A.guards = some []) (hr : Room k X.A) (hg : Gl X x) (hm : X.mg x = some (.ref f)) (hk : PySem.W.keepIn X.K (.ref f) = true) (hb : Binds X.K fd ps [])
    (hdb : (x == ("__debug__" : Str)) = false := by decide) : DE X (.Call (.Name x pf) [] [] pos) (pFn S pNil) := fun g hK => (pe_callG0 (E := fun _ _ _ => False) Fn hgd hr hg hm hk hb hdb).imp fun σ H Q ⟨n, F, ρ, R, ok, hq, k⟩ => by
    rw [← hK]
    exact LA.fn (t := pNil) ok .nil hq fun n' F' H' v d s2 ok2 r2 h2 => k n' F' H' v d s2 ok2 r2 h2
/-- keywords' values -/
def DK (X : Cx) (kws : List Keyword) (p : TPA) : Prop := ∀ g : G, g.c.K = X.K → PK X kws (LA g p)
theorem _root_.L2.PK.imp {X : Cx} {e : List Keyword} {t t' : TA} (h : PK X e t) (w : ∀ σ H Q, t' σ H Q → t σ H Q) : PK X e t' := ⟨fun pos pins s σ H Q I q => h.run pos pins s σ H Q I (w σ H Q q)⟩
theorem dk_nil : DK X [] pNil := fun g hK => pk_nil.imp fun σ H Q ⟨n, F, ρ, R, ok, hq, k⟩ => k n F H _ _ (Same.refl F) ok .nil hq
theorem dk_cons {p : TPE} {nm : Option Str} {kpos : Pos} (h : DE X e p) (hr : DK X kws tk) : DK X (⟨nm, e, kpos⟩ :: kws) (pCons p tk) := fun g hK => (pk_cons (h g hK) (hr g hK)).imp fun σ H Q ⟨n, F, ρ, R, ok, hq, k⟩ =>
  ⟨n, F, ρ, _, ok, hq, fun n1 F1 H1 x d s1 ok1 r1 h1 => ⟨n1, F1, ρ, _, ok1, h1, fun n2 F2 H2 vs ds s2 ok2 r2 h2 => k n2 F2 H2 _ _ (s1.trans s2) ok2 (.cons (r1.mono s2) r2) h2⟩⟩
theorem Reps.picks {c : Cfg} {F : Hp} {vs : List V} {ds : List D} (r : Reps c F vs ds) : ∀ ix : List Nat, Reps c F (PL.picks ix vs) (PL.picks ix ds)
  | [] => .nil
  | i :: ix => by
    unfold PL.picks
    rw [List.filterMap_cons, List.filterMap_cons]
    cases h : ds[i]? with
    | none =>
      have : vs[i]? = none := by
        rw [List.getElem?_eq_none_iff] at h ⊢
        rw [r.length]; exact h
      rw [this]
      exact Reps.picks r ix
    | some d =>
      obtain ⟨v, hv, rv⟩ := r.get h
      rw [hv]
      exact .cons rv (Reps.picks r ix)
def pFnK (S : Spec) (m : Nat) (ix : List Nat) (t : TPA) : TPE := fun ρ n R => t ρ n fun ds n1 => ds.length = m ∧ callZ S (PL.picks ix ds) n1 R (shut R)
theorem de_fnK {ks : List Str} {ix : List Nat} (Fn : FnG X.prog X.w X.K X.mg X.base k f fd ps (spP X.K S)) (hgd : X.A.guards = some []) (hr : Room k X.A) (hg : Gl X x) (hm : X.mg x = some (.ref f)) (hk : PySem.W.keepIn X.K (.ref f) = true) (hb : NBinds X.K fd ps ks ix)
    (ha : DK X kws tk) (hall : (backToKw pos (keywordEach kws X.env)).all (·.1.isSome) = true := by rfl) (hks : (backToKw pos (keywordEach kws X.env)).filterMap (·.1) = ks := by rfl)
    (hdb : (x == ("__debug__" : Str)) = false := by decide) (hpl : ((backTo pos (starEach [] X.env)).any (·.1) || (backToKw pos (keywordEach kws X.env)).any (·.1.isNone)) = false := by rfl) :
    DE X (.Call (.Name x pf) [] kws pos) (pFnK S ks.length ix tk) := fun g hK => (pe_callGK0 (E := fun _ _ _ => False) Fn hgd hr hg hm hk hb (ha g hK) hall hks hdb hpl).imp fun σ H Q ⟨n, F, ρ, R, ok, hq, k⟩ =>
  ⟨n, F, ρ, _, ok, hq, fun n1 F1 H1 vs ds s1 ok1 r1 h1 => by
    refine ⟨by rw [r1.length]; exact h1.1, ?_⟩
    rw [← hK]
    exact LA.fn (t := tk) ok1 (r1.picks ix) h1.2 fun n' F' H' v d s2 ok2 r2 h2 => k n' F' H' v d (s1.trans s2) ok2 r2 h2⟩
end
end PL

/-! PL: the head of a law. -/
namespace PL
open PySem PySem.Spec L2
open PyProof.Rows (AllBare IntsAre)
theorem hid_ns {h : Heap} {H : Hp} {b : Addr} {m : Str → Option Value} (hd : ∀ c o es ep, h.get? c = some o → o.data = .dict es ep → H c = none) (n : h.Ns b m) : (hidT h H).Ns b m := by
  obtain ⟨o, es, ep, e, d, r⟩ := n
  exact ⟨o, es, ep, hidT_get e (hd b o es ep e d), d, r⟩
/-- the call of the law, from its promise; H tracks the script at most -/
theorem head_core {P : Program} {w : World} {K : PySem.W.Frag} {mg mb : Str → Option Value} {k : Nat} {fa a : Addr} {fd : FuncData} {x : Str} {sp : Sp} {s₁ : Shared} {its : Array Value} {H : Hp}
    (KX : K.In s₁.heap) (hns : s₁.heap.Ns mainGlobals mg) (hb : s₁.heap.Ns builtinsNs mb) (hbb : ∀ y : Str, y ≠ "__name__" → mb y = bootBuiltins y) (hlim : s₁.heap.NoLimit) (hg : s₁.gens = #[])
    (ha : s₁.heap.get? a = some { cls := .type "list", data := .seq its }) (hr : Room k callerA) (F : ∀ base : Heap, K.In base → base.Ns mainGlobals mg → FnG P w K mg base k fa fd [x] sp) (hbind : ∀ (s : Shared) (u : Value), BindsTo s fd ⟨[u], []⟩ [(x, u)])
    (hO : Only H) (hok : HOk P w H s₁.heap) (hA : ∀ b, H b ≠ none → b = a) (hK : H a ≠ none → K.lookup a = none) (hsp : sp [.ref a] H (fun v _ => v = .bl true) fun _ _ _ => False) :
    codeAny (model P w) callerA (.call (.ref fa) ⟨[.ref a], []⟩) (fun r s' => r = .ok (.ret (.bool true)) ∧ OldK s₁.heap s'.heap ∧ s'.os = s₁.os ∧ AllBare s'.gens) s₁ := by
  have seen : ∀ {b : Addr} {u : HO}, H b = some u → b = a := fun {b u} q => hA b (by rw [q]; exact fun z => nomatch z)
  have noD : ∀ c o es ep, s₁.heap.get? c = some o → o.data = .dict es ep → H c = none := by
    intro c o es ep e d
    cases q : H c with
    | none => rfl
    | some u =>
      rw [seen q, ha] at e
      cases e
      cases d
  have inB : K.In (hidT s₁.heap H) := by
    intro b o e
    refine hidT_get (KX b o e) ?_
    cases q : H b with
    | none => rfl
    | some u =>
      have z := seen q
      rw [z] at q e
      rw [hK (by rw [q]; exact fun z => nomatch z)] at e
      cases e
  obtain ⟨mc, l1, l2⟩ := hlim
  have M : Mod K mg (hidT s₁.heap H) := ⟨inB, hid_ns noD hns, ⟨mb, hid_ns noD hb, hbb⟩, ⟨mc, hid_ns noD l1, l2⟩⟩
  have e0 : Env0 P w K mg (hidT s₁.heap H) callerA [] s₁ H := ⟨rfl, M, fun b o e => of_hidT e, Nat.le_of_eq (hidT_size _ _), trivial, fun b z => (List.not_mem_nil z).elim, hok, .of_eq hg⟩
  have run := (F _ inB (hid_ns noD hns)).run callerA [] s₁ H ⟨[.ref a], []⟩ [.ref a] [.ref a] _ _ rfl hr e0 (hbind s₁ (.ref a)) (.cons rfl .nil) hsp
  refine codeAny_mono run ?_
  intro r s' h
  match r, h with
  | .error e, h => exact False.elim h
  | .ok .next, h => exact False.elim h
  | .ok .brk, h => exact False.elim h
  | .ok .cont, h => exact False.elim h
  | .ok (.ret u), ⟨v, H', os, bare, un, hok', r', q⟩ =>
    have q : v = .bl true := q
    subst q
    have r' : u = Value.bool true := r'
    subst r'
    refine ⟨rfl, OldK.of_keep ?_, os, bare⟩
    intro b o e
    rcases hO b with z | ⟨ob, xs, z⟩
    · exact un.keep b o e z (fun y => (List.not_mem_nil y).elim) (fun y => (List.not_mem_nil y).elim)
    · obtain ⟨e1, _⟩ := hok b _ z
      obtain ⟨e2, _⟩ := hok' b _ (un.frzs b ob _ z)
      rw [e] at e1
      cases e1
      exact e2
theorem head_call {P : Program} {w : World} {K : PySem.W.Frag} {mg mb : Str → Option Value} {k : Nat} {fa a : Addr} {fd : FuncData} {x : Str} {sp : Sp} {s₁ : Shared} {vs : List Value} {ns : List Int}
    (KX : K.In s₁.heap) (hns : s₁.heap.Ns mainGlobals mg) (hb : s₁.heap.Ns builtinsNs mb) (hbb : ∀ y : Str, y ≠ "__name__" → mb y = bootBuiltins y) (hlim : s₁.heap.NoLimit) (hg : s₁.gens = #[])
    (ha : s₁.heap.get? a = some { cls := .type "list", data := .seq vs.toArray }) (hi : IntsAre vs ns) (hl : ns.length ≤ sizeLine) (hr : Room k callerA)
    (F : ∀ base : Heap, K.In base → base.Ns mainGlobals mg → FnG P w K mg base k fa fd [x] sp) (hbind : ∀ (s : Shared) (u : Value), BindsTo s fd ⟨[u], []⟩ [(x, u)])
    (hsp : ∀ H : Hp, Only H → SqL K H a (ns.map V.int) → sp [.ref a] H (fun v _ => v = .bl true) fun _ _ _ => False) :
    codeAny (model P w) callerA (.call (.ref fa) ⟨[.ref a], []⟩) (fun r s' => r = .ok (.ret (.bool true)) ∧ OldK s₁.heap s'.heap ∧ s'.os = s₁.os ∧ AllBare s'.gens) s₁ := by
  have rv := vals_ints hi
  cases hk : K.lookup a with
  | some o =>
    have e := KX a o hk
    rw [ha] at e
    cases e
    have O0 : Only (fun _ => none) := fun _ => .inl rfl
    refine head_core KX hns hb hbb hlim hg ha hr F hbind O0 (fun b u z => nomatch z) (fun b z => absurd rfl z) (fun z => absurd rfl z) (hsp _ O0 ?_)
    exact .inr ⟨_, vs.toArray, _, hk, rfl, rfl, rfl, by rw [List.size_toArray, hi.length]; exact hl, by simpa using rv⟩
  | none =>
    have at_ : ∀ b, (fun b => if b = a then some (HO.frz { cls := .type "list", data := .seq vs.toArray } (.lst (ns.map V.int))) else none) b ≠ none → b = a := by
      intro b z
      by_cases e : b = a
      · exact e
      · exact absurd (if_neg e) z
    have O1 : Only (fun b => if b = a then some (HO.frz { cls := .type "list", data := .seq vs.toArray } (.lst (ns.map V.int))) else none) := by
      intro b
      by_cases e : b = a
      · exact .inr ⟨_, _, if_pos e⟩
      · exact .inl (if_neg e)
    refine head_core KX hns hb hbb hlim hg ha hr F hbind O1 ?_ at_ (fun _ => hk) (hsp _ O1 (.inl (.inr ⟨_, if_pos rfl⟩)))
    intro b u z
    have e : b = a := at_ b (by rw [z]; exact fun z => nomatch z)
    subst e
    have z := (if_pos rfl).symm.trans z
    cases z
    exact ⟨ha, by rw [List.length_map]; exact hl, vs, _, rv, ha⟩
theorem walk_g {l : PySem.W.OpenLaw} {n k : Nat} {q : Program} {loose : List Str} {XP : (Str → Option Value) → Heap → Prop} {YP : World → Heap → Prop} {d : DefRec} {K : Params → PySem.W.Frag} {sp : World → Sp} {x : Str}
    (hn : l.most = some n) (hn2 : n ≤ sizeLine) (hdf : d.params.defaults = []) (hr : Room k callerA) (hY : ∀ (w : World) (h : Heap), YP w h → (K w.params).In h)
    (F : ∀ (w : World) (mg : Str → Option Value) (fa : Addr) (h : Heap), (K w.params).In h → h.Ns mainGlobals mg → mg d.name = some (.ref fa) →
      ∃ fd : FuncData, (∀ (s : Shared) (u : Value), BindsTo s fd ⟨[u], []⟩ [(x, u)]) ∧ ∀ base : Heap, (K w.params).In base → base.Ns mainGlobals mg → FnG l.prog w (K w.params) mg base k fa fd [x] (sp w))
    (hsp : ∀ (w : World) (H : Hp) (a : Addr) (ns : List Int), ns.length ≤ n → Only H → SqL (K w.params) H a (ns.map V.int) → sp w [.ref a] H (fun v _ => v = .bl true) fun _ _ _ => False) :
    PySem.W.WalkO q loose XP YP l.row.toRowW d [] (fun f vs => PySem.call f vs) := by
  refine Att.attach_call hn hdf ?_
  intro w s₀ s₁ mg mb fa o pm cd doc a vs ns G Y ho hd hcd hmg hobj hints hlen hg
  obtain ⟨fd, hb, hF⟩ := F w mg fa _ (hY w _ Y) G.T.g hmg
  exact head_call (hY w _ Y) G.T.g G.T.b G.T.builtins G.T.nolimit hg hobj hints (Nat.le_trans hlen hn2) hr hF hb fun H hO hS => hsp w H a ns hlen hO hS
end PL

/-! PL: iterables, own lists, parallel assignments, ==, in, repr, more built-ins. -/
namespace PL
open PySem PySem.Spec L2
section
variable {X : Cx} {e a b e2 tg : Expr} {p pa pb : TPE} {pos : Pos} {ta tk : TPA}

/-! ### iterables -/
def chars (s : Str) : List D := s.cps.toList.map fun c => .str ⟨#[c]⟩
def pIter (p : TPE) : TPA := fun ρ n S => p ρ n fun d m => match d with
  | .lst ds => S ds m
  | .tup ds => S ds m
  | .str s => S (chars s) m
  | _ => False
theorem di_iter (h : DE X e p) : DI X tg e (pIter p) := fun g hK => by
  constructor
  intro pins s σ H R I hq
  obtain ⟨n, F, ρ, S, ok, hp, k⟩ := hq
  refine thn ((h g hK).run pins s σ H (fun v H1 => ∃ n' F' d, Same F F' ∧ Ok g n' F' H1 σ ρ ∧ Rep g.c F' v d ∧ (match d with | .lst ds => S ds n' | .tup ds => S ds n' | .str s => S (chars s) n' | _ => False)) I ⟨n, F, ρ, _, ok, hp, fun n' F' H' v d s' ok' r' hR => ⟨n', F', d, s', ok', r', hR⟩⟩) ?_
  rintro u s1 ⟨v, H1, I1, rv, n', F', d, s', ok', r', hS⟩
  revert hS r'
  cases d <;> intro r' hS <;> first | exact False.elim hS | skip
  · rename_i z
    cases r'
    obtain ⟨t, rfl⟩ := rv
    refine wpAny_pyIter_strU (pi_one (tk := s1.toks) I1 _ (turn_str _ z t (strIterType z) (by unfold strIterType; split; exact .inl rfl; exact .inr rfl)) ⟨_, Heap.get?_push_size _ rfl, rfl, rfl⟩ (k n' F' H1 (chars z) _ s' ok' hS ?_))
    intro g' m F2 H2 σ2 ρ2 hc s2 ok2
    have hl : (chars z).length = z.cps.size := by unfold chars; rw [List.length_map, Array.length_toList]
    refine ⟨by rw [hl]; exact Nat.le_refl _, fun i d hd => ⟨show i < z.cps.size by rw [← hl]; exact lt_of_get hd, fun x H3 y => ?_⟩⟩
    obtain ⟨rfl, c, hc, rfl⟩ := y
    unfold chars at hd
    rw [List.getElem?_map, Array.getElem?_toList, hc] at hd
    cases hd
    exact ⟨F2, Same.refl _, ok2, .str _⟩
  · rename_i ds
    cases r' with
    | @lst l xs _ hF rs =>
      cases rv
      obtain ⟨its, r2, p2, _⟩ := I1.list (SqL.of (ok'.sub _ _ hF))
      refine wpAny_pyIter_list p2.isList (pi_one (tk := s1.toks) I1 _ (turn_list l _) ⟨_, Heap.get?_push_size _ rfl, rfl, rfl⟩ (k n' F' H1 ds _ s' ok' hS ?_))
      intro g' m F2 H2 σ2 ρ2 hc s2 ok2
      have e2 : SqL X.K H2 l xs := SqL.of (ok2.sub _ _ (s2 _ _ hF))
      refine ⟨⟨xs, e2, Nat.le_of_eq rs.length⟩, fun i d hd => ?_⟩
      obtain ⟨x, hx, rx⟩ := rs.get hd
      refine ⟨⟨xs, x, e2, hx⟩, fun y H3 hy => ?_⟩
      obtain ⟨rfl, q⟩ := hy
      have q := q xs e2
      rw [hx] at q
      cases q
      exact ⟨F2, Same.refl _, ok2, rx.mono s2⟩
  · rename_i ds
    cases r' with
    | @tup l xs _ hF rs =>
      cases rv
      rw [hK] at hF
      obtain ⟨its, r2, p2, _⟩ := I1.tuple (Same.seqT ok'.sub hF)
      refine wpAny_pyIter_tuple (show s1.heap.IsTuple l its.toArray from p2) (pi_one (tk := s1.toks) I1 _ (turn_tuple l _) ⟨_, Heap.get?_push_size _ rfl, rfl, rfl⟩ (k n' F' H1 ds _ s' ok' hS ?_))
      intro g' m F2 H2 σ2 ρ2 hc s2 ok2
      have e2 : SqT X.K H2 l xs := Same.seqT ok2.sub (Same.seqT s2 hF)
      refine ⟨⟨xs, e2, Nat.le_of_eq rs.length⟩, fun i d hd => ?_⟩
      obtain ⟨x, hx, rx⟩ := rs.get hd
      refine ⟨⟨xs, x, e2, hx⟩, fun y H3 hy => ?_⟩
      obtain ⟨rfl, q⟩ := hy
      have q := q xs e2
      rw [hx] at q
      cases q
      exact ⟨F2, Same.refl _, ok2, rx.mono s2⟩
/-- range -/
def intsD (lo : Int) (n : Nat) : List D := (List.range n).map fun (i : Nat) => .int (lo + (i : Int))
theorem walk_ints {g : G} {F : Hp} (lo : Int) (n : Nat) : ∀ g' m F2 H2 σ2 ρ2, g'.c = g.c → Same F F2 → Ok g' m F2 H2 σ2 ρ2 → (Itr lo n).stop (intsD lo n).length H2 ∧
    ∀ i d, (intsD lo n)[i]? = some d → (Itr lo n).go i H2 ∧ ∀ x H3, (Itr lo n).yld i H2 x H3 → ∃ F3, Same F2 F3 ∧ Ok g' m F3 H3 σ2 ρ2 ∧ Rep g.c F3 x d := by
  intro g' m F2 H2 σ2 ρ2 hc s2 ok2
  have hl : (intsD lo n).length = n := by unfold intsD; rw [List.length_map, List.length_range]
  refine ⟨by rw [hl]; exact Nat.le_refl _, fun i d hd => ?_⟩
  have hi : i < n := by rw [← hl]; exact lt_of_get hd
  refine ⟨hi, fun x H3 y => ?_⟩
  obtain ⟨rfl, rfl⟩ := y
  unfold intsD at hd
  rw [List.getElem?_map, List.getElem?_range hi] at hd
  cases hd
  exact ⟨F2, Same.refl _, ok2, .int _⟩
def pRange1 (t : TPA) : TPA := fun ρ n S => t ρ n fun ds m => match ds with
  | [.int j] => -(2 ^ 62) ≤ j ∧ j < 2 ^ 62 ∧ S (intsD 0 j.toNat) m
  | _ => False
def pRange2 (t : TPA) : TPA := fun ρ n S => t ρ n fun ds m => match ds with
  | [.int i, .int j] => (-(2 ^ 62) ≤ i ∧ i < 2 ^ 62 ∧ -(2 ^ 62) ≤ j ∧ j < 2 ^ 62) ∧ S (intsD i (j - i).toNat) m
  | _ => False
theorem di_range1 {pf : Pos} (hm : X.mg "range" = none) (hg : Gl X "range") (ha : DA X [a] ta) (hs : starEach [a] X.env = [(false, eval a X.env)] := by rfl) : DI X tg (.Call (.Name "range" pf) [a] [] pos) (pRange1 ta) := fun g hK => (pi_range1 hg hm (ha g hK) hs).imp fun σ H R ⟨n, F, ρ, S, ok, h, k⟩ =>
  ⟨n, F, ρ, _, ok, h, fun n1 F1 H1 vs ds s1 ok1 r1 h1 => by
    match ds, r1, h1 with
    | [.int j], .cons (.int _) .nil, h1 => exact ⟨j, rfl, h1.1, h1.2.1, k n1 F1 H1 _ _ s1 ok1 h1.2.2 (walk_ints 0 j.toNat)⟩⟩
theorem di_range2 {pf : Pos} (hm : X.mg "range" = none) (hg : Gl X "range") (ha : DA X [a, b] ta) (hs : starEach [a, b] X.env = [(false, eval a X.env), (false, eval b X.env)] := by rfl) (hs2 : starEach [b] X.env = [(false, eval b X.env)] := by rfl) : DI X tg (.Call (.Name "range" pf) [a, b] [] pos) (pRange2 ta) := fun g hK => (pi_range2 hg hm (ha g hK) hs hs2).imp fun σ H R ⟨n, F, ρ, S, ok, h, k⟩ =>
  ⟨n, F, ρ, _, ok, h, fun n1 F1 H1 vs ds s1 ok1 r1 h1 => by
    match ds, r1, h1 with
    | [.int i, .int j], .cons (.int _) (.cons (.int _) .nil), h1 => exact ⟨i, j, rfl, h1.1, k n1 F1 H1 _ _ s1 ok1 h1.2 (walk_ints i _)⟩⟩
/-- enumerate -/
def nums (k0 : Int) : List D → List D
  | [] => []
  | d :: ds => .tup [.int k0, d] :: nums (k0 + 1) ds
theorem nums_len (k0 : Int) : ∀ ds, (nums k0 ds).length = ds.length := fun ds => by
  induction ds generalizing k0 with
  | nil => rfl
  | cons d ds ih => show (nums (k0 + 1) ds).length + 1 = _; rw [ih]; rfl
theorem nums_get (k0 : Int) (ds : List D) (i : Nat) {d : D} (h : (nums k0 ds)[i]? = some d) : ∃ x, ds[i]? = some x ∧ d = .tup [.int (k0 + (i : Int)), x] := by
  induction ds generalizing k0 i with
  | nil => exact absurd h (by simp [nums])
  | cons y ds ih =>
    cases i with
    | zero =>
      have h : some (D.tup [.int k0, y]) = some d := h
      cases h
      exact ⟨y, rfl, by simp⟩
    | succ i =>
      obtain ⟨x, h1, h2⟩ := ih (k0 + 1) i h
      refine ⟨x, h1, ?_⟩
      rw [h2]
      congr 2
      show D.int (k0 + 1 + (i : Int)) = D.int (k0 + ((i + 1 : Nat) : Int))
      congr 1
      omega
def itemsOf : D → Option (List D)
  | .lst ds => some ds
  | .tup ds => some ds
  | .str s => some (chars s)
  | _ => none
theorem walk_enum {g : G} {n : Nat} {F H : Hp} {σ : L2.St} {ρ : PEnv} {k0 : Int} {v : V} {d : D} {ds : List D} {R : It → Hp → Prop} (ok : Ok g n F H σ ρ) (r : Rep g.c F v d) (hd : itemsOf d = some ds)
    (k : ∀ J : It, (∀ g' m F2 H2 σ2 ρ2, g'.c = g.c → Same F F2 → Ok g' m F2 H2 σ2 ρ2 → J.stop (nums k0 ds).length H2 ∧
      ∀ i d, (nums k0 ds)[i]? = some d → J.go i H2 ∧ ∀ x H3, J.yld i H2 x H3 → ∃ F3, Same F2 F3 ∧ Ok g' m F3 H3 σ2 ρ2 ∧ Rep g.c F3 x d) → R J H) : iEnumV g.c.K k0 v H R := by
  have core : ∀ (n : Nat) (Src : Hp → Prop) (Y : Nat → V → Prop), ds.length = n → (∀ F2 H2, Same F F2 → Same F2 H2 → Src H2) → (∀ i x y, ds[i]? = some x → Y i y → Rep g.c F y x) → R (ItE k0 n Src Y) H := by
    intro n Src Y hn hs hy
    refine k _ ?_
    intro g' m F2 H2 σ2 ρ2 hc s2 ok2
    have src := hs F2 H2 s2 ok2.sub
    refine ⟨⟨by rw [nums_len]; exact hn, src⟩, fun i d hd => ?_⟩
    obtain ⟨x, hx, rfl⟩ := nums_get k0 ds i hd
    refine ⟨⟨by rw [← hn]; exact lt_of_get hx, src⟩, fun v H3 y => ?_⟩
    obtain ⟨T, w, rfl, hT, rfl, hw⟩ := y
    exact ⟨upd F2 T _, ok2.sameF _ hT, ok2.alloc _ hT, .tup (SqT.of upd_same) (.cons (.int _) (.cons (((hy i x w hx hw).mono s2).mono (ok2.sameF _ hT)) .nil))⟩
  cases r with
  | lst hF rs =>
    cases hd
    refine .inl ⟨_, _, rfl, SqL.of (ok.sub _ _ hF), core _ _ _ rs.length.symm (fun F2 H2 s2 sb => SqL.of (sb _ _ (s2 _ _ hF))) fun i x y hx hy => ?_⟩
    obtain ⟨z, hz, rz⟩ := rs.get hx
    rw [hz] at hy
    cases hy
    exact rz
  | tup hF rs =>
    cases hd
    refine .inr (.inl ⟨_, _, rfl, Same.seqT ok.sub hF, core _ _ _ rs.length.symm (fun F2 H2 s2 sb => Same.seqT sb (Same.seqT s2 hF)) fun i x y hx hy => ?_⟩)
    obtain ⟨z, hz, rz⟩ := rs.get hx
    rw [hz] at hy
    cases hy
    exact rz
  | str z =>
    cases hd
    refine .inr (.inr ⟨z, rfl, core _ _ _ (by unfold chars; rw [List.length_map, Array.length_toList]) (fun _ _ _ _ => trivial) fun i x y hx hy => ?_⟩)
    obtain ⟨c, hc, rfl⟩ := hy
    unfold chars at hx
    rw [List.getElem?_map, Array.getElem?_toList, hc] at hx
    cases hx
    exact .str _
  | _ => cases hd
def pEnum (t : TPA) : TPA := fun ρ n S => t ρ n fun ds m => match ds with
  | [d] => match itemsOf d with | some xs => S (nums 0 xs) m | none => False
  | _ => False
theorem di_enum {pf tpos : Pos} {elts : List Expr} {kk : Nat} (hm : X.mg "enumerate" = none) (hg : Gl X "enumerate") (ha : DA X [e] ta) (hc : X.calm = true := by rfl) (hs : starEach [e] X.env = [(false, eval e X.env)] := by rfl) : DI X (.Tuple elts kk tpos) (.Call (.Name "enumerate" pf) [e] [] pos) (pEnum ta) := fun g hK => (pi_enumG hg hm (ha g hK) hc hs).imp fun σ H R ⟨n, F, ρ, S, ok, h, k⟩ =>
  ⟨n, F, ρ, _, ok, h, fun n1 F1 H1 vs ds s1 ok1 r1 h1 => by
    match ds, r1, h1 with
    | [d], .cons r .nil, h1 =>
      refine ⟨_, rfl, ?_⟩
      rw [← hK]
      have h1 : (match itemsOf d with | some xs => S (nums 0 xs) n1 | none => False) := h1
      cases hd : itemsOf d with
      | none => rw [hd] at h1; exact h1.elim
      | some xs =>
        rw [hd] at h1
        exact walk_enum ok1 r hd fun J hJ => k n1 F1 H1 _ J s1 ok1 h1 hJ⟩
def pEnumK (t u : TPA) : TPA := fun ρ n S => t ρ n fun ds m => u ρ m fun ks m2 => match ds, ks with
  | [d], [.int k0] => -(2 ^ 63) ≤ k0 ∧ k0 < 2 ^ 63 ∧ match itemsOf d with | some xs => S (nums k0 xs) m2 | none => False
  | _, _ => False
theorem di_enumK {pf tpos : Pos} {elts : List Expr} {kk : Nat} {kws : List Keyword} (hm : X.mg "enumerate" = none) (hg : Gl X "enumerate") (ha : DA X [e] ta) (hk : DK X kws tk) (hc : X.calm = true := by rfl) (hs : starEach [e] X.env = (false, eval e X.env) :: starEach [] X.env := by rfl)
    (hall : (backToKw pos (keywordEach kws X.env)).all (·.1.isSome) = true := by rfl) (hks : (backToKw pos (keywordEach kws X.env)).filterMap (·.1) = [Str.ofString "start"] := by rfl)
    (hpl : ((backTo pos (starEach [e] X.env)).any (·.1) || (backToKw pos (keywordEach kws X.env)).any (·.1.isNone)) = false := by rfl) : DI X (.Tuple elts kk tpos) (.Call (.Name "enumerate" pf) [e] kws pos) (pEnumK ta tk) := fun g hK => (pi_enumK hg hm (ha g hK) (hk g hK) hc hs hall hks hpl).imp fun σ H R ⟨n, F, ρ, S, ok, h, k⟩ =>
  ⟨n, F, ρ, _, ok, h, fun n1 F1 H1 vs ds s1 ok1 r1 h1 => ⟨n1, F1, ρ, _, ok1, h1, fun n2 F2 H2 zs ks s2 ok2 r2 h2 => by
    match ds, r1, ks, r2, h2 with
    | [d], .cons r .nil, [.int k0], .cons (.int _) .nil, h2 =>
      refine ⟨_, k0, rfl, rfl, h2.1, h2.2.1, ?_⟩
      rw [← hK]
      have h1 : (match itemsOf d with | some xs => S (nums k0 xs) n2 | none => False) := h2.2.2
      cases hd : itemsOf d with
      | none => rw [hd] at h1; exact h1.elim
      | some xs =>
        rw [hd] at h1
        exact walk_enum ok2 (r.mono s2) hd fun J hJ => k n2 F2 H2 _ J (s1.trans s2) ok2 h1 hJ⟩⟩
/-- zip of two lists, of two tuples -/
def pairs : List D → List D → List D
  | d :: ds, e :: es => .tup [d, e] :: pairs ds es
  | _, _ => []
theorem pairs_get : ∀ (ds es : List D) (i : Nat) {d : D}, (pairs ds es)[i]? = some d → ∃ x y, ds[i]? = some x ∧ es[i]? = some y ∧ d = .tup [x, y]
  | [], _, i, d, h => by simp [pairs] at h
  | _ :: _, [], i, d, h => by simp [pairs] at h
  | x :: ds, y :: es, 0, d, h => by
    have h : some (D.tup [x, y]) = some d := h
    cases h
    exact ⟨x, y, rfl, rfl, rfl⟩
  | _ :: ds, _ :: es, i + 1, d, h => pairs_get ds es i h
theorem pairs_len : ∀ (ds es : List D), (pairs ds es).length = min ds.length es.length
  | [], _ => by simp [pairs]
  | _ :: _, [] => by simp [pairs]
  | x :: ds, y :: es => by
    show (pairs ds es).length + 1 = _
    rw [pairs_len ds es, List.length_cons, List.length_cons]
    omega
def pZip (t : TPA) : TPA := fun ρ n S => t ρ n fun ds m => match ds with
  | [.lst xs, .lst ys] => S (pairs xs ys) m
  | [.tup xs, .tup ys] => S (pairs xs ys) m
  | _ => False
theorem di_zip {pf tpos : Pos} {elts : List Expr} {kk : Nat} (hm : X.mg "zip" = none) (hg : Gl X "zip") (ha : DA X [e, e2] ta) (hs : starEach [e, e2] X.env = (false, eval e X.env) :: starEach [e2] X.env := by rfl) (hpl : (backTo pos (starEach [e2] X.env)).any (·.1) = false := by rfl) :
    DI X (.Tuple elts kk tpos) (.Call (.Name "zip" pf) [e, e2] [] pos) (pZip ta) := fun g hK => (RZ.pi_zipA hg hm (ha g hK) hs hpl).imp fun σ H R ⟨n, F, ρ, S, ok, h, k⟩ =>
  ⟨n, F, ρ, _, ok, h, fun n1 F1 H1 vs ds s1 ok1 r1 h1 => by
    match ds, r1, h1 with
    | [.lst xs, .lst ys], .cons (.lst (a := p) (xs := us) e1 t1) (.cons (.lst (a := q) (xs := ws) e2 t2) .nil), h1 =>
      refine ⟨p, q, us, ws, rfl, .inl ⟨SqL.of (ok1.sub _ _ e1), SqL.of (ok1.sub _ _ e2), k n1 F1 H1 _ _ s1 ok1 h1 ?_⟩⟩
      intro g' m F2 H2 σ2 ρ2 hc s2 ok2
      have q1 : SqL X.K H2 p us := SqL.of (ok2.sub _ _ (s2 _ _ e1))
      have q2 : SqL X.K H2 q ws := SqL.of (ok2.sub _ _ (s2 _ _ e2))
      refine ⟨⟨us, ws, q1, q2, ?_⟩, fun i d hd => ?_⟩
      · rw [pairs_len, t1.length, t2.length]; omega
      · obtain ⟨x, y, hx, hy, rfl⟩ := pairs_get _ _ i hd
        obtain ⟨u, hu, ru⟩ := t1.get hx
        obtain ⟨w, hw, rw⟩ := t2.get hy
        refine ⟨⟨us, ws, u, w, q1, q2, hu, hw⟩, fun v H3 hv => ?_⟩
        obtain ⟨T, u', w', rfl, hT, rfl, f1, f2⟩ := hv
        have z1 := f1 us q1
        have z2 := f2 ws q2
        rw [hu] at z1
        rw [hw] at z2
        cases z1
        cases z2
        exact ⟨upd F2 T _, ok2.sameF _ hT, ok2.alloc _ hT, .tup (SqT.of upd_same) (.cons ((ru.mono s2).mono (ok2.sameF _ hT)) (.cons ((rw.mono s2).mono (ok2.sameF _ hT)) .nil))⟩
    | [.tup xs, .tup ys], .cons (.tup (a := p) (xs := us) e1 t1) (.cons (.tup (a := q) (xs := ws) e2 t2) .nil), h1 =>
      rw [hK] at e1 e2
      refine ⟨p, q, us, ws, rfl, .inr ⟨Same.seqT ok1.sub e1, Same.seqT ok1.sub e2, k n1 F1 H1 _ _ s1 ok1 h1 ?_⟩⟩
      intro g' m F2 H2 σ2 ρ2 hc s2 ok2
      have q1 : SqT X.K H2 p us := Same.seqT ok2.sub (Same.seqT s2 e1)
      have q2 : SqT X.K H2 q ws := Same.seqT ok2.sub (Same.seqT s2 e2)
      refine ⟨⟨us, ws, q1, q2, ?_⟩, fun i d hd => ?_⟩
      · rw [pairs_len, t1.length, t2.length]; omega
      · obtain ⟨x, y, hx, hy, rfl⟩ := pairs_get _ _ i hd
        obtain ⟨u, hu, ru⟩ := t1.get hx
        obtain ⟨w, hw, rw⟩ := t2.get hy
        refine ⟨⟨us, ws, u, w, q1, q2, hu, hw⟩, fun v H3 hv => ?_⟩
        obtain ⟨T, u', w', rfl, hT, rfl, f1, f2⟩ := hv
        have z1 := f1 us q1
        have z2 := f2 ws q2
        rw [hu] at z1
        rw [hw] at z2
        cases z1
        cases z2
        exact ⟨upd F2 T _, ok2.sameF _ hT, ok2.alloc _ hT, .tup (SqT.of upd_same) (.cons ((ru.mono s2).mono (ok2.sameF _ hT)) (.cons ((rw.mono s2).mono (ok2.sameF _ hT)) .nil))⟩⟩
end
end PL

/-! PL: own lists, parallel assignments, ==, repr, more built-ins. -/
namespace PL
open PySem PySem.Spec L2
section
variable {X : Cx} {e a b e2 tg o : Expr} {es : List Expr} {p pa pb : TPE} {pos pf apos cpos : Pos} {ta tk : TPA}

/-! ### own lists -/
theorem Ok.ownAt {g : G} {n : Nat} {F H : Hp} {σ : L2.St} {ρ : PEnv} {i : Nat} {ds : List D} (ok : Ok g n F H σ ρ) (h : ρ[i]? = some (.own (.lst ds))) : ∃ l xs, σ[i]? = some (some (.ref l)) ∧ H l = some (.lst xs) ∧ Reps g.c F xs ds := by
  obtain ⟨l, x, e1, e2, _, _, _, c⟩ := ok.cells i _ h
  cases c with
  | lst r => exact ⟨l, _, e1, e2, r⟩
theorem ds_append {i : Nat} (ho : PE X o (tVar i)) (he : DE X e p) (hs : swapsWith (.Call (.Attribute o "append" apos) [e] [] cpos) none pos.line X.env = pure false := by rfl)
    (hbase : attributeBase o "append" X.env (eval o X.env) = eval o X.env := by rfl) (hline : (apos.endLine == cpos.line) = true := by rfl) (hst : starEach [e] X.env = (false, eval e X.env) :: starEach [] X.env := by rfl)
    (hfew : ((backTo cpos (starEach [e] X.env)).all (fun x => !x.1) && (backToKw cpos (keywordEach [] X.env)).all (fun x => x.1.isSome) && decide (([e].length + ([] : List Keyword).length + if ([] : List Keyword).isEmpty = true then 0 else 1) < 30)) = true := by rfl) :
    DS X (.Expr (.Call (.Attribute o "append" apos) [e] [] cpos) pos) (pAppend i p) := fun g hK =>
  (ps_expr (pe_bm PySem.F.plainAttrs_list PySem.F.slot_list_append PySem.F.type_list_append mt_append ho (pa_cons (he g hK) pa_nil hst) hbase (hfew := hfew) (hline := hline) (hs := hst) (hplain := rfl)) hs).imp fun D σ H ⟨n, F, ρ, P, ok, h, k⟩ => by
  have h : pAppend i p P ρ n := h
  unfold pAppend at h
  split at h
  · rename_i ds hi
    obtain ⟨l, xs, e1, e2, _⟩ := ok.ownAt hi
    refine ⟨_, e1, .inl ⟨rfl, xs, SqL.of e2⟩, n, F, ρ, _, ok, h, fun n1 F1 H1 v d s1 ok1 r1 h1 => ?_⟩
    obtain ⟨l', ys, e3, e4, r4⟩ := ok1.ownAt hi
    rw [e1] at e3
    cases e3
    refine ⟨l, ys, v, rfl, rfl, e4, by rw [r4.length]; exact h1.1, ?_⟩
    exact k.nx n1 F1 _ σ _ s1 (ok1.write hi e1 (.lst (r4.append (.cons r1 .nil)))) h1.2
  · exact h.elim
/-- x.pop() of an own list, given to a name -/
def pPopS (i : Nat) (t : TPG) : TPS := fun P ρ n => match ρ[i]? with
  | some (.own (.lst ds)) => match ds[ds.length - 1]? with | some d => t d (ρ.set i (.own (.lst ds.dropLast))) n P.nx | none => False
  | _ => False
theorem ds_pop {i : Nat} {t : TPG} {is : List Nat} (ho : PE X o (tVar i)) (hg : DG X tg t is) (hs : swapsWithSole [tg] (.Call (.Attribute o "pop" apos) [] [] cpos) pos.line X.env = pure false := by rfl) (hw : swappedStores [tg] (.Call (.Attribute o "pop" apos) [] [] cpos) X.env = pure none := by rfl)
    (h1 : (assignEach [tg] X.env).map (·.2) = [assign tg X.env] := by rfl) (hbase : attributeBase o "pop" X.env (eval o X.env) = eval o X.env := by rfl) (hline : (apos.endLine == cpos.line) = true := by rfl) :
    DS X (.Assign [tg] (.Call (.Attribute o "pop" apos) [] [] cpos) pos) (pPopS i t) := fun g hK =>
  (ps_asg (pe_bm0 PySem.F.plainAttrs_list PySem.F.slot_list_pop PySem.F.type_list_pop mt_pop ho hbase (hline := hline)) (hg g hK) hs hw h1).imp fun D σ H ⟨n, F, ρ, P, ok, h, k⟩ => by
  have h : pPopS i t P ρ n := h
  unfold pPopS at h
  split at h
  · rename_i ds hi
    obtain ⟨l, xs, e1, e2, r⟩ := ok.ownAt hi
    cases hd : ds[ds.length - 1]? with
    | none => rw [hd] at h; exact h.elim
    | some d =>
      rw [hd] at h
      obtain ⟨y, hy, ry⟩ := r.get hd
      refine ⟨_, e1, .inl ⟨rfl, xs, SqL.of e2⟩, l, xs, y, rfl, rfl, e2, by rw [r.length]; exact hy, n, F, _, d, _, ok.write hi e1 (.lst r.dropLast), ry, h, fun n2 F2 H2 σ2 ρ2 s2 ok2 _ h2 => k.nx n2 F2 H2 σ2 ρ2 s2 ok2 h2⟩
  · exact h.elim

/-! ### assignments -/
theorem ds_par {i j : Nat} {x y : Str} {px py pt : Pos} {kt k2 pt2} (hN : X.N.Nodup) (hij : i ≠ j) (ha : DA X [a, b] ta) (hw : swappedStores [.Tuple [.Name x px, .Name y py] kt pt] (.Tuple [a, b] k2 pt2) X.env = pure (some [x, y])) (hi : X.N[i]? = some x := by rfl) (hj : X.N[j]? = some y := by rfl)
    (hx : X.env.scope.names.lookup x = some .local := by rfl) (hy : X.env.scope.names.lookup y = some .local := by rfl) (hc : X.calm = true := by rfl)
    (hs : swapsWithSole [.Tuple [.Name x px, .Name y py] kt pt] (.Tuple [a, b] k2 pt2) pos.line X.env = pure false := by rfl) :
    DS X (.Assign [.Tuple [.Name x px, .Name y py] kt pt] (.Tuple [a, b] k2 pt2) pos) (pPar i j ta) := fun g hK => (ps_par hc hN hi hj hij hx hy (ha g hK) hw hs).imp fun D σ H h => LA.par h
theorem ds_par3 {i j l : Nat} {x y z : Str} {c : Expr} {px py pz pt : Pos} {kt k2 pt2} (hN : X.N.Nodup) (hij : i ≠ j) (hil : i ≠ l) (hjl : j ≠ l) (ha : DA X [a, b, c] ta) (hw : swappedStores [.Tuple [.Name x px, .Name y py, .Name z pz] kt pt] (.Tuple [a, b, c] k2 pt2) X.env = pure (some [x, y, z]))
    (hi : X.N[i]? = some x := by rfl) (hj : X.N[j]? = some y := by rfl) (hl : X.N[l]? = some z := by rfl) (hx : X.env.scope.names.lookup x = some .local := by rfl) (hy : X.env.scope.names.lookup y = some .local := by rfl) (hz : X.env.scope.names.lookup z = some .local := by rfl) (hc : X.calm = true := by rfl)
    (hs : swapsWithSole [.Tuple [.Name x px, .Name y py, .Name z pz] kt pt] (.Tuple [a, b, c] k2 pt2) pos.line X.env = pure false := by rfl) :
    DS X (.Assign [.Tuple [.Name x px, .Name y py, .Name z pz] kt pt] (.Tuple [a, b, c] k2 pt2) pos) (pPar3 i j l ta) := fun g hK => (ps_par3 hc hN hi hj hl hij hil hjl hx hy hz (ha g hK) hw hs).imp fun D σ H ⟨n, F, ρ, P, ok, h, k⟩ => by
  refine ⟨n, F, ρ, _, ok, h, fun n1 F1 H1 vs ds s1 ok1 r1 h1 => ?_⟩
  match ds, r1, h1 with
  | [d, e, f], .cons r1 (.cons r2 (.cons r3 .nil)), h1 => exact ⟨_, _, _, rfl, k.nx n1 F1 H1 _ _ s1 (((ok1.set i r1).set j r2).set l r3) h1⟩
def pAug (i : Nat) (o : O2) (p : TPE) : TPS := fun P ρ n => match ρ[i]? with | some (.sh d) => p ρ n fun e m => o d e fun z => P.nx (ρ.set i (.sh z)) m | _ => False
theorem ds_aug {i : Nat} {x : Str} {op : Operator} {r : R2} {oo : O2} {pos' : Pos} (ho : OpR X (inplaceOp op) r) (hp : OpP X.K r oo) (hN : X.N.Nodup) (hx : Loc X.env.scope x) (he : SE X e p) (hi : X.N[i]? = some x := by rfl) (hf : X.fn x = true ∨ X.env.scope.names.lookup x = some .local := by first | exact .inl rfl | exact .inr rfl) :
    DS X (.AugAssign (.Name x pos') op e pos) (pAug i oo p) := fun g hK => (ps_aug hN hi hx (he g hK) (show PIp X op r from ho) hf).imp fun D σ H ⟨n, F, ρ, P, ok, h, k⟩ => by
  have h : pAug i oo p P ρ n := h
  unfold pAug at h
  split at h
  · rename_i d hd
    obtain ⟨v, e1, r1⟩ := ok.cells i _ hd
    refine ⟨v, e1, n, F, ρ, _, ok, h, fun n1 F1 H1 y z s1 ok1 r2 h1 => ?_⟩
    exact hp g n1 F1 H1 σ ρ v y d z _ _ hK ok1 (.inl (r1.mono s1)) r2 h1 fun F2 H2 w q s2 ok2 r3 h3 => k.nx n1 F2 H2 _ _ (s1.trans s2) (ok2.set i r3) h3
  · exact h.elim
theorem ds_augAdd {i : Nat} {x : Str} {pos' : Pos} (hN : X.N.Nodup) (hx : Loc X.env.scope x) (he : SE X e p) (hi : X.N[i]? = some x := by rfl) (hf : X.fn x = true ∨ X.env.scope.names.lookup x = some .local := by first | exact .inl rfl | exact .inr rfl) :
    DS X (.AugAssign (.Name x pos') .Add e pos) (pAug i (oI fun i j R => R (.int (i + j))) p) := ds_aug iop_add (op_rI0 fun _ _ _ _ => .int _) hN hx he hi hf

/-! ### == and != -/
mutual
def D.py : D → Option PyData
  | .non => some .none
  | .bl b => some (.bool b)
  | .int i => some (.int i)
  | .str s => some (.str s)
  | .lst ds => match D.pyL ds with | some xs => some (.list xs) | none => none
  | .tup ds => match D.pyL ds with | some xs => some (.tuple xs) | none => none
  | .dic [] [] => some (.dict [])
  | _ => none
def D.pyL : List D → Option (List PyData)
  | [] => some []
  | d :: ds => match D.py d, D.pyL ds with | some x, some xs => some (x :: xs) | _, _ => none
end
theorem pyL_cons {d : D} {ds : List D} {q : List PyData} (h : D.pyL (d :: ds) = some q) : ∃ x xs, q = x :: xs ∧ d.py = some x ∧ D.pyL ds = some xs := by
  rw [D.pyL] at h
  split at h
  · rename_i x xs h1 h2
    cases h
    exact ⟨x, xs, rfl, h1, h2⟩
  · cases h
mutual
theorem Rep.dp {c : Cfg} {F H : Hp} (s : Same F H) : ∀ (d : D) (v : V) (q : PyData), Rep c F v d → d.py = some q → q.canLay0 = true → Dp c.K H v q
  | .non, _, _, .non, h, _ => by cases h; exact .non
  | .bl b, _, _, .bl _, h, _ => by cases h; exact .bl b
  | .int i, _, _, .int _, h, _ => by cases h; exact .int i
  | .str x, _, _, .str _, h, _ => by cases h; exact .str x
  | .lst ds, _, _, .lst e r, h, hc => by
    rw [D.py] at h
    split at h
    · rename_i xs hx
      cases h
      exact .lst (SqL.of (s _ _ e)) (Reps.dp s ds _ xs r hx (by simpa [PyData.canLay0] using hc))
    · cases h
  | .tup ds, _, _, .tup e r, h, hc => by
    rw [D.py] at h
    split at h
    · rename_i xs hx
      cases h
      exact .tup (Same.seqT s e) (Reps.dp s ds _ xs r hx (by simpa [PyData.canLay0] using hc))
    · cases h
  | .dic ks ds, _, _, .dic _ _ _, h, hc => by
    exfalso
    cases ks <;> cases ds <;> simp [D.py] at h
    subst h
    simp [PyData.canLay0] at hc
  | .dit _ _, _, _, _, h, _ => by simp [D.py] at h
  | .obj _ _, _, _, _, h, _ => by simp [D.py] at h
  | .res, _, _, _, h, _ => by simp [D.py] at h
theorem Reps.dp {c : Cfg} {F H : Hp} (s : Same F H) : ∀ (ds : List D) (vs : List V) (qs : List PyData), Reps c F vs ds → D.pyL ds = some qs → PyData.canLayAll0 qs = true → DpAll c.K H vs qs
  | [], _, _, .nil, h, _ => by
    rw [D.pyL] at h
    cases h
    exact .nil
  | d :: ds, _, _, .cons r rs, h, hc => by
    obtain ⟨x, xs, rfl, h1, h2⟩ := pyL_cons h
    have hc : x.canLay0 = true ∧ PyData.canLayAll0 xs = true := by simpa [PyData.canLayAll0] using hc
    exact .cons (Rep.dp s d _ x r h1 hc.1) (Reps.dp s ds _ xs rs h2 hc.2)
end
end
end PL

/-! PL: ==, repr, more built-ins. -/
namespace PL
open PySem PySem.Spec L2
section
variable {X : Cx} {e a b e2 tg o : Expr} {es : List Expr} {p pa pb : TPE} {pos pf apos cpos : Pos} {ta tk : TPA}
theorem RR.dp {g : G} {n : Nat} {F H : Hp} {σ : L2.St} {ρ : PEnv} {x : V} {d : D} {q : PyData} (ok : Ok g n F H σ ρ) (h : RR g F σ ρ x d) (hq : d.py = some q) (hc : q.canLay0 = true) : Dp g.c.K H x q := by
  rcases h with h | ⟨i, hi, hs⟩
  · exact Rep.dp ok.sub d x q h hq hc
  · obtain ⟨F', s, ok'⟩ := ok.freeze hi
    obtain ⟨v, e, r⟩ := ok'.cells i _ (set_same (lt_of_get hi))
    rw [hs] at e
    cases e
    exact Rep.dp ok'.sub d x q r hq hc
theorem shaped_lay {q : PyData} (h : SeqAt.shaped q = true) : q.canLay0 = true := by
  unfold SeqAt.shaped at h
  rw [Bool.and_eq_true] at h
  exact h.1
def oEq : O2 := fun d e R => match d, e with
  | .str s, .str t => R (.bl (decide (s = t)))
  | .int i, .int j => R (.bl (decide (i = j)))
  | d, e => match d.py, e.py with
    | some x, some y => SeqAt.shaped x = true ∧ SeqAt.shaped y = true ∧ R (.bl (PyData.eqv x y))
    | _, _ => False
def oNe : O2 := fun d e R => match d, e with
  | .str s, .str t => R (.bl (!decide (s = t)))
  | .int i, .int j => R (.bl (!decide (i = j)))
  | d, e => match d.py, e.py with
    | some x, some y => SeqAt.shaped x = true ∧ SeqAt.shaped y = true ∧ R (.bl (!PyData.eqv x y))
    | _, _ => False
theorem dec_strV (s t : Str) : decide (V.str s = V.str t) = decide (s = t) := by simp
theorem dec_intV (s t : Int) : decide (V.int s = V.int t) = decide (s = t) := by simp
theorem opp_eq {K : PySem.W.Frag} : OpP K (fun x y H Q => rEqD K x y H Q ∨ rEq x y H Q) oEq := fun g n F H σ ρ x y d e R Q hK ok r1 r2 q k => by
  have q : oEq d e R := q
  unfold oEq at q
  split at q
  · cases r1.str ok
    cases r2.str ok
    exact .inr ⟨rfl, by rw [dec_strV]; exact k F H _ _ (Same.refl F) ok (.bl _) q⟩
  · cases r1.int ok
    cases r2.int ok
    exact .inr ⟨rfl, by rw [dec_intV]; exact k F H _ _ (Same.refl F) ok (.bl _) q⟩
  · split at q
    · rename_i u w hu hw
      exact .inl ⟨u, w, by rw [← hK]; exact r1.dp ok hu (shaped_lay q.1), by rw [← hK]; exact r2.dp ok hw (shaped_lay q.2.1), q.1, q.2.1, k F H _ _ (Same.refl F) ok (.bl _) q.2.2⟩
    · exact q.elim
theorem opp_ne {K : PySem.W.Frag} : OpP K (fun x y H Q => rNeD K x y H Q ∨ rNe x y H Q) oNe := fun g n F H σ ρ x y d e R Q hK ok r1 r2 q k => by
  have q : oNe d e R := q
  unfold oNe at q
  split at q
  · cases r1.str ok
    cases r2.str ok
    exact .inr ⟨rfl, by rw [dec_strV]; exact k F H _ _ (Same.refl F) ok (.bl _) q⟩
  · cases r1.int ok
    cases r2.int ok
    exact .inr ⟨rfl, by rw [dec_intV]; exact k F H _ _ (Same.refl F) ok (.bl _) q⟩
  · split at q
    · rename_i u w hu hw
      exact .inl ⟨u, w, by rw [← hK]; exact r1.dp ok hu (shaped_lay q.1), by rw [← hK]; exact r2.dp ok hw (shaped_lay q.2.1), q.1, q.2.1, k F H _ _ (Same.refl F) ok (.bl _) q.2.2⟩
    · exact q.elim
theorem de_eq (hu : X.A.units + 64 < cLine) (ha : SE X a pa) (hb : SE X b pb) : DE X (.Compare a [.Eq] [b] pos) (pBin oEq pa pb) := de_cmp ((op_eqD hu).or op_eq) opp_eq ha hb (nomark _)
theorem de_ne (hu : X.A.units + 64 < cLine) (ha : SE X a pa) (hb : SE X b pb) : DE X (.Compare a [.NotEq] [b] pos) (pBin oNe pa pb) := de_cmp ((op_neD hu).or op_ne) opp_ne ha hb (nomark _)
theorem dt_eq (hu : X.A.units + 64 < cLine) (ha : SE X a pa) (hb : SE X b pb) : DT X (.Compare a [.Eq] [b] pos) (pB (pBin oEq pa pb)) := dt_cmp ((op_eqD hu).or op_eq) opp_eq ha hb (nomark _)
theorem dt_ne (hu : X.A.units + 64 < cLine) (ha : SE X a pa) (hb : SE X b pb) : DT X (.Compare a [.NotEq] [b] pos) (pB (pBin oNe pa pb)) := dt_cmp ((op_neD hu).or op_ne) opp_ne ha hb (nomark _)

/-! ### repr -/
def showOk (q : PyData) : Prop := q.showable = true ∧ q.depth ≤ 62 ∧ q.shown.length ≤ sizeLine ∧ (q.canLay0 = true ∨ q = .dict [])
def oRepr : OL := fun ds R => match ds with
  | [d] => match d.py with | some q => showOk q ∧ R (.str q.shown) | none => False
  | _ => False
theorem call_reprD (hu : X.A.units + 64 < cLine) (hgd : X.A.guards = some []) : CallR X (.builtin "repr") (fun xs H Q => ∃ x q, xs = [x] ∧ (Dp X.K H x q ∨ (q = .dict [] ∧ ∃ l, x = .ref l ∧ H l = some (.dK []))) ∧ showOk q ∧ Q (.str q.shown) H) := by
  intro pins s σ H xs us Q I r h
  obtain ⟨x, q, rfl, hq, ⟨h1, h2, h3, h4⟩, hQ⟩ := h
  obtain ⟨u, rfl, ru⟩ := Vals.one r
  have fin : ∀ (l : Addr) (as : List Addr), Reads s.heap (.ref l) q as → (q.hasDict = true → sysModules ∉ as) → wpAny (model X.prog X.w) X.A (call (.builtin "repr") [.ref l]) (EP X pins σ Q) X.xe s := fun l as hr hs =>
    repr_of_reads' hr h1 hs hgd (by omega) (fun _ _ e => e) (fun h' u tk hk => ⟨.str q.shown, H, I.kept (t' := tk) hk, ⟨_, rfl⟩, hQ⟩) h3
  rcases hq with hq | ⟨rfl, l, rfl, hl⟩
  · have lay : q.canLay0 = true := by
      rcases h4 with h4 | rfl
      · exact h4
      · cases hq
    obtain ⟨as, hr⟩ := Dp.reads I q x u hq ru
    have hs : q.hasDict = true → sysModules ∉ as := PyData.noDict_hsm (PyData.hasDict_of_canLay q lay)
    cases hq with
    | non => cases ru; exact P.repr_of_none ⟨.str _, H, I.tok _, ⟨_, rfl⟩, by simpa only [PyData.shown] using hQ⟩
    | bl b => cases ru; exact P.repr_of_bool ⟨.str _, H, I.tok _, ⟨_, rfl⟩, by simpa only [PyData.shown] using hQ⟩
    | int i =>
      obtain ⟨t, rfl⟩ := ru
      exact P.repr_of_int (by simpa [PyData.showable] using h1) ⟨.str _, H, I.tok _, ⟨_, rfl⟩, by simpa only [PyData.shown] using hQ⟩
    | str z =>
      obtain ⟨t, rfl⟩ := ru
      exact P.repr_of_str ⟨.str _, H, I.tok _, ⟨_, rfl⟩, by simpa only [PyData.shown] using hQ⟩ (by simpa only [PyData.shown] using h3)
    | lst _ _ => cases ru; exact fin _ as hr hs
    | tup _ _ => cases ru; exact fin _ as hr hs
  · cases ru
    obtain ⟨_, hsy, vs, kv, hm⟩ := I.hok l _ hl
    have kv : KV [] vs := kv
    cases kv
    obtain ⟨ob, es, ep, e1, e2, e3, e4, e5, _⟩ := hm
    have hes : es.toList = [] := by
      revert e5
      generalize es.toList = l
      intro e5
      cases e5
      rfl
    refine fin l _ (Reads.dict (kvs := []) (as := []) (bs := []) e1 e2.1 e3 (by rw [hes]; exact .nil) (by rw [hes]; exact .nil)) ?_
    intro _ hm
    have : sysModules = l := by simpa using hm
    rw [this] at hsy
    simp at hsy
theorem cp_repr : CaP X.K (fun xs H Q => ∃ x q, xs = [x] ∧ (Dp X.K H x q ∨ (q = .dict [] ∧ ∃ l, x = .ref l ∧ H l = some (.dK []))) ∧ showOk q ∧ Q (.str q.shown) H) oRepr := fun g n F H σ ρ xs ds R Q hK ok r q k => by
  have q : oRepr ds R := q
  unfold oRepr at q
  split at q
  · cases r with
    | cons r t =>
      cases t
      split at q
      · rename_i d _ _ _ y hy
        refine ⟨_, y, rfl, ?_, q.1, k F H _ _ (Same.refl F) ok (.str _) q.2⟩
        rcases q.1.2.2.2 with h4 | rfl
        · exact .inl (by rw [← hK]; exact r.dp ok hy h4)
        · refine .inr ⟨rfl, ?_⟩
          cases d with
          | dic ks es =>
            cases ks <;> cases es <;> simp [D.py] at hy
            obtain ⟨l, xs, rfl, e1, e2, e3⟩ := r.dic ok
            cases e3
            exact ⟨l, rfl, e1⟩
          | lst ds => rw [D.py] at hy; split at hy <;> cases hy
          | tup ds => rw [D.py] at hy; split at hy <;> cases hy
          | _ => simp [D.py] at hy
      · exact q.elim
  · exact q.elim
theorem de_repr (hm : X.mg "repr" = none) (hg : Gl X "repr") (hu : X.A.units + 64 < cLine) (hgd : X.A.guards = some []) (ha : SA X [e] ta) (he : starEach [e] X.env = (false, eval e X.env) :: starEach [] X.env := by rfl) : DE X (.Call (.Name "repr" pf) [e] [] pos) (pCall oRepr ta) :=
  de_callB (call_reprD hu hgd) cp_repr hg hm (by decide +kernel) ha (he := he) (hpl := rfl)
end
end PL

/-! PL: more built-ins. -/
namespace PL
open PySem PySem.Spec L2
section
variable {X : Cx} {e a b e2 tg o : Expr} {es : List Expr} {p pa pb : TPE} {pos pf apos cpos : Pos} {ta tk : TPA}
/-- int: of an int, a bool, a text that is a number -/
def oIntA : OL := fun ds R => match ds with
  | [.int i] => R (.int i)
  | [.bl b] => R (.int (if b then 1 else 0))
  | [.str s] => s.length ≤ 640 ∧ match PySem.intText? s with | some n => R (.int n) | none => False
  | _ => False
theorem de_int1 (hm : X.mg "int" = none) (hg : Gl X "int") (ha : SA X [e] ta) (he : starEach [e] X.env = (false, eval e X.env) :: starEach [] X.env := by rfl) : DE X (.Call (.Name "int" pf) [e] [] pos) (pCall oIntA ta) := by
  refine de_callTy (call_int1.or call_int_str) (fun g n F H σ ρ xs ds R Q hK ok r q k => ?_) hg hm (by decide +kernel) ha (he := he) (hpl := rfl)
  have q : oIntA ds R := q
  unfold oIntA at q
  split at q
  · cases r with
    | cons r t =>
      cases t
      cases r.int ok
      exact .inl (.inl ⟨_, rfl, k F H _ _ (Same.refl F) ok (.int _) q⟩)
  · cases r with
    | cons r t =>
      cases t
      cases r.bl ok
      exact .inl (.inr ⟨_, rfl, k F H _ _ (Same.refl F) ok (.int _) q⟩)
  · cases r with
    | cons r t =>
      cases t
      cases r.str ok
      obtain ⟨h1, q⟩ := q
      split at q
      · rename_i n hn
        exact .inr ⟨_, n, rfl, hn, h1, k F H _ _ (Same.refl F) ok (.int _) q⟩
      · exact q.elim
  · exact q.elim
/-- list, tuple -/
def oList : OL := fun ds R => match ds with
  | [.lst xs] => R (.lst xs)
  | [.tup xs] => R (.lst xs)
  | _ => False
theorem fe_list (hm : X.mg "list" = none) (hg : Gl X "list") (ha : SA X [e] ta) (he : starEach [e] X.env = (false, eval e X.env) :: starEach [] X.env := by rfl) : FE X (.Call (.Name "list" pf) [e] [] pos) (pCall oList ta) := fun g hK =>
  (pe_callTy call_list_of hg hm (by decide +kernel) (ha g hK) (he := he) (hpl := rfl)).imp fun σ H Q ⟨n, F, ρ, R, ok, hq, k⟩ =>
  ⟨n, F, ρ, _, ok, hq, fun n1 F1 H1 vs ds s1 ok1 r1 h1 => by
    have h1 : oList ds fun z => R z n1 := h1
    unfold oList at h1
    split at h1
    · cases r1 with
      | cons r t =>
        cases t
        obtain ⟨l, xs, rfl, e1, t1⟩ := r.lst ok1
        exact ⟨l, xs, rfl, .inl (SqL.of e1), fun q hn => k n1 F1 H1 q _ _ s1 ok1 hn (.lst t1) h1⟩
    · cases r1 with
      | cons r t =>
        cases t
        obtain ⟨l, xs, rfl, e1, t1, _⟩ := r.tup ok1
        rw [hK] at e1
        exact ⟨l, xs, rfl, .inr e1, fun q hn => k n1 F1 H1 q _ _ s1 ok1 hn (.lst t1) h1⟩
    · exact h1.elim⟩
def oTuple : OL := fun ds R => match ds with
  | [.lst xs] => R (.tup xs)
  | [.tup xs] => R (.tup xs)
  | _ => False
theorem de_tuple (hm : X.mg "tuple" = none) (hg : Gl X "tuple") (ha : SA X [e] ta) (he : starEach [e] X.env = (false, eval e X.env) :: starEach [] X.env := by rfl) : DE X (.Call (.Name "tuple" pf) [e] [] pos) (pCall oTuple ta) := by
  refine de_callTy call_tuple_of (fun g n F H σ ρ xs ds R Q hK ok r q k => ?_) hg hm (by decide +kernel) ha (he := he) (hpl := rfl)
  have q : oTuple ds R := q
  unfold oTuple at q
  split at q
  · cases r with
    | cons r t =>
      cases t
      obtain ⟨l, xs, rfl, e1, t1⟩ := r.lst ok
      exact ⟨l, xs, rfl, .inl ⟨SqL.of e1, fun q' hn => k (upd F q' _) _ _ _ (ok.sameF _ hn) (ok.alloc _ hn) (.tup (SqT.of upd_same) (t1.mono (ok.sameF _ hn))) q⟩⟩
  · cases r with
    | cons r t =>
      cases t
      obtain ⟨l, xs, rfl, e1, t1, t2⟩ := r.tup ok
      rw [hK] at e1
      exact ⟨l, xs, rfl, .inr ⟨e1, k F H _ _ (Same.refl F) ok t2 q⟩⟩
  · exact q.elim
/-- isinstance(e, T), T a built-in class -/
def tyName : D → Option String
  | .non => some "NoneType"
  | .bl _ => some "bool"
  | .int _ => some "int"
  | .str _ => some "str"
  | .lst _ => some "list"
  | .tup _ => some "tuple"
  | .dic _ _ => some "dict"
  | .dit _ _ => some "dict"
  | _ => none
theorem sqt_ty {K : PySem.W.Frag} {H : Hp} {l : Addr} {xs : List V} (h : SqT K H l xs) : TyX K H (.ref l) (.type "tuple") := by
  rcases h with (h | ⟨o, h⟩) | ⟨o, its, n, h1, h2, _⟩
  · exact .base (.tup h)
  · exact .fTuple h
  · exact .kTuple h1 h2
theorem RR.ty {g : G} {n : Nat} {F H : Hp} {σ : L2.St} {ρ : PEnv} {x : V} {d : D} {t : String} (ok : Ok g n F H σ ρ) (h : RR g F σ ρ x d) (ht : tyName d = some t) : TyX g.c.K H x (.type t) := by
  cases d with
  | non => cases ht; cases h.non ok; exact .base .non
  | bl b => cases ht; cases h.bl ok; exact .base (.bl b)
  | int i => cases ht; cases h.int ok; exact .base (.int i)
  | str z => cases ht; cases h.str ok; exact .base (.str z)
  | lst ds => cases ht; obtain ⟨l, xs, rfl, e, _⟩ := h.lst ok; exact .base (.lst e)
  | tup ds => cases ht; obtain ⟨l, xs, rfl, e, _⟩ := h.tup ok; exact sqt_ty e
  | dic ks ds => cases ht; obtain ⟨l, xs, rfl, e, _⟩ := h.dic ok; exact .base (.dK e)
  | dit ks ds => cases ht; obtain ⟨l, xs, rfl, e, _⟩ := h.dit ok; exact .base (.dT e)
  | obj _ _ => cases ht
  | res => cases ht
def pIsi (T : String) (p : TPE) : TPE := fun ρ n R => p ρ n fun d m => match tyName d with
  | some t => match kitB t T with | some b => R (.bl b) m | none => False
  | none => False
theorem de_isi {x : Str} {T : String} {px : Pos} (hm : X.mg "isinstance" = none) (hmx : X.mg x = none) (hg : Gl X "isinstance") (hgx : Gl X x) (hv : bootBuiltins x = some (.type T)) (he : SE X e p) (hn : x ≠ "__name__" := by decide) (hdb : (x == ("__debug__" : Str)) = false := by decide)
    (hs : starEach (e :: [.Name x px]) X.env = (false, eval e X.env) :: starEach [.Name x px] X.env := by rfl) (hs2 : starEach (.Name x px :: []) X.env = (false, eval (.Name x px) X.env) :: starEach [] X.env := by rfl) (hpl : (backTo pos (starEach [.Name x px] X.env)).any (·.1) = false := by rfl) :
    DE X (.Call (.Name "isinstance" pf) [e, .Name x px] [] pos) (pIsi T p) := fun g hK =>
  (pe_callB call_isi hg hm (by decide +kernel) (pa_cons (he g hK) (pa_cons (pe_bltn (v := .ty T) hgx hmx hv rfl hn hdb) pa_nil hs2) hs) (he := hs) (hpl := hpl)).imp fun σ H Q ⟨n, F, ρ, R, ok, hq, k⟩ =>
  ⟨n, F, ρ, _, ok, hq, fun n1 F1 H1 v d s1 ok1 r1 h1 => by
    have h1 : (match tyName d with | some t => (match kitB t T with | some b => R (.bl b) n1 | none => False) | none => False) := h1
    split at h1
    · rename_i t ht
      split at h1
      · rename_i c hc
        exact ⟨v, .ty T, .type t, .type T, c, rfl, .ty T, by rw [← hK]; exact r1.ty ok1 ht, kit_ty hc, k n1 F1 H1 _ _ s1 ok1 (.bl _) h1⟩
      · exact h1.elim
    · exact h1.elim⟩
/-- abs, max, min of ints -/
def oAbs : OL := fun ds R => match ds with | [.int i] => R (.int (if i < 0 then -i else i)) | _ => False
theorem de_abs (hm : X.mg "abs" = none) (hg : Gl X "abs") (ha : SA X [e] ta) (he : starEach [e] X.env = (false, eval e X.env) :: starEach [] X.env := by rfl) : DE X (.Call (.Name "abs" pf) [e] [] pos) (pCall oAbs ta) := by
  refine de_callB call_abs (fun g n F H σ ρ xs ds R Q hK ok r q k => ?_) hg hm (by decide +kernel) ha (he := he) (hpl := rfl)
  match ds, r, q with
  | [.int i], .cons r .nil, q =>
    cases r.int ok
    exact ⟨_, rfl, k F H _ _ (Same.refl F) ok (.int _) q⟩
def oMax2 : OL := fun ds R => match ds with | [.int i, .int j] => R (.int (if j > i then j else i)) | _ => False
def oMin2 : OL := fun ds R => match ds with | [.int i, .int j] => R (.int (if j < i then j else i)) | _ => False
theorem de_max2 (hm : X.mg "max" = none) (hg : Gl X "max") (ha : SA X [e, e2] ta) (hc : X.calm = true := by rfl) (he : starEach (e :: [e2]) X.env = (false, eval e X.env) :: starEach [e2] X.env := by rfl) (hpl : (backTo pos (starEach [e2] X.env)).any (·.1) = false := by rfl) : DE X (.Call (.Name "max" pf) [e, e2] [] pos) (pCall oMax2 ta) := by
  refine de_callB (call_max2 hc) (fun g n F H σ ρ xs ds R Q hK ok r q k => ?_) hg hm (by decide +kernel) ha (he := he) (hpl := hpl)
  match ds, r, q with
  | [.int i, .int j], .cons r (.cons r2 .nil), q =>
    cases r.int ok
    cases r2.int ok
    exact ⟨_, _, rfl, k F H _ _ (Same.refl F) ok (.int _) q⟩
theorem de_min2 (hm : X.mg "min" = none) (hg : Gl X "min") (ha : SA X [e, e2] ta) (hc : X.calm = true := by rfl) (he : starEach (e :: [e2]) X.env = (false, eval e X.env) :: starEach [e2] X.env := by rfl) (hpl : (backTo pos (starEach [e2] X.env)).any (·.1) = false := by rfl) : DE X (.Call (.Name "min" pf) [e, e2] [] pos) (pCall oMin2 ta) := by
  refine de_callB (call_min2 hc) (fun g n F H σ ρ xs ds R Q hK ok r q k => ?_) hg hm (by decide +kernel) ha (he := he) (hpl := hpl)
  match ds, r, q with
  | [.int i, .int j], .cons r (.cons r2 .nil), q =>
    cases r.int ok
    cases r2.int ok
    exact ⟨_, _, rfl, k F H _ _ (Same.refl F) ok (.int _) q⟩
/-- lists of one kind -/
def asBls : List D → Option (List Bool)
  | [] => some []
  | .bl b :: ds => (asBls ds).map (b :: ·)
  | _ => none
def asInts : List D → Option (List Int)
  | [] => some []
  | .int i :: ds => (asInts ds).map (i :: ·)
  | _ => none
def asStrs : List D → Option (List Str)
  | [] => some []
  | .str i :: ds => (asStrs ds).map (i :: ·)
  | _ => none
theorem Reps.bls {c : Cfg} {F : Hp} : ∀ {ds : List D} {vs : List V} {bs : List Bool}, Reps c F vs ds → asBls ds = some bs → vs = bs.map V.bl
  | [], _, _, .nil, h => by cases h; rfl
  | .bl b :: ds, _, bs, .cons (.bl _) t, h => by
    rw [asBls] at h
    cases q : asBls ds with
    | none => rw [q] at h; cases h
    | some xs =>
      rw [q] at h
      cases h
      rw [Reps.bls t q]
      rfl
theorem Reps.intsV {c : Cfg} {F : Hp} : ∀ {ds : List D} {vs : List V} {bs : List Int}, Reps c F vs ds → asInts ds = some bs → vs = bs.map V.int
  | [], _, _, .nil, h => by cases h; rfl
  | .int b :: ds, _, bs, .cons (.int _) t, h => by
    rw [asInts] at h
    cases q : asInts ds with
    | none => rw [q] at h; cases h
    | some xs =>
      rw [q] at h
      cases h
      rw [Reps.intsV t q]
      rfl
theorem Reps.strsV {c : Cfg} {F : Hp} : ∀ {ds : List D} {vs : List V} {bs : List Str}, Reps c F vs ds → asStrs ds = some bs → vs = bs.map V.str
  | [], _, _, .nil, h => by cases h; rfl
  | .str b :: ds, _, bs, .cons (.str _) t, h => by
    rw [asStrs] at h
    cases q : asStrs ds with
    | none => rw [q] at h; cases h
    | some xs =>
      rw [q] at h
      cases h
      rw [Reps.strsV t q]
      rfl
theorem asBls_map (bs : List Bool) : asBls (bs.map D.bl) = some bs := by
  induction bs with
  | nil => rfl
  | cons b bs ih => rw [List.map_cons, asBls, ih]; rfl
theorem asInts_map (bs : List Int) : asInts (bs.map D.int) = some bs := by
  induction bs with
  | nil => rfl
  | cons b bs ih => rw [List.map_cons, asInts, ih]; rfl
theorem asStrs_map (bs : List Str) : asStrs (bs.map D.str) = some bs := by
  induction bs with
  | nil => rfl
  | cons b bs ih => rw [List.map_cons, asStrs, ih]; rfl
def oAll : OL := fun ds R => match ds with | [.lst xs] => (match asBls xs with | some bs => R (.bl (bs.all id)) | none => False) | _ => False
def oAny : OL := fun ds R => match ds with | [.lst xs] => (match asBls xs with | some bs => R (.bl (bs.any id)) | none => False) | _ => False
def oSum : OL := fun ds R => match ds with | [.lst xs] => (match asInts xs with | some bs => R (.int bs.sum) | none => False) | _ => False
theorem de_all (hm : X.mg "all" = none) (hg : Gl X "all") (ha : SA X [e] ta) (hc : X.calm = true := by rfl) (he : starEach [e] X.env = (false, eval e X.env) :: starEach [] X.env := by rfl) : DE X (.Call (.Name "all" pf) [e] [] pos) (pCall oAll ta) := by
  refine de_callB (cr_all hc) (fun g n F H σ ρ xs ds R Q hK ok r q k => ?_) hg hm (by decide +kernel) ha (he := he) (hpl := rfl)
  match ds, r, q with
  | [.lst zs], .cons r .nil, q =>
    obtain ⟨l, xs, rfl, e1, t1⟩ := r.lst ok
    have q : (match asBls zs with | some bs => R (.bl (bs.all id)) | none => False) := q
    split at q
    · rename_i bs hb
      rw [t1.bls hb] at e1
      exact ⟨l, bs, rfl, SqL.of e1, k F H _ _ (Same.refl F) ok (.bl _) q⟩
    · exact q.elim
theorem de_any (hm : X.mg "any" = none) (hg : Gl X "any") (ha : SA X [e] ta) (hc : X.calm = true := by rfl) (he : starEach [e] X.env = (false, eval e X.env) :: starEach [] X.env := by rfl) : DE X (.Call (.Name "any" pf) [e] [] pos) (pCall oAny ta) := by
  refine de_callB (cr_any hc) (fun g n F H σ ρ xs ds R Q hK ok r q k => ?_) hg hm (by decide +kernel) ha (he := he) (hpl := rfl)
  match ds, r, q with
  | [.lst zs], .cons r .nil, q =>
    obtain ⟨l, xs, rfl, e1, t1⟩ := r.lst ok
    have q : (match asBls zs with | some bs => R (.bl (bs.any id)) | none => False) := q
    split at q
    · rename_i bs hb
      rw [t1.bls hb] at e1
      exact ⟨l, bs, rfl, SqL.of e1, k F H _ _ (Same.refl F) ok (.bl _) q⟩
    · exact q.elim
theorem de_sum (hm : X.mg "sum" = none) (hg : Gl X "sum") (ha : SA X [e] ta) (hc : X.calm = true := by rfl) (he : starEach [e] X.env = (false, eval e X.env) :: starEach [] X.env := by rfl) : DE X (.Call (.Name "sum" pf) [e] [] pos) (pCall oSum ta) := by
  refine de_callB (cr_sum hc) (fun g n F H σ ρ xs ds R Q hK ok r q k => ?_) hg hm (by decide +kernel) ha (he := he) (hpl := rfl)
  match ds, r, q with
  | [.lst zs], .cons r .nil, q =>
    obtain ⟨l, xs, rfl, e1, t1⟩ := r.lst ok
    have q : (match asInts zs with | some bs => R (.int bs.sum) | none => False) := q
    split at q
    · rename_i bs hb
      rw [t1.intsV hb] at e1
      exact ⟨l, bs, rfl, SqL.of e1, k F H _ _ (Same.refl F) ok (.int _) q⟩
    · exact q.elim
/-- sep.join(xs) -/
def pJoin (p q : TPE) : TPE := fun ρ n R => p ρ n fun d m => match d with
  | .str s => q ρ m fun e k => match e with
    | .lst xs => (match asStrs xs with | some ys => (ys.map (·.length)).sum + ys.length * s.length ≤ 16777216 ∧ R (.str (Txt.join s ys)) k | none => False)
    | .tup xs => (match asStrs xs with | some ys => (ys.map (·.length)).sum + ys.length * s.length ≤ 16777216 ∧ R (.str (Txt.join s ys)) k | none => False)
    | _ => False
  | _ => False
theorem de_join (ho : DE X o pa) (he : SE X e p) (hs : starEach [e] X.env = [(false, eval e X.env)] := by rfl) (hbase : attributeBase o "join" X.env (eval o X.env) = eval o X.env := by rfl) (hline : (apos.endLine == pos.line) = true := by rfl) :
    DE X (.Call (.Attribute o "join" apos) [e] [] pos) (pJoin pa p) := fun g hK => (pe_join (ho g hK) (he g hK) hs hbase hline).imp fun σ H Q ⟨n, F, ρ, R, ok, hq, k⟩ => by
  refine ⟨n, F, ρ, _, ok, hq, fun n1 F1 H1 v d s1 ok1 r1 h1 => ?_⟩
  revert h1 r1
  cases d <;> intro r1 h1 <;> first | exact False.elim h1 | skip
  rename_i z
  cases r1
  refine ⟨⟨z, rfl⟩, n1, F1, ρ, _, ok1, h1, fun n2 F2 H2 w d2 s2 ok2 r2 h2 => ?_⟩
  revert h2 r2
  cases d2 <;> intro r2 h2 <;> first | exact False.elim h2 | skip
  · rename_i xs
    obtain ⟨l, us, rfl, e1, t1⟩ := r2.lst ok2
    have h2 : (match asStrs xs with | some ys => (ys.map (·.length)).sum + ys.length * z.length ≤ 16777216 ∧ R (.str (Txt.join z ys)) n2 | none => False) := h2
    split at h2
    · rename_i ys hy
      rw [t1.strsV hy] at e1
      exact ⟨z, l, ys, rfl, rfl, .inl (SqL.of e1), h2.1, k n2 F2 H2 _ _ (s1.trans s2) ok2 (.str _) h2.2⟩
    · exact h2.elim
  · rename_i xs
    obtain ⟨l, us, rfl, e1, t1, _⟩ := r2.tup ok2
    have h2 : (match asStrs xs with | some ys => (ys.map (·.length)).sum + ys.length * z.length ≤ 16777216 ∧ R (.str (Txt.join z ys)) n2 | none => False) := h2
    split at h2
    · rename_i ys hy
      rw [t1.strsV hy, hK] at e1
      exact ⟨z, l, ys, rfl, rfl, .inr e1, h2.1, k n2 F2 H2 _ _ (s1.trans s2) ok2 (.str _) h2.2⟩
    · exact h2.elim
/-- str(n) -/
def oStr : OL := fun ds R => match ds with | [.int i] => i.natAbs.log2 < 1920 ∧ R (.str (toString i)) | _ => False
theorem de_str1 (hm : X.mg "str" = none) (hg : Gl X "str") (ha : SA X [e] ta) (he : starEach [e] X.env = (false, eval e X.env) :: starEach [] X.env := by rfl) : DE X (.Call (.Name "str" pf) [e] [] pos) (pCall oStr ta) := by
  refine de_callTy call_str_int (fun g n F H σ ρ xs ds R Q hK ok r q k => ?_) hg hm (by decide +kernel) ha (he := he) (hpl := rfl)
  match ds, r, q with
  | [.int i], .cons r .nil, q =>
    cases r.int ok
    exact ⟨_, rfl, q.1, k F H _ _ (Same.refl F) ok (.str _) q.2⟩
/-- xs[::-1] -/
def pRev (p : TPE) : TPE := fun ρ n R => p ρ n fun d m => match d with | .lst ds => R (.lst ds.reverse) m | _ => False
theorem de_rev {k : Nat} {p1 p2 p3 : Pos} (he : SE X e p) : DE X (.Subscript e (.Slice none none (some (.UnaryOp .USub (.Constant (.int 1) k p1) p2)) p3) pos) (pRev p) := fun g hK => (pe_revL (he g hK)).imp fun σ H Q ⟨n, F, ρ, R, ok, hq, k⟩ => by
  refine ⟨n, F, ρ, _, ok, hq, fun n1 F1 H1 v d s1 ok1 r1 h1 => ?_⟩
  revert h1 r1
  cases d <;> intro r1 h1 <;> first | exact False.elim h1 | skip
  obtain ⟨l, us, rfl, e1, t1⟩ := r1.lst ok1
  exact ⟨l, us, rfl, SqL.of e1, fun q hn => k n1 (upd F1 q _) _ _ _ (s1.trans (ok1.sameF _ hn)) (ok1.alloc _ hn) (.lst upd_same (t1.reverse.mono (ok1.sameF _ hn))) h1⟩
end
end PL

/-! PL: defs by name. -/
namespace PL
open PySem PySem.Spec L2
open PyProof.Rows (envOfC)
/-- the def named x of the module keeps S; nbs: the ways in which it is called by names alone -/
def FnC (P : Program) (w : World) (K : PySem.W.Frag) (mg : Str → Option Value) (base : Heap) (k : Nat) (x : Str) (ps : List Str) (nbs : List (List Str × List Nat)) (S : Spec) : Prop :=
  ∃ (f : Addr) (fd : FuncData), FnG P w K mg base k f fd ps (spP K S) ∧ mg x = some (.ref f) ∧ PySem.W.keepIn K (.ref f) = true ∧ Binds K fd ps [] ∧ ∀ q ∈ nbs, NBinds K fd ps q.1 q.2
section
variable {P : Program} {w : World} {K : PySem.W.Frag} {mg : Str → Option Value} {base : Heap}
theorem _root_.L2.Fun.nbinds {x qual : Str} {st : Stmt} {f : Addr} {fd : FuncData} {ps ks : List Str} {ix : List Nat} (F : Fun K x qual st f fd)
    (h : ∀ (kV doc pm : Value) (an : Option Addr) (cdv ct : Value) (ws : List Value), ws.length = ks.length → bindArgs (PySem.W.fnOf x qual (defArgs st) (defBody st) (defScope st) .none kV doc pm an cdv ct) ⟨[], ks.zip ws⟩ = pure (ps.zip (picks ix ws))) : NBinds K fd ps ks ix := by
  obtain ⟨oc, od, kV, doc, pm, an, cdv, ct, osl, rfl, lk, hcd⟩ := F.ex
  intro s ws _ hl
  exact .of_eq (h kV doc pm an cdv ct ws hl)
theorem fnc {x : Str} {st : Stmt} {f : Addr} {fd : FuncData} {N ps : List Str} {k : Nat} {nbs : List (List Str × List Nat)} {S : Spec} (Fu : Fun K x x st f fd) (hm : mg x = some (.ref f)) (sc : FnScope N ps (defScope st)) (hb : Binds K fd ps []) (hnb : ∀ q ∈ nbs, NBinds K fd ps q.1 q.2) (len : ∀ ds n R, S ds n R → ds.length = ps.length)
    (hbody : ∀ (cdv : Value) (A : Around) (outer : List Env) (s : Shared) (H : Hp) (E : XK), A.guards = some [] → Room k (A.deeper (envOfC x (defScope st) s.heap.objs.size f cdv)) →
      ∃ q, DSs (cxOf CX0 P w K mg base N x (defScope st) f cdv A outer s H E).nox (defBody st) q ∧ ∀ ds n R, S ds n R → q { nx := fun _ m => R .non m, rt := R } (env0 N.length ds) n) : FnC P w K mg base (k + 1) x ps nbs S :=
  ⟨f, fd, Fu.okPG sc len hbody, hm, Fu.kp, hb, hnb⟩
theorem fncH {x : Str} {st : Stmt} {f : Addr} {fd : FuncData} {ps : List Str} {k : Nat} {nbs : List (List Str × List Nat)} {S : Spec} (Fu : Fun K x x st f fd) (hm : mg x = some (.ref f)) (hb : Binds K fd ps []) (hnb : ∀ q ∈ nbs, NBinds K fd ps q.1 q.2) (h : FnG P w K mg base k f fd ps (spP K S)) : FnC P w K mg base k x ps nbs S :=
  ⟨f, fd, h, hm, Fu.kp, hb, hnb⟩
end
section
variable {X : Cx} {k : Nat} {ps : List Str} {nbs : List (List Str × List Nat)} {S : Spec} {x : Str} {pf pos : Pos} {e : Expr} {es : List Expr} {t tk : TPA} {kws : List Keyword}
theorem de_fnC (Fn : FnC X.prog X.w X.K X.mg X.base k x ps nbs S) (hgd : X.A.guards = some []) (hr : Room k X.A) (ha : DA X (e :: es) t) (hg : Gl X x := by rfl) (hdb : (x == ("__debug__" : Str)) = false := by decide)
    (he : starEach (e :: es) X.env = (false, eval e X.env) :: starEach es X.env := by rfl) (hpl : (backTo pos (starEach es X.env)).any (·.1) = false := by rfl) : DE X (.Call (.Name x pf) (e :: es) [] pos) (pFn S t) := by
  obtain ⟨f, fd, h1, h2, h3, h4, h5⟩ := Fn
  exact de_fn h1 hgd hr hg h2 h3 h4 ha hdb he hpl
theorem de_fnC0 (Fn : FnC X.prog X.w X.K X.mg X.base k x ps nbs S) (hgd : X.A.guards = some []) (hr : Room k X.A) (hg : Gl X x := by rfl) (hdb : (x == ("__debug__" : Str)) = false := by decide) : DE X (.Call (.Name x pf) [] [] pos) (pFn S pNil) := by
  obtain ⟨f, fd, h1, h2, h3, h4, h5⟩ := Fn
  exact de_fn0 h1 hgd hr hg h2 h3 h4 hdb
theorem de_fnKC {ks : List Str} {ix : List Nat} (Fn : FnC X.prog X.w X.K X.mg X.base k x ps nbs S) (hq : (ks, ix) ∈ nbs) (hgd : X.A.guards = some []) (hr : Room k X.A) (ha : DK X kws tk) (hg : Gl X x := by rfl) (hall : (backToKw pos (keywordEach kws X.env)).all (·.1.isSome) = true := by rfl) (hks : (backToKw pos (keywordEach kws X.env)).filterMap (·.1) = ks := by rfl)
    (hdb : (x == ("__debug__" : Str)) = false := by decide) (hpl : ((backTo pos (starEach [] X.env)).any (·.1) || (backToKw pos (keywordEach kws X.env)).any (·.1.isNone)) = false := by rfl) : DE X (.Call (.Name x pf) [] kws pos) (pFnK S ks.length ix tk) := by
  obtain ⟨f, fd, h1, h2, h3, h4, h5⟩ := Fn
  exact de_fnK h1 hgd hr hg h2 h3 (h5 _ hq) ha hall hks hdb hpl
/-- a call whose arguments may be containers of one's own, borrowed; what comes back holds no reference -/
def flatD : D → Bool
  | .non | .bl _ | .int _ | .str _ => true
  | _ => false
theorem flat_rep {c : Cfg} {F F' : Hp} {v : V} {d : D} (h : flatD d = true) (r : Rep c F v d) : Rep c F' v d := by
  cases r <;> first | (cases h; done) | constructor
def pFnB (S : Spec) (t : TPA) : TPE := fun ρ n R => t ρ n fun ds m => callZ S ds m (fun z k => flatD z = true ∧ R z k) (shut fun z k => flatD z = true ∧ R z k)
theorem borrow {g : G} {n : Nat} {F H : Hp} {σ : L2.St} {ρ : PEnv} (ok : Ok g n F H σ ρ) : ∀ {vs : List V} {ds : List D}, RRs g F σ ρ vs ds → ∃ F', Same F F' ∧ Same F' H ∧ (∀ b, g.c.fp b → F' b = none) ∧ (∀ b, F' b ≠ none → H b ≠ none) ∧ Reps g.c F' vs ds
  | _, _, .nil => ⟨F, Same.refl F, ok.sub, ok.ffp, fun b h z => h (ok.freeF z), .nil⟩
  | _, _, .cons r rs => by
    obtain ⟨F1, s1, h1, f1, n1, r1⟩ := borrow ok rs
    rcases r with r | ⟨i, hi, hs⟩
    · exact ⟨F1, s1, h1, f1, n1, .cons (r.mono s1) r1⟩
    · obtain ⟨a, x, e, q1, q2, q3, q4, q5⟩ := ok.cells i _ hi
      rw [hs] at e
      cases e
      cases z : F1 a with
      | some y =>
        have e1 := h1 _ _ z
        rw [q1] at e1
        cases e1
        exact ⟨F1, s1, h1, f1, n1, .cons ((q5.mono s1).rep z) r1⟩
      | none =>
        refine ⟨upd F1 a x, s1.trans (same_upd z), fun b y hb => ?_, fun b hb => ?_, fun b hb => ?_, .cons ((q5.mono (s1.trans (same_upd z))).rep upd_same) (r1.mono (same_upd z))⟩
        · by_cases e : b = a
          · subst e; rw [upd_same] at hb; cases hb; exact q1
          · rw [upd_ne e] at hb; exact h1 b y hb
        · have ne : b ≠ a := fun z => by subst z; exact q4.1 hb
          rw [upd_ne ne]; exact f1 b hb
        · by_cases e : b = a
          · subst e; rw [q1]; exact fun z => nomatch z
          · rw [upd_ne e] at hb; exact n1 b hb
theorem de_fnB (Fn : FnC X.prog X.w X.K X.mg X.base k x ps nbs S) (hgd : X.A.guards = some []) (hr : Room k X.A) (ha : SA X (e :: es) t) (hg : Gl X x := by rfl) (hdb : (x == ("__debug__" : Str)) = false := by decide)
    (he : starEach (e :: es) X.env = (false, eval e X.env) :: starEach es X.env := by rfl) (hpl : (backTo pos (starEach es X.env)).any (·.1) = false := by rfl) : DE X (.Call (.Name x pf) (e :: es) [] pos) (pFnB S t) := by
  obtain ⟨f, fd, h1, h2, h3, h4, h5⟩ := Fn
  refine fun g hK => (pe_callG (E := fun _ _ _ => False) h1 hgd hr hg h2 h3 h4 (ha g hK) hdb he hpl).imp fun σ H Q ⟨n, F, ρ, R, ok, hq, k⟩ => ?_
  refine ⟨n, F, ρ, _, ok, hq, fun n1 F1 H1 vs ds s1 ok1 r1 q1 => ?_⟩
  obtain ⟨F2, s2, sb, f2, _, r2⟩ := borrow ok1 r1
  rw [← hK]
  refine ⟨g.c, n1, F2, ds, _, rfl, sb, f2, ok1.dk, r2, q1, fun n' F' H' v d a1 a2 a3 a4 a5 a6 rv hR => ?_⟩
  have ok' : Ok g n' F1 H' σ ρ := ok1.after (Same.refl _) a2 ((s2.trans a1).trans a3) ok1.ffp (fun b _ z => z) a6
  exact k n' F1 H' v d s1 ok' (flat_rep hR.1 rv) hR.2
end
/-- the built-ins' names stand for the built-ins -/
structure BI (mg : Str → Option Value) : Prop where
  len : mg "len" = none
  range : mg "range" = none
  enumerate : mg "enumerate" = none
  zip : mg "zip" = none
  repr : mg "repr" = none
  int : mg "int" = none
  list : mg "list" = none
  tuple : mg "tuple" = none
  isinstance : mg "isinstance" = none
  bool : mg "bool" = none
  str : mg "str" = none
  dict : mg "dict" = none
  abs : mg "abs" = none
  max : mg "max" = none
  min : mg "min" = none
  all : mg "all" = none
  any : mg "any" = none
  sum : mg "sum" = none
  set : mg "set" = none
  sorted : mg "sorted" = none
end PL

/-! PL: lemmas about the pure readings. -/
namespace PL
open PySem PySem.Spec L2
theorem intsD_zero (lo : Int) : intsD lo 0 = [] := rfl
theorem intsD_succ (lo : Int) (n : Nat) : intsD lo (n + 1) = .int lo :: intsD (lo + 1) n := by
  unfold intsD
  rw [List.range_succ_eq_map, List.map_cons, List.map_map]
  congr 1
  · simp
  · apply List.map_congr_left
    intro i _
    show D.int (lo + ((i + 1 : Nat) : Int)) = D.int (lo + 1 + (i : Int))
    congr 1
    omega
theorem intsD_len (lo : Int) (n : Nat) : (intsD lo n).length = n := by unfold intsD; rw [List.length_map, List.length_range]
theorem forW_nil (t : TPG) (b : TPS) (P : Post) (ρ : PEnv) (n : Nat) : forW t b [] P ρ n = P.nx ρ n := rfl
theorem forW_cons (t : TPG) (b : TPS) (d : D) (ds : List D) (P : Post) (ρ : PEnv) (n : Nat) : forW t b (d :: ds) P ρ n = t d ρ n fun ρ1 n1 => b { nx := forW t b ds P, ct := forW t b ds P, bk := P.nx, rt := P.rt } ρ1 n1 := rfl
theorem lcW_nil (t : TPG) (tt : TPT) (te : TPE) (acc : List D) (ρ : PEnv) (n : Nat) (R : List D → Nat → Prop) : lcW t tt te [] acc ρ n R = R acc n := rfl
theorem lcW_cons (t : TPG) (tt : TPT) (te : TPE) (d : D) (ds acc : List D) (ρ : PEnv) (n : Nat) (R : List D → Nat → Prop) : lcW t tt te (d :: ds) acc ρ n R = t d ρ n fun ρ1 n1 => tt ρ1 n1 fun b n2 => if b = true then te ρ1 n2 fun y n3 => lcW t tt te ds (acc ++ [y]) ρ n3 R else lcW t tt te ds acc ρ n2 R := rfl
/-- a comprehension whose element is a function of the item -/
theorem lcW_map {t : TPG} {te : TPE} {f : D → D} {ρ : PEnv} (ds : List D) (h : ∀ d ∈ ds, ∀ n R, R (f d) n → t d ρ n fun ρ1 n1 => te ρ1 n1 R) (acc : List D) (n : Nat) (R : List D → Nat → Prop) (hR : R (acc ++ ds.map f) n) (mt : ∀ d n S S', (∀ ρ n, S ρ n → S' ρ n) → t d ρ n S → t d ρ n S') : lcW t pYes te ds acc ρ n R := by
  induction ds generalizing acc with
  | nil => simpa [lcW] using hR
  | cons d ds ih =>
    rw [lcW_cons]
    refine mt d n _ _ (fun ρ1 n1 q => ?_) (h d List.mem_cons_self n (fun y n3 => lcW t pYes te ds (acc ++ [y]) ρ n3 R) (ih (fun d hd => h d (List.mem_cons_of_mem _ hd)) (acc ++ [f d]) (by simpa using hR)))
    simp only [pYes, if_true]
    exact q
theorem gSet_mono {i : Nat} {d : D} {ρ : PEnv} {n : Nat} {S S' : PEnv → Nat → Prop} (h : ∀ ρ n, S ρ n → S' ρ n) (q : gSet i d ρ n S) : gSet i d ρ n S' := h _ _ q
theorem getElem?_last {α : Type} (l : List α) (x : α) : (l ++ [x])[l.length]? = some x := by simp
theorem atI_lastD (l : List D) (x : D) : atI (l ++ [x]) (-1) = some x := atI_last l x
theorem sizeLine_val : sizeLine = 16777216 := sizeLine_eq
theorem fmod_pos {a b : Int} (h : 0 < b) : a.fmod b = a % b := Int.fmod_eq_emod_of_nonneg a (by omega)
theorem fdiv_pos {a b : Int} (h : 0 < b) : a.fdiv b = a / b := Int.fdiv_eq_ediv_of_nonneg a (by omega)
theorem MulOk.left {i j : Int} (h1 : -(2 ^ 64) < i) (h2 : i < 2 ^ 64) : MulOk i j := .small (.inl ⟨h1, h2⟩)
theorem MulOk.right {i j : Int} (h1 : -(2 ^ 64) < j) (h2 : j < 2 ^ 64) : MulOk i j := .small (.inr ⟨h1, h2⟩)
end PL

/-! PL: the law's own def, and its deck. -/
namespace PL
open PySem PySem.Spec L2
open PyProof.Rows (envOfC)
/-- what the law promises -/
def spL (K : PySem.W.Frag) : Sp := fun vs H Q _ => ∃ (a : Addr) (ns : List Int), vs = [.ref a] ∧ Only H ∧ SqL K H a (ns.map V.int) ∧ ns.length ≤ 63 ∧ ∀ H', Q (.bl true) H'
abbrev cfg0 (K : PySem.W.Frag) (dd de : Addr) : Cfg := ⟨K, dd, de⟩
/-- what the making of a deck promises -/
def spDeck (K : PySem.W.Frag) : Sp := fun vs H Q _ => ∃ (a : Addr) (ns : List Int), vs = [.ref a] ∧ SqL K H a (ns.map V.int) ∧ ns.length ≤ 63 ∧ ∀ H' dd de, DeckAt (cfg0 K dd de) 0 H' → Q (.ref dd) H'
def tDeck (K : PySem.W.Frag) : TS := fun D σ H => ∃ (a : Addr) (ns : List Int), σ[0]? = some (some (.ref a)) ∧ SqL K H a (ns.map V.int) ∧ ns.length ≤ 63 ∧ ∀ H' dd de, DeckAt (cfg0 K dd de) 0 H' → D.nx (σ.set 1 (some (.ref dd))) H'
section
variable {P : Program} {w : World} {K : PySem.W.Frag} {mg : Str → Option Value} {base : Heap}
theorem ps_deck {X : Cx} {k : Nat} {f : Addr} {fd : FuncData} {x0 x y z : Str} {pf p1 p2 pos cpos : Pos} (Fn : FnG X.prog X.w X.K X.mg X.base k f fd [z] (spDeck X.K)) (hgd : X.A.guards = some []) (hr : Room k X.A) (hN : X.N.Nodup) (hm : X.mg x = some (.ref f)) (hk : PySem.W.keepIn X.K (.ref f) = true) (hb : Binds X.K fd [z] [])
    (h0 : PE X (.Name x0 p1) (tVar 0)) (hx : Loc X.env.scope y) (hg : Gl X x := by rfl) (hi : X.N[1]? = some y := by rfl) (hs : swapsWith (.Call (.Name x pf) [.Name x0 p1] [] cpos) (some (.Name y p2)) pos.line X.env = pure false := by rfl) (hf : X.fn y = true ∨ X.env.scope.names.lookup y = some .local := by first | exact .inl rfl | exact .inr rfl)
    (hdb : (x == ("__debug__" : Str)) = false := by decide) (he : starEach [.Name x0 p1] X.env = (false, eval (.Name x0 p1) X.env) :: starEach [] X.env := by rfl) :
    PS X (.Assign [.Name y p2] (.Call (.Name x pf) [.Name x0 p1] [] cpos) pos) (tDeck X.K) :=
  (ps_set (i := 1) hN hi hx (pe_callG (E := fun _ _ _ => False) Fn hgd hr hg hm hk hb (pa_cons h0 pa_nil he) hdb he rfl) hs hf).imp fun D σ H ⟨a, ns, h1, h2, h3, h4⟩ => ⟨.ref a, h1, a, ns, rfl, h2, h3, fun H' dd de q => h4 H' dd de q⟩
theorem law_of {st : Stmt} {f : Addr} {fd : FuncData} {N : List Str} {z : Str} {k : Nat} {s1 : Stmt} {rest : List Stmt} (Fu : Fun K "law" "law" st f fd) (sc : FnScope N [z] (defScope st)) (hs : defBody st = s1 :: rest)
    (hbody : ∀ (cdv : Value) (A : Around) (outer : List Env) (s : Shared) (H : Hp) (E : XK), A.guards = some [] → Room k (A.deeper (envOfC "law" (defScope st) s.heap.objs.size f cdv)) →
      PS (cxOf CX0 P w K mg base N "law" (defScope st) f cdv A outer s H E).nox s1 (tDeck K) ∧ ∃ q, DSs (cxOf CX0 P w K mg base N "law" (defScope st) f cdv A outer s H E).nox rest q ∧ q { nx := fun _ _ => False, rt := fun d _ => d = .bl true } ((List.replicate N.length Cell.any).set 1 (.sh .res)) 0) : FnG P w K mg base (k + 1) f fd [z] (spL K) := by
  have hpl : 1 ≤ N.length := by have := congrArg List.length sc.pre; rw [List.length_take] at this; simp at this; omega
  refine Fu.okG sc (fun vs H Q E h => ?_) (fun cdv A outer s H vs Q E hgd hr h => ?_)
  · obtain ⟨a, ns, rfl, _⟩ := h
    rfl
  · obtain ⟨a, ns, rfl, hO, hS, hl, hq⟩ := h
    obtain ⟨h1, q, h2, h3⟩ := hbody cdv A outer s H E hgd hr
    refine ⟨tSeq (tDeck K) (fun D σ H => ∃ g : G, g.c.K = K ∧ LS g q D σ H), ?_, a, ns, ?_, hS, hl, fun H' dd de hd => ?_⟩
    · rw [hs]
      exact pss_cons h1 ⟨fun pins s σ H D I ⟨g, hK, hh⟩ => (h2 g hK).run pins s σ H D I hh⟩
    · unfold L2.start; rfl
    · refine ⟨⟨cfg0 K dd de, fun _ => none, fun _ => none, fun _ => none⟩, rfl, 0, fun _ => none, _, _, ?_, h3, ?_⟩
      · have hlen : (L2.start N [V.ref a]).length = N.length := by unfold L2.start; simp; omega
        refine ⟨fun b x e _ => (by cases e), fun b x e => (by cases e), fun _ _ => rfl, fun _ _ _ => rfl, hd, fun b x e => (by cases e), by rw [List.length_set, List.length_set, List.length_replicate, hlen], fun i c e => ?_, Same.refl _, fun i j d e o h1 _ _ _ => ?_⟩
        · rcases getD_set e with ⟨rfl, rfl⟩ | ⟨ne, e⟩
          · exact ⟨_, set_same (by rw [hlen]; have := lt_of_set e; rwa [List.length_replicate] at this), .res⟩
          · rw [List.getElem?_replicate] at e
            split at e
            · cases e; trivial
            · cases e
        · exfalso
          rcases getD_set h1 with ⟨_, z⟩ | ⟨_, h1⟩
          · cases z
          · rw [List.getElem?_replicate] at h1
            split at h1 <;> cases h1
      · refine ⟨fun _ _ _ _ _ _ _ h => h.elim, fun n' F' H' σ' ρ' v d s ok r h => ?_, fun _ _ _ _ _ _ _ h => h.elim, fun _ _ _ _ _ _ _ h => h.elim⟩
        have h : d = .bl true := h
        subst h
        cases r
        exact hq H'
end
end PL

/-! PL: equations for == and repr. -/
namespace PL
open PySem PySem.Spec L2
mutual
def niceD : D → Bool
  | .non | .bl _ => true
  | .int i => decide (i.natAbs < 2 ^ 1900)
  | .str s => s.cps.toList.all (· < 1114112) && PyData.strOk s
  | .lst ds => niceL ds
  | .tup ds => niceL ds
  | _ => false
def niceL : List D → Bool
  | [] => true
  | d :: ds => niceD d && niceL ds
end
mutual
def bulkD : D → Nat
  | .str s => s.cps.size
  | .lst ds => bulkL ds
  | .tup ds => bulkL ds
  | _ => 0
def bulkL : List D → Nat
  | [] => 0
  | d :: ds => bulkD d + 1 + bulkL ds
end
mutual
def depD : D → Nat
  | .lst ds => depL ds + 1
  | .tup ds => depL ds + 1
  | _ => 1
def depL : List D → Nat
  | [] => 0
  | d :: ds => max (depD d) (depL ds)
end
mutual
def pyD : D → PyData
  | .non => .none
  | .bl b => .bool b
  | .int i => .int i
  | .str s => .str s
  | .lst ds => .list (pyDs ds)
  | .tup ds => .tuple (pyDs ds)
  | _ => .none
def pyDs : List D → List PyData
  | [] => []
  | d :: ds => pyD d :: pyDs ds
end
theorem log2_of_lt {i : Int} (h : i.natAbs < 2 ^ 1900) : i.natAbs.log2 < 1920 := by
  have := PySem.Flt.log2_lt_of (n := i.natAbs) (k := 1900) (by decide) h
  omega
mutual
theorem nice_all : ∀ d : D, niceD d = true → d.py = some (pyD d) ∧ (pyD d).showable = true ∧ (pyD d).canLay0 = true ∧ (pyD d).depth ≤ depD d ∧ (pyD d).bulk = bulkD d ∧ (pyD d).leavesShort 2000 = true
  | .non, _ => by simp [D.py, pyD, PyData.showable, PyData.canLay0, PyData.depth, depD, PyData.bulk, bulkD, PyData.leavesShort]
  | .bl _, _ => by simp [D.py, pyD, PyData.showable, PyData.canLay0, PyData.depth, depD, PyData.bulk, bulkD, PyData.leavesShort]
  | .int i, h => by
    have h : i.natAbs < 2 ^ 1900 := by simpa [niceD] using h
    have h2 := log2_of_lt h
    have h3 : (PyData.shown (.int i)).length ≤ 2000 := by
      have := int_text_length_le (a := i) (k := 1920) (by decide) h2
      show (Str.ofString (toString i)).length ≤ 2000
      rw [ofString_length]; omega
    exact ⟨by simp [D.py, pyD], by simp only [pyD, PyData.showable]; exact decide_eq_true h2, by simp [pyD, PyData.canLay0], by simp [pyD, PyData.depth, depD], by simp [pyD, PyData.bulk, bulkD], by simp only [pyD, PyData.leavesShort]; exact decide_eq_true h3⟩
  | .str s, h => by
    have h : s.cps.toList.all (· < 1114112) = true ∧ PyData.strOk s = true := by rw [niceD, Bool.and_eq_true] at h; exact h
    obtain ⟨h, hs⟩ := h
    refine ⟨by simp [D.py, pyD], by simp [pyD, PyData.showable], by rw [pyD, PyData.canLay0]; exact hs, by simp [pyD, PyData.depth, depD], by simp [pyD, PyData.bulk, bulkD], ?_⟩
    simp only [pyD, PyData.leavesShort]
    rw [List.all_eq_true] at h ⊢
    intro c hc
    have := of_decide_eq_true (h c hc)
    exact decide_eq_true (by omega)
  | .lst ds, h => by
    have h : niceL ds = true := by simpa only [niceD] using h
    obtain ⟨h1, h2, h3, h4, h5, h6⟩ := nice_allL ds h
    exact ⟨by rw [D.py, h1, pyD], by rw [pyD, PyData.showable]; exact h2, by rw [pyD, PyData.canLay0]; exact h3, by rw [pyD, PyData.depth, depD]; omega, by rw [pyD, PyData.bulk, bulkD]; exact h5, by rw [pyD, PyData.leavesShort]; exact h6⟩
  | .tup ds, h => by
    have h : niceL ds = true := by simpa only [niceD] using h
    obtain ⟨h1, h2, h3, h4, h5, h6⟩ := nice_allL ds h
    exact ⟨by rw [D.py, h1, pyD], by rw [pyD, PyData.showable]; exact h2, by rw [pyD, PyData.canLay0]; exact h3, by rw [pyD, PyData.depth, depD]; omega, by rw [pyD, PyData.bulk, bulkD]; exact h5, by rw [pyD, PyData.leavesShort]; exact h6⟩
  | .dic _ _, h => by simp [niceD] at h
  | .dit _ _, h => by simp [niceD] at h
  | .obj _ _, h => by simp [niceD] at h
  | .res, h => by simp [niceD] at h
theorem nice_allL : ∀ ds : List D, niceL ds = true → D.pyL ds = some (pyDs ds) ∧ PyData.showableAll (pyDs ds) = true ∧ PyData.canLayAll0 (pyDs ds) = true ∧ PyData.depthAll (pyDs ds) ≤ depL ds ∧ PyData.bulkAll (pyDs ds) = bulkL ds ∧ PyData.leavesShortAll 2000 (pyDs ds) = true
  | [], _ => by simp [D.pyL, pyDs, PyData.showableAll, PyData.canLayAll0, PyData.depthAll, depL, PyData.bulkAll, bulkL, PyData.leavesShortAll]
  | d :: ds, h => by
    have h : niceD d = true ∧ niceL ds = true := by simpa [niceL] using h
    obtain ⟨a1, a2, a3, a4, a5, a6⟩ := nice_all d h.1
    obtain ⟨b1, b2, b3, b4, b5, b6⟩ := nice_allL ds h.2
    exact ⟨by rw [D.pyL, a1, b1, pyDs], by rw [pyDs, PyData.showableAll, a2, b2]; rfl, by rw [pyDs, PyData.canLayAll0, a3, b3]; rfl, by rw [pyDs, PyData.depthAll, depL]; omega, by rw [pyDs, PyData.bulkAll, bulkL, a5, b5], by rw [pyDs, PyData.leavesShortAll, a6, b6]; rfl⟩
end
/-- a value that may be shown and compared -/
def okD (d : D) : Prop := niceD d = true ∧ depD d ≤ 60 ∧ bulkD d ≤ 8000
theorem okD.py {d : D} (h : okD d) : d.py = some (pyD d) := (nice_all d h.1).1
theorem okD.show {d : D} (h : okD d) : showOk (pyD d) := by
  obtain ⟨h1, h2, h3, h4, h5, h6⟩ := nice_all d h.1
  refine ⟨h2, by have := h.2.1; omega, ?_, .inl h3⟩
  have := PyData.shown_le_bulk 2000 (by decide) (pyD d) h6
  rw [h5] at this
  have := h.2.2
  rw [sizeLine_val]
  omega
theorem okD.shaped {d : D} (h : okD d) : SeqAt.shaped (pyD d) = true := by
  obtain ⟨h1, h2, h3, h4, h5, h6⟩ := nice_all d h.1
  have := h.2.1
  unfold SeqAt.shaped
  rw [h3, decide_eq_true (show (pyD d).depth ≤ 64 by omega)]
  rfl
theorem okD.refl {d : D} (h : okD d) : PyData.eqv (pyD d) (pyD d) = true := SeqAt.eqv_refl _ (nice_all d h.1).2.2.1
/-- repr of a value that may be shown -/
theorem oRepr_ok {d : D} (h : okD d) {R : D → Prop} (q : R (.str (pyD d).shown)) : oRepr [d] R := by
  simp only [oRepr, h.py]
  exact ⟨h.show, q⟩
theorem oEq_int (i j : Int) (R : D → Prop) : oEq (.int i) (.int j) R = R (.bl (decide (i = j))) := rfl
theorem oNe_int (i j : Int) (R : D → Prop) : oNe (.int i) (.int j) R = R (.bl (!decide (i = j))) := rfl
theorem oEq_str (i j : Str) (R : D → Prop) : oEq (.str i) (.str j) R = R (.bl (decide (i = j))) := rfl
theorem oNe_str (i j : Str) (R : D → Prop) : oNe (.str i) (.str j) R = R (.bl (!decide (i = j))) := rfl
theorem eqv_int (i j : Int) : PyData.eqv (.int i) (.int j) = decide (i = j) := by
  by_cases h : i = j
  · subst h; simp [PyData.eqv]
  · simp [PyData.eqv, h]
theorem eqv_str (i j : Str) : PyData.eqv (.str i) (.str j) = decide (i = j) := by
  by_cases h : i = j
  · subst h; simp [PyData.eqv]
  · simp [PyData.eqv, h]
theorem oEq_ok {d e : D} (h : okD d) (h' : okD e) {R : D → Prop} (q : R (.bl (PyData.eqv (pyD d) (pyD e)))) : oEq d e R := by
  unfold oEq
  split
  · simpa only [pyD, eqv_str] using q
  · simpa only [pyD, eqv_int] using q
  · rw [h.py, h'.py]
    exact ⟨h.shaped, h'.shaped, q⟩
theorem oNe_ok {d e : D} (h : okD d) (h' : okD e) {R : D → Prop} (q : R (.bl (!PyData.eqv (pyD d) (pyD e)))) : oNe d e R := by
  unfold oNe
  split
  · simpa only [pyD, eqv_str] using q
  · simpa only [pyD, eqv_int] using q
  · rw [h.py, h'.py]
    exact ⟨h.shaped, h'.shaped, q⟩
theorem str_self (s : Str) : (s == s) = true := by simp
end PL

/-! PL: the readings' equations, at whole arguments. -/
namespace PL
open PySem PySem.Spec L2
section
variable (ρ : PEnv) (n : Nat) (R : D → Nat → Prop) (Q : D → Prop) (W : Bool → Nat → Prop) (Z : List D → Nat → Prop) (P : Post) (p q r : TPE) (a b : TPT) (t u : TPA) (s s' : TPS)
theorem q_seq : pSeq s s' P ρ n = s { P with nx := s' P } ρ n := rfl
theorem q_next : pNext P ρ n = P.nx ρ n := rfl
theorem q_brk : pBrk P ρ n = P.bk ρ n := rfl
theorem q_cnt : pCnt P ρ n = P.ct ρ n := rfl
theorem q_ret : pRet p P ρ n = p ρ n P.rt := rfl
theorem q_ifs : pIfS a s s' P ρ n = a ρ n fun c m => if c = true then s P ρ m else s' P ρ m := rfl
theorem q_drop : pDrop p P ρ n = p ρ n fun _ m => P.nx ρ m := rfl
theorem q_asg (g : TPG) : pAsg p g P ρ n = p ρ n fun d m => g d ρ m P.nx := rfl
theorem q_own (i : Nat) : pOwnS i p P ρ n = p ρ n fun d m => P.nx (ρ.set i (.own d)) m := rfl
theorem q_par (i j : Nat) : pPar i j t P ρ n = t ρ n fun ds m => match ds with | [d, e] => P.nx ((ρ.set i (.sh d)).set j (.sh e)) m | _ => False := rfl
theorem q_par3 (i j l : Nat) : pPar3 i j l t P ρ n = t ρ n fun ds m => match ds with | [d, e, f] => P.nx (((ρ.set i (.sh d)).set j (.sh e)).set l (.sh f)) m | _ => False := rfl
theorem q_append (i : Nat) : pAppend i p P ρ n = match ρ[i]? with | some (.own (.lst ds)) => p ρ n fun d m => ds.length < sizeLine ∧ P.nx (ρ.set i (.own (.lst (ds ++ [d])))) m | _ => False := rfl
theorem q_for (g : TPG) : pFor t g s P ρ n = t ρ n fun ds m => forW g s ds P ρ m := rfl
theorem q_gset (i : Nat) (d : D) (S : PEnv → Nat → Prop) : gSet i d ρ n S = S (ρ.set i (.sh d)) n := rfl
theorem q_gtup (k : Nat) (g : TPGs) (ds : List D) (S : PEnv → Nat → Prop) : gTup' k g (.tup ds) ρ n S = (ds.length = k ∧ g ds ρ n S) := rfl
theorem q_gcons (g : TPG) (gs : TPGs) (d : D) (ds : List D) (S : PEnv → Nat → Prop) : gCons' g gs (d :: ds) ρ n S = g d ρ n fun ρ1 m => gs ds ρ1 m S := rfl
theorem q_gnil (S : PEnv → Nat → Prop) : gNil' [] ρ n S = S ρ n := by simp [gNil']
theorem q_aug (i : Nat) (o : O2) : pAug i o p P ρ n = match ρ[i]? with | some (.sh d) => p ρ n fun e m => o d e fun z => P.nx (ρ.set i (.sh z)) m | _ => False := rfl
theorem q_var (i : Nat) : pVar i ρ n R = match ρ[i]? with | some (.sh d) => R d n | _ => False := rfl
theorem q_rd (i : Nat) : pRd i ρ n R = match ρ[i]? with | some (.sh d) => R d n | some (.own d) => R d n | _ => False := rfl
theorem q_c (d : D) : pC d ρ n R = R d n := rfl
theorem q_bin (o : O2) : pBin o p q ρ n R = p ρ n fun d n1 => q ρ n1 fun e n2 => o d e fun z => R z n2 := rfl
theorem q_un (f : Int → D) : pUn f p ρ n R = p ρ n fun d n1 => match d with | .int i => R (f i) n1 | _ => False := rfl
theorem q_b : pB p ρ n W = p ρ n fun d m => match d with | .bl c => W c m | _ => False := rfl
theorem q_not : pNot a ρ n W = a ρ n fun c m => W (!c) m := rfl
theorem q_and : pAnd a b ρ n W = a ρ n fun c m => if c = true then b ρ m W else W false m := rfl
theorem q_or : pOr a b ρ n W = a ρ n fun c m => if c = true then W true m else b ρ m W := rfl
theorem q_andv : pAndV p q ρ n R = p ρ n fun d m => match d with | .bl c => if c = true then q ρ m R else R (.bl false) m | _ => False := rfl
theorem q_orv : pOrV p q ρ n R = p ρ n fun d m => match d with | .bl c => if c = true then R (.bl true) m else q ρ m R | _ => False := rfl
theorem q_notv : pNotV p ρ n R = p ρ n fun d m => match d with | .bl c => R (.bl (!c)) m | _ => False := rfl
theorem q_if : pIf a p q ρ n R = a ρ n fun c m => if c = true then p ρ m R else q ρ m R := rfl
theorem q_nil : pNil ρ n Z = Z [] n := rfl
theorem q_cons : pCons p t ρ n Z = p ρ n fun d m => t ρ m fun ds k => Z (d :: ds) k := rfl
theorem q_consts (ds : List D) : pConsts ds ρ n Z = Z ds n := rfl
theorem q_tup : pTup t ρ n R = t ρ n fun ds m => ds.length ≤ sizeLine ∧ R (.tup ds) m := rfl
theorem q_lst : pLst t ρ n R = t ρ n fun ds m => ds.length ≤ sizeLine ∧ R (.lst ds) m := rfl
theorem q_sl (l h : TPO) : pSl p l h ρ n R = p ρ n fun d n1 => l ρ n1 fun lo n2 => h ρ n2 fun hi n3 => oSl d lo hi fun z => R z n3 := rfl
theorem q_no (S : Option Int → Nat → Prop) : pNo ρ n S = S none n := rfl
theorem q_part (S : Option Int → Nat → Prop) : pPart p ρ n S = p ρ n fun d m => match d with | .int i => S (some i) m | _ => False := rfl
theorem q_rev : pRev p ρ n R = p ρ n fun d m => match d with | .lst ds => R (.lst ds.reverse) m | _ => False := rfl
theorem q_call (o : OL) : pCall o t ρ n R = t ρ n fun ds m => o ds fun z => R z m := rfl
theorem q_fn (S : Spec) : pFn S t ρ n R = t ρ n fun ds m => callZ S ds m R (shut R) := rfl
theorem q_fnb (S : Spec) : pFnB S t ρ n R = t ρ n fun ds m => callZ S ds m (fun z k => flatD z = true ∧ R z k) (shut fun z k => flatD z = true ∧ R z k) := rfl
theorem q_fnk (S : Spec) (k : Nat) (ix : List Nat) : pFnK S k ix t ρ n R = t ρ n fun ds n1 => ds.length = k ∧ callZ S (picks ix ds) n1 R (shut R) := rfl
theorem q_isi (T : String) : pIsi T p ρ n R = p ρ n fun d m => match tyName d with | some t => (match kitB t T with | some c => R (.bl c) m | none => False) | none => False := rfl
theorem q_join : pJoin p q ρ n R = p ρ n fun d m => match d with
  | .str s => q ρ m fun e k => match e with
    | .lst xs => (match asStrs xs with | some ys => (ys.map (·.length)).sum + ys.length * s.length ≤ 16777216 ∧ R (.str (Txt.join s ys)) k | none => False)
    | .tup xs => (match asStrs xs with | some ys => (ys.map (·.length)).sum + ys.length * s.length ≤ 16777216 ∧ R (.str (Txt.join s ys)) k | none => False)
    | _ => False
  | _ => False := rfl
theorem q_lc (g : TPG) (vs : List Nat) : pLc t g a p vs ρ n R = t ρ n fun ds m => ds.length ≤ sizeLine ∧ noOwn ρ vs = true ∧ lcW g a p ds [] (wipeC ρ vs) m fun acc k => R (.lst acc) k := rfl
theorem q_yes : pYes ρ n W = W true n := rfl
theorem q_r1 : pRange1 t ρ n Z = t ρ n fun ds m => match ds with | [.int j] => -(2 ^ 62) ≤ j ∧ j < 2 ^ 62 ∧ Z (intsD 0 j.toNat) m | _ => False := rfl
theorem q_r2 : pRange2 t ρ n Z = t ρ n fun ds m => match ds with | [.int i, .int j] => (-(2 ^ 62) ≤ i ∧ i < 2 ^ 62 ∧ -(2 ^ 62) ≤ j ∧ j < 2 ^ 62) ∧ Z (intsD i (j - i).toNat) m | _ => False := rfl
theorem q_iter : pIter p ρ n Z = p ρ n fun d m => match itemsOf d with | some ds => Z ds m | none => False := by
  unfold pIter
  congr 1
  funext d m
  cases d <;> rfl
theorem q_enum : pEnum t ρ n Z = t ρ n fun ds m => match ds with | [d] => (match itemsOf d with | some xs => Z (nums 0 xs) m | none => False) | _ => False := rfl
theorem q_enumk : pEnumK t u ρ n Z = t ρ n fun ds m => u ρ m fun ks m2 => match ds, ks with | [d], [.int k0] => -(2 ^ 63) ≤ k0 ∧ k0 < 2 ^ 63 ∧ (match itemsOf d with | some xs => Z (nums k0 xs) m2 | none => False) | _, _ => False := rfl
theorem q_zip : pZip t ρ n Z = t ρ n fun ds m => match ds with | [.lst xs, .lst ys] => Z (pairs xs ys) m | [.tup xs, .tup ys] => Z (pairs xs ys) m | _ => False := rfl
-- operators on what is known
variable (i j : Int) (x y : Str) (ds es : List D)
theorem o_add_int : oAdd (.int i) (.int j) Q = Q (.int (i + j)) := rfl
theorem o_add_str : oAdd (.str x) (.str y) Q = (x.length + y.length ≤ sizeLine ∧ Q (.str (x ++ y))) := rfl
theorem o_add_lst : oAdd (.lst ds) (.lst es) Q = (ds.length + es.length ≤ sizeLine ∧ Q (.lst (ds ++ es))) := rfl
theorem o_add_tup : oAdd (.tup ds) (.tup es) Q = (ds.length + es.length ≤ sizeLine ∧ Q (.tup (ds ++ es))) := rfl
theorem o_sub : oSub (.int i) (.int j) Q = Q (.int (i - j)) := rfl
theorem o_mul_int : oMul (.int i) (.int j) Q = (MulOk i j ∧ Q (.int (i * j))) := rfl
theorem o_mul_lst (k : Int) : oMul (.lst ds) (.int k) Q = (-(2 ^ 63) ≤ k ∧ k < 2 ^ 63 ∧ ds.length * k.toNat ≤ sizeLine ∧ Q (.lst (List.replicate k.toNat ds).flatten)) := rfl
theorem o_mod : oMod (.int i) (.int j) Q = (j ≠ 0 ∧ Q (.int (i.fmod j))) := rfl
theorem o_div : oDiv (.int i) (.int j) Q = (DivOk i j ∧ Q (.int (i.fdiv j))) := rfl
theorem o_pow : oPow (.int i) (.int j) Q = (CPow i j ∧ Q (.int (i ^ j.toNat))) := rfl
theorem o_lt_int : oLt (.int i) (.int j) Q = Q (.bl (decide (i < j))) := rfl
theorem o_lt_str : oLt (.str x) (.str y) Q = Q (.bl (decide (x.cps.toList < y.cps.toList))) := rfl
theorem o_le : oLe (.int i) (.int j) Q = Q (.bl (decide (i ≤ j))) := rfl
theorem o_gt : oGt (.int i) (.int j) Q = Q (.bl (decide (j < i))) := rfl
theorem o_ge : oGe (.int i) (.int j) Q = Q (.bl (decide (j ≤ i))) := rfl
theorem o_ix_lst : oIx (.lst ds) (.int i) Q = match atI ds i with | some z => Q z | none => False := rfl
theorem o_ix_tup : oIx (.tup ds) (.int i) Q = match atI ds i with | some z => Q z | none => False := rfl
theorem o_ix_str : oIx (.str x) (.int i) Q = (x.length ≤ sizeLine ∧ match atI x.cps.toList i with | some c => Q (.str ⟨#[c]⟩) | none => False) := rfl
theorem o_sl_lst (lo hi : Option Int) : oSl (.lst ds) lo hi Q = Q (.lst (cutL ds lo hi)) := rfl
theorem o_sl_tup (lo hi : Option Int) : oSl (.tup ds) lo hi Q = Q (.tup (cutL ds lo hi)) := rfl
theorem o_sl_str (lo hi : Option Int) : oSl (.str x) lo hi Q = (x.length ≤ sizeLine ∧ Q (.str (cutS x lo hi))) := rfl
theorem o_len_lst : oLen [.lst ds] Q = Q (.int ds.length) := rfl
theorem o_len_tup : oLen [.tup ds] Q = Q (.int ds.length) := rfl
theorem o_len_str : oLen [.str x] Q = (x.length ≤ sizeLine ∧ Q (.int x.length)) := rfl
theorem o_int_int : oIntA [.int i] Q = Q (.int i) := rfl
theorem o_int_bl (c : Bool) : oIntA [.bl c] Q = Q (.int (if c then 1 else 0)) := rfl
theorem o_int_str : oIntA [.str x] Q = (x.length ≤ 640 ∧ match PySem.intText? x with | some n => Q (.int n) | none => False) := rfl
theorem o_list_lst : oList [.lst ds] Q = Q (.lst ds) := rfl
theorem o_list_tup : oList [.tup ds] Q = Q (.lst ds) := rfl
theorem o_tuple_lst : oTuple [.lst ds] Q = Q (.tup ds) := rfl
theorem o_tuple_tup : oTuple [.tup ds] Q = Q (.tup ds) := rfl
theorem o_abs : oAbs [.int i] Q = Q (.int (if i < 0 then -i else i)) := rfl
theorem o_max : oMax2 [.int i, .int j] Q = Q (.int (if j > i then j else i)) := rfl
theorem o_min : oMin2 [.int i, .int j] Q = Q (.int (if j < i then j else i)) := rfl
theorem o_str : oStr [.int i] Q = (i.natAbs.log2 < 1920 ∧ Q (.str (toString i))) := rfl
theorem o_all : oAll [.lst ds] Q = match asBls ds with | some bs => Q (.bl (bs.all id)) | none => False := rfl
theorem o_any : oAny [.lst ds] Q = match asBls ds with | some bs => Q (.bl (bs.any id)) | none => False := rfl
theorem o_sum : oSum [.lst ds] Q = match asInts ds with | some bs => Q (.int bs.sum) | none => False := rfl
theorem o_aug_int : oI (fun i j R => R (.int (i + j))) (.int i) (.int j) Q = Q (.int (i + j)) := rfl
theorem i_lst : itemsOf (.lst ds) = some ds := rfl
theorem i_tup : itemsOf (.tup ds) = some ds := rfl
theorem i_str : itemsOf (.str x) = some (chars x) := rfl
theorem w_nil : wipeC ρ [] = ρ := rfl
theorem w_cons (v : Nat) (vs : List Nat) : wipeC ρ (v :: vs) = (wipeC ρ vs).set v .any := rfl
theorem pk_cons' {α : Type} (k : Nat) (ix : List Nat) (zs : List α) : picks (k :: ix) zs = match zs[k]? with | some z => z :: picks ix zs | none => picks ix zs := by
  unfold picks
  rw [List.filterMap_cons]
  cases zs[k]? <;> rfl
theorem pk_nil' {α : Type} (zs : List α) : picks [] zs = [] := rfl
theorem b_nd {a : Prop} [Decidable a] : ((!decide a) = true) = ¬ a := by simp
theorem callS_of {S : Spec} {ds : List D} (h : S ds n R) {u : Shut R} : callZ S ds n R u := h
end
end PL

/-! PL: freezing of one's own list, comprehensions that are kept, f-strings. -/
namespace PL
open PySem PySem.Spec L2
section
variable {X : Cx} {st : Stmt} {e : Expr} {es : List Expr} {p : TPE} {q : TPS} {pos : Pos}
/-- the list at i is one's own no more -/
def pFrz (i : Nat) (q : TPS) : TPS := fun P ρ n => match ρ[i]? with | some (.own d) => q P (ρ.set i (.sh d)) n | _ => q P ρ n
theorem ds_frz (i : Nat) (h : DS X st q) : DS X st (pFrz i q) := fun g hK => (h g hK).imp fun D σ H ⟨n, F, ρ, P, ok, h, k⟩ => by
  unfold pFrz at h
  split at h
  · next d e =>
    obtain ⟨F', s, ok'⟩ := ok.freeze e
    exact ⟨n, F', _, P, ok', h, k.mono s⟩
  · exact ⟨n, F, ρ, P, ok, h, k⟩
theorem q_frz (i : Nat) (q : TPS) (P : Post) (ρ : PEnv) (n : Nat) : pFrz i q P ρ n = match ρ[i]? with | some (.own d) => q P (ρ.set i (.sh d)) n | _ => q P ρ n := rfl
/-- a new list is put and frozen at once -/
theorem ds_setF {i : Nat} (h : DS X st (pOwnS i p)) : DS X st (pAsg p (gSet i)) := fun g hK => (h g hK).imp fun D σ H ⟨n, F, ρ, P, ok, h, k⟩ => by
  refine ⟨n, F, ρ, { P with nx := fun ρ' m => match ρ'[i]? with | some (.own d) => P.nx (ρ'.set i (.sh d)) m | _ => P.nx ρ' m }, ok, ?_, ⟨fun n1 F1 H1 σ1 ρ1 s1 ok1 h1 => ?_, k.rt, k.bk, k.ct⟩⟩
  · have h : p ρ n (fun d m => P.nx (ρ.set i (.sh d)) m) := h
    show p ρ n (fun d m => _)
    refine Eq.mp (congrArg (p ρ n) (funext fun d => funext fun m => ?_)) h
    by_cases hl : i < ρ.length
    · simp only [List.getElem?_set_self hl, List.set_set]
    · simp only [List.set_eq_of_length_le (Nat.le_of_not_lt hl), List.getElem?_eq_none (Nat.le_of_not_lt hl)]
  · revert h1
    dsimp only
    split
    · next d e =>
      intro h1
      obtain ⟨F', s, ok'⟩ := ok1.freeze e
      exact k.nx n1 F' H1 σ1 _ (s1.trans s) ok' h1
    · intro h1
      exact k.nx n1 F1 H1 σ1 ρ1 s1 ok1 h1
/-! ### f-strings -/
def pFmt (p : TPE) : TPE := fun ρ n R => p ρ n fun d m => match d with
  | .str s => s.length ≤ sizeLine ∧ R (.str s) m
  | .int i => i.natAbs.log2 < 1920 ∧ R (.str (toString i)) m
  | _ => False
theorem de_fmt (he : SE X e p) : DE X (.FormattedValue e (-1) none pos) (pFmt p) := fun g hK => (pe_fmt (he g hK)).imp fun σ H Q ⟨n, F, ρ, R, ok, hq, k⟩ => by
  refine ⟨n, F, ρ, _, ok, hq, fun n1 F1 H1 x d s1 ok1 r1 h1 => ?_⟩
  revert h1
  cases d <;> intro h1 <;> first | exact False.elim h1 | skip
  · exact .inr ⟨_, r1.int ok1, h1.1, k n1 F1 H1 _ _ s1 ok1 (.str _) h1.2⟩
  · exact .inl ⟨_, r1.str ok1, h1.1, k n1 F1 H1 _ _ s1 ok1 (.str _) h1.2⟩
inductive DJ (X : Cx) : List Expr → List TPE → Prop where
  | nil : DJ X [] []
  | cons {e : Expr} {p : TPE} {es : List Expr} {ps : List TPE} (h : DE X e p) (r : DJ X es ps) : DJ X (e :: es) (p :: ps)
def pJs : List TPE → Str → TPE
  | [], acc, _, n, R => R (.str acc) n
  | p :: ps, acc, ρ, n, R => p ρ n fun d m => match d with | .str y => (acc ++ y).length ≤ sizeLine ∧ pJs ps (acc ++ y) ρ m R | _ => False
theorem DJ.pj {ps : List TPE} (h : DJ X es ps) {g : G} (hK : g.c.K = X.K) : PJ X es (ps.map (LE g)) := by
  induction h with
  | nil => exact .nil
  | cons h _ ih => exact .cons (h g hK) ih
theorem js_sound {g : G} {σ : L2.St} {ρ : PEnv} {Q : V → Hp → Prop} : ∀ (ps : List TPE) (acc : Str) (n : Nat) (F H : Hp) (R : D → Nat → Prop), Ok g n F H σ ρ → pJs ps acc ρ n R → (∀ n' F' H' v d, Same F F' → Ok g n' F' H' σ ρ → Rep g.c F' v d → R d n' → Q v H') → tJs (ps.map (LE g)) acc σ H (fun out H1 => Q (.str out) H1)
  | [], acc, n, F, H, R, ok, h, k => k n F H _ _ (Same.refl F) ok (.str acc) h
  | p :: ps, acc, n, F, H, R, ok, h, k => ⟨n, F, ρ, _, ok, h, fun n1 F1 H1 v d s1 ok1 r1 h1 => by
      revert h1
      cases d <;> intro h1 <;> first | exact False.elim h1 | skip
      cases r1
      exact ⟨_, rfl, h1.1, js_sound ps _ n1 F1 H1 R ok1 h1.2 fun n2 F2 H2 v d s2 => k n2 F2 H2 v d (s1.trans s2)⟩⟩
theorem de_joined {v1 v2 : Expr} {rest : List Expr} {ps : List TPE} (h : DJ X (v1 :: v2 :: rest) ps) : DE X (.JoinedStr (v1 :: v2 :: rest) pos) (pJs ps Str.empty) := fun g hK => (pe_joined (h.pj hK)).imp fun σ H Q ⟨n, F, ρ, R, ok, hq, k⟩ => js_sound ps _ n F H R ok hq k
theorem de_joined1 (h : DE X e p) : DE X (.JoinedStr [e] pos) p := fun g hK => pe_joined1 (h g hK)
theorem q_fmt (ρ : PEnv) (n : Nat) (R : D → Nat → Prop) : pFmt p ρ n R = p ρ n fun d m => match d with
  | .str s => s.length ≤ sizeLine ∧ R (.str s) m
  | .int i => i.natAbs.log2 < 1920 ∧ R (.str (toString i)) m
  | _ => False := rfl
theorem q_js0 (acc : Str) (ρ : PEnv) (n : Nat) (R : D → Nat → Prop) : pJs [] acc ρ n R = R (.str acc) n := rfl
theorem q_js (ps : List TPE) (acc : Str) (ρ : PEnv) (n : Nat) (R : D → Nat → Prop) : pJs (p :: ps) acc ρ n R = p ρ n fun d m => match d with | .str y => (acc ++ y).length ≤ sizeLine ∧ pJs ps (acc ++ y) ρ m R | _ => False := rfl
end
end PL

/-! PL: comparing and showing, further. -/
namespace PL
open PySem PySem.Spec L2
theorem okD_nil : okD (.lst []) := ⟨by decide, by decide, by decide⟩
theorem oNe_nil {ds : List D} (h : okD (.lst ds)) {R : D → Prop} (q : R (.bl (!ds.isEmpty))) : oNe (.lst ds) (.lst []) R := by
  refine oNe_ok h okD_nil ?_
  cases ds with
  | nil => exact q
  | cons d ds => exact q
theorem oEq_nil {ds : List D} (h : okD (.lst ds)) {R : D → Prop} (q : R (.bl ds.isEmpty)) : oEq (.lst ds) (.lst []) R := by
  refine oEq_ok h okD_nil ?_
  cases ds with
  | nil => exact q
  | cons d ds => exact q
theorem oRepr_dic0 {R : D → Prop} (q : R (.str (PyData.dict []).shown)) : oRepr [.dic [] []] R := by
  simp only [oRepr, D.py]
  exact ⟨⟨by decide, by decide, by decide, .inr rfl⟩, q⟩
end PL

/-! PL: loops and comprehensions by an invariant. -/
namespace PL
open PySem PySem.Spec L2
/-- a comprehension without draws: filter and map -/
theorem lcW_flt {t : TPG} {tt : TPT} {te : TPE} {ρ : PEnv} {n : Nat} (p : D → Bool) (f : D → D) {R : List D → Nat → Prop} : ∀ (ds acc : List D), (∀ d ∈ ds, ∀ (acc : List D) (L : List D → Nat → Prop), (if p d = true then L (acc ++ [f d]) n else L acc n) → t d ρ n fun ρ1 n1 => tt ρ1 n1 fun b n2 => if b = true then te ρ1 n2 fun y n3 => L (acc ++ [y]) n3 else L acc n2) → R (acc ++ (ds.filter p).map f) n → lcW t tt te ds acc ρ n R
  | [], acc, _, hR => by simpa [lcW] using hR
  | d :: ds, acc, h, hR => by
    rw [lcW_cons]
    refine h d List.mem_cons_self acc (fun acc n => lcW t tt te ds acc ρ n R) ?_
    have ih := fun acc => lcW_flt p f (R := R) ds acc fun d hd => h d (List.mem_cons_of_mem _ hd)
    rw [List.filter_cons] at hR
    cases hp : p d with
    | true =>
      rw [hp, if_pos rfl] at hR
      rw [if_pos rfl]
      exact ih _ (by simpa using hR)
    | false =>
      rw [hp, if_neg (by decide)] at hR
      rw [if_neg (by decide)]
      exact ih _ hR
/-- a comprehension without a test and without draws -/
theorem lcW_m {t : TPG} {tt : TPT} {te : TPE} {ρ : PEnv} {n : Nat} (f : D → D) {R : List D → Nat → Prop} {ds : List D} (h : ∀ d ∈ ds, ∀ (acc : List D) (L : List D → Nat → Prop), L (acc ++ [f d]) n → t d ρ n fun ρ1 n1 => tt ρ1 n1 fun b n2 => if b = true then te ρ1 n2 fun y n3 => L (acc ++ [y]) n3 else L acc n2) (hR : R (ds.map f) n) : lcW t tt te ds [] ρ n R := by
  refine lcW_flt (fun _ => true) f ds [] (fun d hd acc L hL => h d hd acc L (by simpa using hL)) ?_
  rwa [List.nil_append, List.filter_eq_self.mpr (fun _ _ => rfl)]
/-- a comprehension that keeps nothing -/
theorem lcW_none {t : TPG} {tt : TPT} {te : TPE} {ρ : PEnv} {n : Nat} {R : List D → Nat → Prop} {ds acc : List D} (h : ∀ d ∈ ds, ∀ (acc : List D) (L : List D → Nat → Prop), L acc n → t d ρ n fun ρ1 n1 => tt ρ1 n1 fun b n2 => if b = true then te ρ1 n2 fun y n3 => L (acc ++ [y]) n3 else L acc n2) (hR : R acc n) : lcW t tt te ds acc ρ n R := by
  refine lcW_flt (fun _ => false) id ds acc (fun d hd acc L hL => h d hd acc L (by simpa using hL)) ?_
  rw [List.filter_eq_nil_iff.mpr (fun a _ => by decide), List.map_nil, List.append_nil]
  exact hR
/-- a comprehension with draws: each element is good, each costs at most c draws -/
theorem lcW_drw {t : TPG} {tt : TPT} {te : TPE} {ρ : PEnv} (c : Nat) (good : D → Prop) {R : List D → Nat → Prop} {ds : List D} {n : Nat} (h : ∀ d ∈ ds, ∀ (m : Nat) (acc : List D) (L : List D → Nat → Prop), n ≤ m → m + c ≤ n + c * ds.length → (∀ y k, good y → m ≤ k → k ≤ m + c → L (acc ++ [y]) k) → t d ρ m fun ρ1 n1 => tt ρ1 n1 fun b n2 => if b = true then te ρ1 n2 fun y n3 => L (acc ++ [y]) n3 else L acc n2) (hR : ∀ (ys : List D) (k : Nat), ys.length = ds.length → (∀ y ∈ ys, good y) → n ≤ k → k ≤ n + c * ds.length → R ys k) : lcW t tt te ds [] ρ n R := by
  have go : ∀ (es acc : List D) (m : Nat), (∀ d ∈ es, d ∈ ds) → acc.length + es.length = ds.length → (∀ y ∈ acc, good y) → n ≤ m → m ≤ n + c * acc.length → lcW t tt te es acc ρ m R := by
    intro es
    induction es with
    | nil =>
      intro acc m _ hl hg h1 h2
      exact hR acc m (by simpa using hl) hg h1 (by rw [← (show acc.length = ds.length by simpa using hl)]; exact h2)
    | cons d es ih =>
      intro acc m hs hl hg h1 h2
      rw [lcW_cons]
      have hl : acc.length + 1 + es.length = ds.length := by simpa [Nat.add_assoc, Nat.add_comm 1] using hl
      have hb : c * (acc.length + 1) ≤ c * ds.length := Nat.mul_le_mul_left _ (by omega)
      rw [Nat.mul_succ] at hb
      refine h d (hs d List.mem_cons_self) m acc (fun acc n => lcW t tt te es acc ρ n R) h1 (by omega) fun y k gy k1 k2 => ih _ _ (fun e he => hs e (List.mem_cons_of_mem _ he)) (by simp; omega) (fun z hz => ?_) (by omega) (by rw [List.length_append, List.length_singleton, Nat.mul_succ]; omega)
      rcases List.mem_append.mp hz with hz | hz
      · exact hg z hz
      · rw [show z = y by simpa using hz]; exact gy
  exact go ds [] n (fun d hd => hd) (by simp) (fun _ h => nomatch h) (Nat.le_refl _) (by simp)
/-- for, by an invariant over what is left -/
theorem forW_inv {t : TPG} {b : TPS} {P : Post} (I : List D → PEnv → Nat → Prop) {ds : List D} {ρ : PEnv} {n : Nat} (h0 : I ds ρ n) (step : ∀ (d : D) (ds : List D) (ρ : PEnv) (n : Nat) (L : PEnv → Nat → Prop), (∀ ρ' n', I ds ρ' n' → L ρ' n') → I (d :: ds) ρ n → t d ρ n fun ρ1 n1 => b { nx := L, ct := L, bk := P.nx, rt := P.rt } ρ1 n1) (fin : ∀ ρ n, I [] ρ n → P.nx ρ n) : forW t b ds P ρ n := by
  induction ds generalizing ρ n with
  | nil => exact fin _ _ h0
  | cons d ds ih => exact step d ds ρ n _ (fun ρ' n' h => ih h) h0
theorem atI0 {α : Type} (a : α) (l : List α) : atI (a :: l) 0 = some a := atI_nat (j := 0) rfl
theorem atI1 {α : Type} (a b : α) (l : List α) : atI (a :: b :: l) 1 = some b := atI_nat (j := 1) rfl
theorem atI2 {α : Type} (a b c : α) (l : List α) : atI (a :: b :: c :: l) 2 = some c := atI_nat (j := 2) rfl
theorem atI3 {α : Type} (a b c d : α) (l : List α) : atI (a :: b :: c :: d :: l) 3 = some d := atI_nat (j := 3) rfl
theorem kit_self (s : String) : kitB s s = some true := by unfold kitB; simp
theorem kk_NoneType_bool : kitB "NoneType" "bool" = some false := rfl
theorem kk_NoneType_int : kitB "NoneType" "int" = some false := rfl
theorem kk_NoneType_str : kitB "NoneType" "str" = some false := rfl
theorem kk_NoneType_list : kitB "NoneType" "list" = some false := rfl
theorem kk_NoneType_tuple : kitB "NoneType" "tuple" = some false := rfl
theorem kk_NoneType_dict : kitB "NoneType" "dict" = some false := rfl
theorem kk_bool_bool : kitB "bool" "bool" = some true := rfl
theorem kk_bool_int : kitB "bool" "int" = some true := rfl
theorem kk_bool_str : kitB "bool" "str" = some false := rfl
theorem kk_bool_list : kitB "bool" "list" = some false := rfl
theorem kk_bool_tuple : kitB "bool" "tuple" = some false := rfl
theorem kk_bool_dict : kitB "bool" "dict" = some false := rfl
theorem kk_int_bool : kitB "int" "bool" = some false := rfl
theorem kk_int_int : kitB "int" "int" = some true := rfl
theorem kk_int_str : kitB "int" "str" = some false := rfl
theorem kk_int_list : kitB "int" "list" = some false := rfl
theorem kk_int_tuple : kitB "int" "tuple" = some false := rfl
theorem kk_int_dict : kitB "int" "dict" = some false := rfl
theorem kk_str_bool : kitB "str" "bool" = some false := rfl
theorem kk_str_int : kitB "str" "int" = some false := rfl
theorem kk_str_str : kitB "str" "str" = some true := rfl
theorem kk_str_list : kitB "str" "list" = some false := rfl
theorem kk_str_tuple : kitB "str" "tuple" = some false := rfl
theorem kk_str_dict : kitB "str" "dict" = some false := rfl
theorem kk_list_bool : kitB "list" "bool" = some false := rfl
theorem kk_list_int : kitB "list" "int" = some false := rfl
theorem kk_list_str : kitB "list" "str" = some false := rfl
theorem kk_list_list : kitB "list" "list" = some true := rfl
theorem kk_list_tuple : kitB "list" "tuple" = some false := rfl
theorem kk_list_dict : kitB "list" "dict" = some false := rfl
theorem kk_tuple_bool : kitB "tuple" "bool" = some false := rfl
theorem kk_tuple_int : kitB "tuple" "int" = some false := rfl
theorem kk_tuple_str : kitB "tuple" "str" = some false := rfl
theorem kk_tuple_list : kitB "tuple" "list" = some false := rfl
theorem kk_tuple_tuple : kitB "tuple" "tuple" = some true := rfl
theorem kk_tuple_dict : kitB "tuple" "dict" = some false := rfl
theorem kk_dict_bool : kitB "dict" "bool" = some false := rfl
theorem kk_dict_int : kitB "dict" "int" = some false := rfl
theorem kk_dict_str : kitB "dict" "str" = some false := rfl
theorem kk_dict_list : kitB "dict" "list" = some false := rfl
theorem kk_dict_tuple : kitB "dict" "tuple" = some false := rfl
theorem kk_dict_dict : kitB "dict" "dict" = some true := rfl
theorem ty_non : tyName .non = some "NoneType" := rfl
theorem ty_bl (b : Bool) : tyName (.bl b) = some "bool" := rfl
theorem ty_int (b : Int) : tyName (.int b) = some "int" := rfl
theorem ty_str (b : Str) : tyName (.str b) = some "str" := rfl
theorem ty_lst (b : List D) : tyName (.lst b) = some "list" := rfl
theorem ty_tup (b : List D) : tyName (.tup b) = some "tuple" := rfl
theorem ty_dic (a : List Key) (b : List D) : tyName (.dic a b) = some "dict" := rfl
/-! ### == on data -/
mutual
def eqD : D → D → Bool
  | .non, .non => true
  | .bl a, .bl b => a == b
  | .bl a, .int j => (if a then 1 else 0) == j
  | .int i, .bl b => i == (if b then 1 else 0)
  | .int i, .int j => decide (i = j)
  | .str x, .str y => decide (x = y)
  | .lst xs, .lst ys => eqL xs ys
  | .tup xs, .tup ys => eqL xs ys
  | _, _ => false
def eqL : List D → List D → Bool
  | [], [] => true
  | x :: xs, y :: ys => eqD x y && eqL xs ys
  | _, _ => false
end
mutual
theorem eqD_py : ∀ d e : D, niceD d = true → niceD e = true → PyData.eqv (pyD d) (pyD e) = eqD d e
  | .non, e, h, h' => by cases e <;> first | rfl | (simp [niceD] at h'; done)
  | .bl a, e, h, h' => by cases e <;> first | rfl | (simp [niceD] at h'; done)
  | .int i, e, h, h' => by
    cases e with
    | int j => simp only [pyD, eqD, eqv_int]
    | _ => first | rfl | (simp [niceD] at h'; done)
  | .str x, e, h, h' => by
    cases e with
    | str j => simp only [pyD, eqD, eqv_str]
    | _ => first | rfl | (simp [niceD] at h'; done)
  | .lst xs, e, h, h' => by
    cases e with
    | lst ys =>
      simp only [pyD, eqD, PyData.eqv]
      exact eqL_py xs ys (by simpa [niceD] using h) (by simpa [niceD] using h')
    | _ => first | rfl | (simp [niceD] at h'; done)
  | .tup xs, e, h, h' => by
    cases e with
    | tup ys =>
      simp only [pyD, eqD, PyData.eqv]
      exact eqL_py xs ys (by simpa [niceD] using h) (by simpa [niceD] using h')
    | _ => first | rfl | (simp [niceD] at h'; done)
  | .dic _ _, _, h, _ => by simp [niceD] at h
  | .dit _ _, _, h, _ => by simp [niceD] at h
  | .obj _ _, _, h, _ => by simp [niceD] at h
  | .res, _, h, _ => by simp [niceD] at h
theorem eqL_py : ∀ d e : List D, niceL d = true → niceL e = true → PyData.eqvAll (pyDs d) (pyDs e) = eqL d e
  | [], e, h, h' => by cases e <;> rfl
  | d :: ds, [], h, h' => rfl
  | d :: ds, e :: es, h, h' => by
    have h1 : niceD d = true ∧ niceL ds = true := by simpa [niceL] using h
    have h2 : niceD e = true ∧ niceL es = true := by simpa [niceL] using h'
    simp only [pyDs, eqL, PyData.eqvAll, eqD_py d e h1.1 h2.1, eqL_py ds es h1.2 h2.2]
end
mutual
theorem eqD_refl : ∀ d : D, niceD d = true → eqD d d = true
  | .non, _ => rfl
  | .bl a, _ => by simp [eqD]
  | .int i, _ => by simp [eqD]
  | .str x, _ => by simp [eqD]
  | .lst xs, h => by rw [eqD]; exact eqL_refl xs (by simpa [niceD] using h)
  | .tup xs, h => by rw [eqD]; exact eqL_refl xs (by simpa [niceD] using h)
  | .dic _ _, h => by simp [niceD] at h
  | .dit _ _, h => by simp [niceD] at h
  | .obj _ _, h => by simp [niceD] at h
  | .res, h => by simp [niceD] at h
theorem eqL_refl : ∀ d : List D, niceL d = true → eqL d d = true
  | [], _ => rfl
  | d :: ds, h => by
    have h1 : niceD d = true ∧ niceL ds = true := by simpa [niceL] using h
    rw [eqL, eqD_refl d h1.1, eqL_refl ds h1.2]; rfl
end
mutual
/-- without bools -/
def purD : D → Bool
  | .bl _ => false
  | .lst xs => purL xs
  | .tup xs => purL xs
  | _ => true
def purL : List D → Bool
  | [] => true
  | d :: ds => purD d && purL ds
end
mutual
theorem eqD_eq : ∀ d e : D, purD d = true → purD e = true → eqD d e = true → d = e
  | .non, e, _, _, h => by cases e <;> first | rfl | cases h
  | .bl a, e, h, _, _ => by simp [purD] at h
  | .int i, e, _, h', h => by
    cases e with
    | int j => rw [show i = j by simpa [eqD] using h]
    | bl _ => simp [purD] at h'
    | _ => cases h
  | .str x, e, _, _, h => by
    cases e with
    | str j => rw [show x = j by simpa [eqD] using h]
    | _ => cases h
  | .lst xs, e, q, q', h => by
    cases e with
    | lst ys => rw [eqL_eq xs ys (by simpa [purD] using q) (by simpa [purD] using q') (by simpa [eqD] using h)]
    | _ => cases h
  | .tup xs, e, q, q', h => by
    cases e with
    | tup ys => rw [eqL_eq xs ys (by simpa [purD] using q) (by simpa [purD] using q') (by simpa [eqD] using h)]
    | _ => cases h
  | .dic _ _, e, _, _, h => by cases e <;> cases h
  | .dit _ _, e, _, _, h => by cases e <;> cases h
  | .obj _ _, e, _, _, h => by cases e <;> cases h
  | .res, e, _, _, h => by cases e <;> cases h
theorem eqL_eq : ∀ d e : List D, purL d = true → purL e = true → eqL d e = true → d = e
  | [], e, _, _, h => by cases e <;> first | rfl | cases h
  | d :: ds, [], _, _, h => by cases h
  | d :: ds, e :: es, q, q', h => by
    have h1 : purD d = true ∧ purL ds = true := by simpa [purL] using q
    have h2 : purD e = true ∧ purL es = true := by simpa [purL] using q'
    have h3 : eqD d e = true ∧ eqL ds es = true := by simpa [eqL] using h
    rw [eqD_eq d e h1.1 h2.1 h3.1, eqL_eq ds es h1.2 h2.2 h3.2]
end
theorem oEq_D {d e : D} (h : okD d) (h' : okD e) {R : D → Prop} (q : R (.bl (eqD d e))) : oEq d e R := oEq_ok h h' (by rwa [eqD_py d e h.1 h'.1])
theorem oNe_D {d e : D} (h : okD d) (h' : okD e) {R : D → Prop} (q : R (.bl (!eqD d e))) : oNe d e R := oNe_ok h h' (by rwa [eqD_py d e h.1 h'.1])
/-- both the same -/
theorem oNe_same {d : D} (h : okD d) {R : D → Prop} (q : R (.bl false)) : oNe d d R := oNe_D h h (by rwa [eqD_refl d h.1])
theorem oEq_same {d : D} (h : okD d) {R : D → Prop} (q : R (.bl true)) : oEq d d R := oEq_D h h (by rwa [eqD_refl d h.1])
theorem subL {s xs : List D} (h : s.Sublist xs) : (niceL xs = true → niceL s = true) ∧ depL s ≤ depL xs ∧ bulkL s ≤ bulkL xs := by
  induction h with
  | slnil => exact ⟨id, Nat.le_refl _, Nat.le_refl _⟩
  | cons a h ih =>
    obtain ⟨i1, i2, i3⟩ := ih
    refine ⟨fun q => i1 ?_, ?_, ?_⟩
    · rw [niceL, Bool.and_eq_true] at q; exact q.2
    · simp only [depL]; omega
    · simp only [bulkL]; omega
  | cons_cons a h ih =>
    obtain ⟨i1, i2, i3⟩ := ih
    refine ⟨fun q => ?_, ?_, ?_⟩
    · rw [niceL, Bool.and_eq_true] at q ⊢; exact ⟨q.1, i1 q.2⟩
    · simp only [depL]; omega
    · simp only [bulkL]; omega
theorem okD_lst {xs : List D} : okD (.lst xs) ↔ niceL xs = true ∧ depL xs ≤ 59 ∧ bulkL xs ≤ 8000 := by
  unfold okD
  simp only [niceD, depD, bulkD]
  constructor <;> rintro ⟨h1, h2, h3⟩ <;> exact ⟨h1, by omega, h3⟩
theorem okD_tup {xs : List D} : okD (.tup xs) ↔ niceL xs = true ∧ depL xs ≤ 59 ∧ bulkL xs ≤ 8000 := by
  unfold okD
  simp only [niceD, depD, bulkD]
  constructor <;> rintro ⟨h1, h2, h3⟩ <;> exact ⟨h1, by omega, h3⟩
theorem okD.subT {s xs : List D} (h : okD (.tup xs)) (q : s.Sublist xs) : okD (.lst s) := by
  obtain ⟨h1, h2, h3⟩ := okD_tup.mp h
  obtain ⟨q1, q2, q3⟩ := subL q
  exact okD_lst.mpr ⟨q1 h1, by omega, by omega⟩
theorem okD.subL {s xs : List D} (h : okD (.lst xs)) (q : s.Sublist xs) : okD (.lst s) := by
  obtain ⟨h1, h2, h3⟩ := okD_lst.mp h
  obtain ⟨q1, q2, q3⟩ := PL.subL q
  exact okD_lst.mpr ⟨q1 h1, by omega, by omega⟩
theorem okD_int {i : Int} (h : i.natAbs < 2 ^ 1900) : okD (.int i) := ⟨by simp only [niceD]; exact decide_eq_true h, Nat.le_of_ble_eq_true rfl, Nat.le_of_ble_eq_true rfl⟩
theorem niceD_tup (ds : List D) : niceD (.tup ds) = niceL ds := by simp only [niceD]
theorem niceD_lst (ds : List D) : niceD (.lst ds) = niceL ds := by simp only [niceD]
theorem niceI {i : Int} (h : i.natAbs < 2 ^ 1900) : niceD (.int i) = true := by simp only [niceD]; exact decide_eq_true h
theorem niceS_iff {s : Str} : niceD (.str s) = true ↔ ∀ c ∈ s.cps.toList, c < 1114112 := by
  simp only [niceD, PyData.strOk, Bool.and_eq_true, List.all_eq_true, decide_eq_true_eq, ← Array.all_toList]
  exact ⟨fun h => h.1, fun h => ⟨h, h⟩⟩
theorem nice_ofString (s : String) : niceD (.str (Str.ofString s)) = true := by
  rw [niceS_iff, Str.ofString_eq_toList]
  intro c hc
  simp only [List.mem_map] at hc
  obtain ⟨x, _, rfl⟩ := hc
  have := x.valid
  unfold UInt32.isValidChar Nat.isValidChar at this
  show x.val.toNat < _
  omega
theorem nice_app {a b : Str} (h : niceD (.str a) = true) (h' : niceD (.str b) = true) : niceD (.str (a ++ b)) = true := by
  rw [niceS_iff] at *
  intro c hc
  have hc : c ∈ (a.cps ++ b.cps).toList := hc
  rw [Array.toList_append, List.mem_append] at hc
  exact hc.elim (h c) (h' c)
end PL

/-! PL: dicts, in, several targets at once, ranges with a step, tuples by a number, sums of tuples. -/
namespace PL
open PySem PySem.Spec L2
/-! ### dicts, as data -/
section
variable {κ : Type} [DecidableEq κ]
def dGet : List κ → List D → κ → Option D
  | k :: ks, d :: ds, j => if k = j then some d else dGet ks ds j
  | _, _, _ => none
def dKeys (ks : List κ) (j : κ) : List κ := if j ∈ ks then ks else ks ++ [j]
def dRepl : List κ → List D → κ → D → List D
  | k :: ks, d :: ds, j, e => (if k = j then e else d) :: dRepl ks ds j e
  | _, _, _, _ => []
def dVals (ks : List κ) (ds : List D) (j : κ) (e : D) : List D := if j ∈ ks then dRepl ks ds j e else ds ++ [e]
theorem dGet_val {c : Cfg} {F : Hp} {j : κ} : ∀ {ks : List κ} {xs : List V} {ds : List D}, ks.length = xs.length → Reps c F xs ds → (∀ d, dGet ks ds j = some d → ∃ v, valV (ks.zip xs) j = some v ∧ Rep c F v d) ∧ (dGet ks ds j = none → valV (ks.zip xs) j = none)
  | [], _, _, _, _ => ⟨fun d h => by simp [dGet] at h, fun _ => rfl⟩
  | k :: ks, [], _, hl, _ => by simp at hl
  | k :: ks, x :: xs, _, hl, .cons (d := d) (ds := ds) r rs => by
    have ih := dGet_val (j := j) (by simpa using hl) rs
    rw [List.zip_cons_cons]
    unfold dGet
    by_cases e : k = j
    · rw [if_pos e, valV_pos (by exact e)]
      exact ⟨fun z hz => by cases hz; exact ⟨_, rfl, r⟩, fun z => nomatch z⟩
    · rw [if_neg e, valV_neg (by exact e)]
      exact ih
theorem dGet_mem {j : κ} : ∀ {ks : List κ} {ds : List D}, ks.length = ds.length → ((dGet ks ds j).isSome = true ↔ j ∈ ks)
  | [], ds, _ => by simp [dGet]
  | k :: ks, [], hl => by simp at hl
  | k :: ks, d :: ds, hl => by
    have ih := dGet_mem (j := j) (ks := ks) (ds := ds) (by simpa using hl)
    unfold dGet
    by_cases e : k = j
    · simp [e]
    · rw [if_neg e, ih]
      simp [Ne.symm e]
theorem dGet_none {j : κ} {ks : List κ} {ds : List D} (hl : ks.length = ds.length) (h : j ∉ ks) : dGet ks ds j = none := by
  cases e : dGet ks ds j with
  | none => rfl
  | some d => exact absurd ((dGet_mem hl).mp (by rw [e]; rfl)) h
theorem any_zip {j : κ} : ∀ {ks : List κ} {xs : List V}, ks.length = xs.length → ((ks.zip xs).any fun kv => decide (kv.1 = j)) = decide (j ∈ ks)
  | [], _, _ => rfl
  | k :: ks, [], hl => by simp at hl
  | k :: ks, x :: xs, hl => by
    rw [List.zip_cons_cons, List.any_cons, any_zip (by simpa using hl)]
    by_cases e : k = j
    · simp [e]
    · simp [e, Ne.symm e]
theorem map_repl {c : Cfg} {F : Hp} {j : κ} {v : V} {d : D} (r : Rep c F v d) : ∀ {ks : List κ} {xs : List V} {ds : List D}, ks.length = xs.length → Reps c F xs ds → ∃ ys, (ks.zip xs).map (fun kv => if kv.1 = j then (kv.1, v) else kv) = ks.zip ys ∧ ks.length = ys.length ∧ Reps c F ys (dRepl ks ds j d)
  | [], xs, _, hl, rs => ⟨[], rfl, rfl, .nil⟩
  | k :: ks, [], _, hl, _ => by simp at hl
  | k :: ks, x :: xs, _, hl, .cons (d := e) (ds := ds) q qs => by
    obtain ⟨ys, h1, h2, h3⟩ := map_repl (j := j) (v := v) (d := d) r (ks := ks) (by simpa using hl) qs
    rw [List.zip_cons_cons, List.map_cons, h1]
    by_cases z : k = j
    · refine ⟨v :: ys, by simp [z], by simpa using h2, ?_⟩
      unfold dRepl
      rw [if_pos z]
      exact .cons r h3
    · refine ⟨x :: ys, by simp [z], by simpa using h2, ?_⟩
      unfold dRepl
      rw [if_neg z]
      exact .cons q h3
theorem put_zip {c : Cfg} {F : Hp} {j : κ} {v : V} {d : D} {ks : List κ} {xs : List V} {ds : List D} (hl : ks.length = xs.length) (rs : Reps c F xs ds) (r : Rep c F v d) : ∃ ys, putK (ks.zip xs) j v = (dKeys ks j).zip ys ∧ (dKeys ks j).length = ys.length ∧ Reps c F ys (dVals ks ds j d) := by
  unfold putK dKeys dVals
  rw [any_zip hl]
  by_cases h : j ∈ ks
  · rw [if_pos (decide_eq_true h), if_pos h, if_pos h]
    exact map_repl r hl rs
  · rw [if_neg (by simpa using h), if_neg h, if_neg h]
    refine ⟨xs ++ [v], ?_, by simp [hl], rs.append (.cons r .nil)⟩
    rw [List.zip_append hl]
    rfl
theorem dKeys_len (ks : List κ) (j : κ) : (dKeys ks j).length ≤ ks.length + 1 := by
  unfold dKeys; split <;> simp
end
def hasK {κ : Type} [DecidableEq κ] (j : κ) (ks : List κ) : Bool := decide (j ∈ ks)
example : DecidableEq Key := inferInstance
/-- a key of a dict -/
def dKey : D → Option Key
  | .int i => some (.inl i)
  | .str s => some (.inr s)
  | _ => none
def dKeyL : List D → Option (List Key)
  | [] => some []
  | d :: ds => match dKey d, dKeyL ds with | some k, some ks => some (k :: ks) | _, _ => none
theorem RR.key {g : G} {F : Hp} {σ : L2.St} {ρ : PEnv} {x : V} {d : D} {k : Key} {n : Nat} {H : Hp} (ok : Ok g n F H σ ρ) (h : RR g F σ ρ x d) (e : dKey d = some k) : x = kV k := by
  cases d <;> first | cases e; done | skip
  · cases e; exact h.int ok
  · cases e; exact h.str ok
theorem Reps.keys {c : Cfg} {F : Hp} : ∀ {ds : List D} {vs : List V} {ks : List Key}, Reps c F vs ds → dKeyL ds = some ks → vs = ks.map kV
  | [], _, _, .nil, h => by cases h; rfl
  | d :: ds, _, ks, .cons r rs, h => by
    rw [dKeyL] at h
    split at h
    · rename_i k ks' h1 h2
      cases h
      rw [rs.keys h2, List.map_cons]
      congr 1
      cases d <;> first | cases h1; done | skip
      · cases h1; cases r; rfl
      · cases h1; cases r; rfl
    · cases h
section
variable {X : Cx} {e a b c o tg : Expr} {es : List Expr} {p pa pb pc : TPE} {pos pf p2 : Pos} {ta tk : TPA}
theorem fe_dnewT : FE X (.Dict [] [] pos) (pC (.dit [] [])) := fun g hK => pe_dnewT.imp fun σ H Q ⟨n, F, ρ, R, ok, hq, k⟩ => fun q hn => k n F H q _ _ (Same.refl F) ok hn (.dit (ks := []) (xs := []) rfl .nil) hq

/-! ### in, not in -/
theorem op_inD (hu : X.A.units + 1 < cLine) : OpR X (compareOp .In) (fun x y H Q => ∃ a o, y = .ref a ∧ DGet H a x o ∧ Q (.bl o.isSome) H) := by
  intro pins s σ H x y v u Q I rx ry h
  obtain ⟨a, o, rfl, g, q⟩ := h
  cases ry
  exact d_in hu I g rx fun s' I' => ⟨.bl o.isSome, H, I', rfl, q⟩
theorem op_notInD (hu : X.A.units + 1 < cLine) : OpR X (compareOp .NotIn) (fun x y H Q => ∃ a o, y = .ref a ∧ DGet H a x o ∧ Q (.bl (!o.isSome)) H) := by
  intro pins s σ H x y v u Q I rx ry h
  obtain ⟨a, o, rfl, g, q⟩ := h
  cases ry
  exact d_notIn hu I g rx fun s' I' => ⟨.bl (!o.isSome), H, I', rfl, q⟩
/-- one of flat data is equal to d -/
def memD (d : D) (ds : List D) : Bool := ds.any fun e => eqD e d
theorem flat_eq {c : Cfg} {F : Hp} {x y : V} {d e : D} (fd : flatD d = true) (fe : flatD e = true) (r : Rep c F x d) (q : Rep c F y e) : eqV x y = eqD d e := by
  cases r <;> first | (cases fd; done) | skip
  all_goals cases q <;> first | (cases fe; done) | rfl | skip
  all_goals rename_i i j; show (i == j) = decide (i = j); by_cases h : i = j <;> simp [h]
theorem flat_V {c : Cfg} {F : Hp} {x : V} {d : D} (fd : flatD d = true) (r : Rep c F x d) : flatV x = true := by
  cases r <;> first | (cases fd; done) | rfl
theorem Reps.flats {c : Cfg} {F : Hp} : ∀ {ds : List D} {vs : List V}, Reps c F vs ds → ds.all flatD = true → vs.all flatV = true
  | [], _, .nil, _ => rfl
  | d :: ds, _, .cons r rs, h => by
    rw [List.all_cons, Bool.and_eq_true] at h ⊢
    exact ⟨flat_V h.1 r, rs.flats h.2⟩
theorem Reps.inV {c : Cfg} {F : Hp} {x : V} {d : D} (fd : flatD d = true) (r : Rep c F x d) : ∀ {ds : List D} {vs : List V}, Reps c F vs ds → ds.all flatD = true → L2.inV x vs = memD d ds
  | [], _, .nil, _ => rfl
  | e :: ds, _, .cons q rs, h => by
    rw [List.all_cons, Bool.and_eq_true] at h
    have ih := Reps.inV fd r rs h.2
    unfold L2.inV memD at ih ⊢
    rw [List.any_cons, List.any_cons, ih, flat_eq h.1 fd q r]
theorem RR.flat {g : G} {F : Hp} {σ : L2.St} {ρ : PEnv} {x : V} {d : D} {n : Nat} {H : Hp} (ok : Ok g n F H σ ρ) (h : RR g F σ ρ x d) (fd : flatD d = true) : Rep g.c F x d := by
  rcases h with h | ⟨i, hi, hs⟩
  · exact h
  · obtain ⟨a, o, _, _, _, _, _, z⟩ := ok.cells i _ hi
    cases z <;> cases fd
def oInN (neg : Bool) : O2 := fun d e R => match e with
  | .lst ds => flatD d = true ∧ ds.all flatD = true ∧ R (.bl (if neg then !memD d ds else memD d ds))
  | .tup ds => flatD d = true ∧ ds.all flatD = true ∧ R (.bl (if neg then !memD d ds else memD d ds))
  | .dic ks es => match dKey d with | some k => ks.length = es.length ∧ R (.bl (if neg then !hasK k ks else hasK k ks)) | none => False
  | _ => False
theorem some_dec {κ : Type} [DecidableEq κ] {c : Cfg} {F : Hp} {j : κ} {ks : List κ} {xs : List V} {ds : List D} (hl : ks.length = xs.length) (rs : Reps c F xs ds) : (valV (ks.zip xs) j).isSome = hasK j ks := by
  rw [← valV_any, any_zip hl, hasK]
theorem de_inN (hu : X.A.units + 64 < cLine) (neg : Bool) {op : CmpOp} (hop : op = if neg then .NotIn else .In) (ha : SE X a pa) (hb : SE X b pb) (hm : behindInMarks op b = false := by rfl) : DE X (.Compare a [op] [b] pos) (pBin (oInN neg) pa pb) ∧ DT X (.Compare a [op] [b] pos) (pB (pBin (oInN neg) pa pb)) := by
  have hu1 : X.A.units + 1 < cLine := by omega
  have ho : OpR X (compareOp op) (fun x y H Q => rIn X.K neg x y H Q ∨ ∃ a o, y = .ref a ∧ DGet H a x o ∧ Q (.bl (if neg then !o.isSome else o.isSome)) H) := by
    cases neg with
    | false => subst hop; exact op_in_seq.or (op_inD hu1)
    | true => subst hop; exact op_notIn_seq.or (op_notInD hu1)
  have hp : OpP X.K (fun x y H Q => rIn X.K neg x y H Q ∨ ∃ a o, y = .ref a ∧ DGet H a x o ∧ Q (.bl (if neg then !o.isSome else o.isSome)) H) (oInN neg) := by
    intro g n F H σ ρ x y d e R Q hK ok r1 r2 q k
    unfold oInN at q
    split at q
    · obtain ⟨q1, q2, q3⟩ := q
      obtain ⟨l, xs, rfl, h1, s1⟩ := r2.lst ok
      refine .inl ⟨l, xs, rfl, .inl (SqL.of h1), flat_V q1 (r1.flat ok q1), s1.flats q2, ?_⟩
      rw [Reps.inV q1 (r1.flat ok q1) s1 q2]
      exact k F H _ _ (Same.refl F) ok (.bl _) q3
    · obtain ⟨q1, q2, q3⟩ := q
      obtain ⟨l, xs, rfl, h1, s1, _⟩ := r2.tup ok
      rw [hK] at h1
      refine .inl ⟨l, xs, rfl, .inr h1, flat_V q1 (r1.flat ok q1), s1.flats q2, ?_⟩
      rw [Reps.inV q1 (r1.flat ok q1) s1 q2]
      exact k F H _ _ (Same.refl F) ok (.bl _) q3
    · split at q
      · rename_i kk hk
        obtain ⟨l, xs, rfl, h1, hl, s1⟩ := r2.dic ok
        have ex := r1.key ok hk
        subst ex
        refine .inr ⟨l, _, rfl, .inl ⟨_, kk, .inl h1, rfl, rfl⟩, ?_⟩
        rw [some_dec hl s1]
        exact k F H _ _ (Same.refl F) ok (.bl _) q.2
      · exact q.elim
    · exact q.elim
  exact ⟨de_cmp ho hp ha hb hm, dt_cmp ho hp ha hb hm⟩
theorem de_in (hu : X.A.units + 64 < cLine) (ha : SE X a pa) (hb : SE X b pb) (hm : behindInMarks .In b = false := by rfl) : DE X (.Compare a [.In] [b] pos) (pBin (oInN false) pa pb) := (de_inN hu false rfl ha hb hm).1
theorem dt_in (hu : X.A.units + 64 < cLine) (ha : SE X a pa) (hb : SE X b pb) (hm : behindInMarks .In b = false := by rfl) : DT X (.Compare a [.In] [b] pos) (pB (pBin (oInN false) pa pb)) := (de_inN hu false rfl ha hb hm).2
theorem de_notin (hu : X.A.units + 64 < cLine) (ha : SE X a pa) (hb : SE X b pb) (hm : behindInMarks .NotIn b = false := by rfl) : DE X (.Compare a [.NotIn] [b] pos) (pBin (oInN true) pa pb) := (de_inN hu true rfl ha hb hm).1
theorem dt_notin (hu : X.A.units + 64 < cLine) (ha : SE X a pa) (hb : SE X b pb) (hm : behindInMarks .NotIn b = false := by rfl) : DT X (.Compare a [.NotIn] [b] pos) (pB (pBin (oInN true) pa pb)) := (de_inN hu true rfl ha hb hm).2
end
end PL

/-! PL: dicts read and written, several targets at once, ranges with a step, tuples by a number, sums of tuples. -/
namespace PL
open PySem PySem.Spec L2
section
variable {X : Cx} {e a b c o tg : Expr} {es : List Expr} {p pa pb pc : TPE} {pos pf p2 : Pos} {ta tk : TPA}
/-! ### new tuples -/
def LN (g : G) (p : TPE) : TE := fun σ H Q => ∃ n F ρ R, Ok g n F H σ ρ ∧ p ρ n R ∧ ∀ n' F' H' b xs ds, Same F F' → Ok g n' F' H' σ ρ → F' b = some (.tup xs) → Reps g.c F' xs ds → R (.tup ds) n' → Q (.ref b) H'
def NE (X : Cx) (e : Expr) (p : TPE) : Prop := ∀ g : G, g.c.K = X.K → PE X e (LN g p)
theorem ne_tup {x1} (h : DA X es ta) : NE X (.Tuple es x1 pos) (pTup ta) := fun g hK => (pe_tup (h g hK)).imp fun σ H Q ⟨n, F, ρ, R, ok, hq, k⟩ =>
  ⟨n, F, ρ, _, ok, hq, fun n1 F1 H1 vs ds s1 ok1 r1 h1 => ⟨by rw [r1.length]; exact h1.1, fun q hn => k n1 (upd F1 q _) _ q _ _ (s1.trans (ok1.sameF _ hn)) (ok1.alloc _ hn) upd_same (r1.mono (ok1.sameF _ hn)) h1.2⟩⟩
def oTupleL : OL := fun ds R => match ds with | [.lst xs] => R (.tup xs) | _ => False
theorem ne_tuple (hm : X.mg "tuple" = none) (hg : Gl X "tuple") (ha : SA X [e] ta) (he : starEach [e] X.env = (false, eval e X.env) :: starEach [] X.env := by rfl) : NE X (.Call (.Name "tuple" pf) [e] [] pos) (pCall oTupleL ta) := fun g hK =>
  (pe_callTy call_tuple_of hg hm (by decide +kernel) (ha g hK) (he := he) (hpl := rfl)).imp fun σ H Q ⟨n, F, ρ, R, ok, hq, k⟩ =>
  ⟨n, F, ρ, _, ok, hq, fun n1 F1 H1 vs ds s1 ok1 r1 h1 => by
    match ds, r1, h1 with
    | [.lst zs], .cons r .nil, h1 =>
      obtain ⟨l, xs, rfl, e1, t1⟩ := r.lst ok1
      exact ⟨l, xs, rfl, .inl ⟨SqL.of e1, fun q hn => k n1 (upd F1 q _) _ q _ _ (s1.trans (ok1.sameF _ hn)) (ok1.alloc _ hn) upd_same (t1.mono (ok1.sameF _ hn)) h1⟩⟩⟩
/-! ### d[k], k in d -/
def pDGet (p q : TPE) : TPE := fun ρ n R => p ρ n fun d m => q ρ m fun e k => match d with
  | .dic ks es => (match dKey e with | some j => (match dGet ks es j with | some z => R z k | none => False) | none => False)
  | _ => False
theorem de_dget (hu : X.A.units + 64 < cLine) (ho : SE X o pa) (hi : SE X e pb) (hs : NoSl e := by intro _ _; rfl) : DE X (.Subscript o e pos) (pDGet pa pb) := fun g hK => (pe_dget (by omega) (ho g hK) (hi g hK) hs).imp fun σ H Q ⟨n, F, ρ, R, ok, hq, k⟩ => by
  refine ⟨n, F, ρ, _, ok, hq, fun n1 F1 H1 x d s1 ok1 r1 h1 => ⟨n1, F1, ρ, _, ok1, h1, fun n2 F2 H2 y d2 s2 ok2 r2 h2 => ?_⟩⟩
  replace r1 := r1.mono s2
  revert h2 r1
  cases d <;> intro h2 r1 <;> first | exact False.elim h2 | skip
  rename_i ks es
  have h2 : (match dKey d2 with | some j => (match dGet ks es j with | some z => R z n2 | none => False) | none => False) := h2
  split at h2
  · rename_i j hj
    split at h2
    · rename_i z hz
      obtain ⟨l, xs, rfl, e1, hl, t1⟩ := r1.dic ok2
      have ey := r2.key ok2 hj
      subst ey
      obtain ⟨v, hv, rv⟩ := (dGet_val (j := j) hl t1).1 z hz
      exact ⟨l, v, rfl, .inl ⟨_, j, .inl e1, rfl, hv.symm⟩, k n2 F2 H2 _ _ (s1.trans s2) ok2 rv h2⟩
    · exact h2.elim
  · exact h2.elim
def pDGetT (p q : TPE) : TPE := fun ρ n R => p ρ n fun d m => q ρ m fun e k => match d, e with
  | .dit ks es, .tup ds => (match dKeyL ds with | some j => (match dGet ks es j with | some z => R z k | none => False) | none => False)
  | _, _ => False
theorem de_dgetT (hu : X.A.units + 64 < cLine) (ho : SE X o pa) (hi : NE X e pb) (hs : NoSl e := by intro _ _; rfl) : DE X (.Subscript o e pos) (pDGetT pa pb) := fun g hK => (pe_dget (by omega) (ho g hK) (hi g hK) hs).imp fun σ H Q ⟨n, F, ρ, R, ok, hq, k⟩ => by
  refine ⟨n, F, ρ, _, ok, hq, fun n1 F1 H1 x d s1 ok1 r1 h1 => ⟨n1, F1, ρ, _, ok1, h1, fun n2 F2 H2 b2 xs2 ds2 s2 ok2 e2 r2 h2 => ?_⟩⟩
  replace r1 := r1.mono s2
  revert h2 r1
  cases d <;> intro h2 r1 <;> first | exact False.elim h2 | skip
  rename_i ks es
  have h2 : (match dKeyL ds2 with | some j => (match dGet ks es j with | some z => R z n2 | none => False) | none => False) := h2
  split at h2
  · rename_i j hj
    split at h2
    · rename_i z hz
      obtain ⟨l, xs, rfl, e1, hl, t1⟩ := r1.dit ok2
      have ey := r2.keys hj
      subst ey
      obtain ⟨v, hv, rv⟩ := (dGet_val (j := j) hl t1).1 z hz
      exact ⟨l, v, rfl, .inr ⟨_, j, b2, .inl e1, rfl, ok2.sub _ _ e2, hv.symm⟩, k n2 F2 H2 _ _ (s1.trans s2) ok2 rv h2⟩
    · exact h2.elim
  · exact h2.elim
/-- (..) in d, not in d, keys that are tuples -/
def pInT (neg : Bool) (p q : TPE) : TPE := fun ρ n R => p ρ n fun e m => q ρ m fun d k => match d, e with
  | .dit ks es, .tup ds => (match dKeyL ds with | some j => ks.length = es.length ∧ R (.bl (if neg then !hasK j ks else hasK j ks)) k | none => False)
  | _, _ => False
theorem de_inT (hu : X.A.units + 64 < cLine) (neg : Bool) {op : CmpOp} (hop : op = if neg then .NotIn else .In) (ha : NE X a pa) (hb : SE X b pb) (hm : behindInMarks op b = false := by rfl) : DE X (.Compare a [op] [b] pos) (pInT neg pa pb) ∧ DT X (.Compare a [op] [b] pos) (pB (pInT neg pa pb)) := by
  have hu1 : X.A.units + 1 < cLine := by omega
  have ho : OpR X (compareOp op) (fun x y H Q => ∃ a o, y = .ref a ∧ DGet H a x o ∧ Q (.bl (if neg then !o.isSome else o.isSome)) H) := by
    cases neg with
    | false => subst hop; exact op_inD hu1
    | true => subst hop; exact op_notInD hu1
  have go : ∀ {g : G} {σ : L2.St} {H : Hp} {Q : VK}, g.c.K = X.K → LE g (pInT neg pa pb) σ H Q → tOp (fun x y H Q => ∃ a o, y = .ref a ∧ DGet H a x o ∧ Q (.bl (if neg then !o.isSome else o.isSome)) H) (LN g pa) (LQ g pb) σ H Q := by
    intro g σ H Q hK ⟨n, F, ρ, R, ok, hq, k⟩
    refine ⟨n, F, ρ, _, ok, hq, fun n1 F1 H1 b1 xs1 ds1 s1 ok1 e1 r1 h1 => ⟨n1, F1, ρ, _, ok1, h1, fun n2 F2 H2 y d s2 ok2 r2 h2 => ?_⟩⟩
    revert h2 r2
    cases d <;> intro r2 h2 <;> first | exact False.elim h2 | skip
    rename_i ks es
    have h2 : (match dKeyL ds1 with | some j => ks.length = es.length ∧ R (.bl (if neg then !hasK j ks else hasK j ks)) n2 | none => False) := h2
    split at h2
    · rename_i j hj
      obtain ⟨l, xs, rfl, e3, hl, t1⟩ := r2.dit ok2
      have ey := r1.keys hj
      subst ey
      refine ⟨l, _, rfl, .inr ⟨_, j, b1, .inl e3, rfl, ok2.sub _ _ (s2 _ _ e1), rfl⟩, ?_⟩
      rw [some_dec hl t1]
      exact k n2 F2 H2 _ _ (s1.trans s2) ok2 (.bl _) h2.2
    · exact h2.elim
  exact ⟨fun g hK => (pe_cmpR ho (ha g hK) (hb g hK) hm).imp fun σ H Q h => go hK h, fun g hK => (pt_cmpR ho (ha g hK) (hb g hK) hm).imp fun σ H Q h => go hK (LE.bool h)⟩
theorem de_inTT (hu : X.A.units + 64 < cLine) (ha : NE X a pa) (hb : SE X b pb) (hm : behindInMarks .In b = false := by rfl) : DE X (.Compare a [.In] [b] pos) (pInT false pa pb) := (de_inT hu false rfl ha hb hm).1
theorem dt_inTT (hu : X.A.units + 64 < cLine) (ha : NE X a pa) (hb : SE X b pb) (hm : behindInMarks .In b = false := by rfl) : DT X (.Compare a [.In] [b] pos) (pB (pInT false pa pb)) := (de_inT hu false rfl ha hb hm).2
theorem de_notinTT (hu : X.A.units + 64 < cLine) (ha : NE X a pa) (hb : SE X b pb) (hm : behindInMarks .NotIn b = false := by rfl) : DE X (.Compare a [.NotIn] [b] pos) (pInT true pa pb) := (de_inT hu true rfl ha hb hm).1
theorem dt_notinTT (hu : X.A.units + 64 < cLine) (ha : NE X a pa) (hb : SE X b pb) (hm : behindInMarks .NotIn b = false := by rfl) : DT X (.Compare a [.NotIn] [b] pos) (pB (pInT true pa pb)) := (de_inT hu true rfl ha hb hm).2
/-! ### d[k] = v -/
theorem Ok.ownDic {g : G} {n : Nat} {F H : Hp} {σ : L2.St} {ρ : PEnv} {i : Nat} {ks : List Key} {ds : List D} (ok : Ok g n F H σ ρ) (h : ρ[i]? = some (.own (.dic ks ds))) : ∃ l xs, σ[i]? = some (some (.ref l)) ∧ H l = some (.dK (ks.zip xs)) ∧ ks.length = xs.length ∧ Reps g.c F xs ds := by
  obtain ⟨l, x, e1, e2, _, _, _, c⟩ := ok.cells i _ h
  cases c with
  | dic hl r => exact ⟨l, _, e1, e2, hl, r⟩
theorem Ok.ownDit {g : G} {n : Nat} {F H : Hp} {σ : L2.St} {ρ : PEnv} {i : Nat} {ks : List (List Key)} {ds : List D} (ok : Ok g n F H σ ρ) (h : ρ[i]? = some (.own (.dit ks ds))) : ∃ l xs, σ[i]? = some (some (.ref l)) ∧ H l = some (.dT (ks.zip xs)) ∧ ks.length = xs.length ∧ Reps g.c F xs ds := by
  obtain ⟨l, x, e1, e2, _, _, _, c⟩ := ok.cells i _ h
  cases c with
  | dit hl r => exact ⟨l, _, e1, e2, hl, r⟩
def pDPut (i : Nat) (q p : TPE) : TPS := fun P ρ n => match ρ[i]? with
  | some (.own (.dic ks es)) => p ρ n fun d m => q ρ m fun e k => (match dKey e with | some j => ks.length < sizeLine ∧ P.nx (ρ.set i (.own (.dic (dKeys ks j) (dVals ks es j d)))) k | none => False)
  | _ => False
theorem ds_dput {i : Nat} {pos' : Pos} (hu : X.A.units + 64 < cLine) (ho : PE X o (tVar i)) (hi : SE X a pb) (hv : DE X e p) (hs : swapsWith e (some (.Subscript o a pos')) pos.line X.env = pure false := by rfl) : DS X (.Assign [.Subscript o a pos'] e pos) (pDPut i pb p) := fun g hK => (ps_dput (by omega) ho (hi g hK) (hv g hK) hs).imp fun D σ H ⟨n, F, ρ, P, ok, h, k⟩ => by
  have h : pDPut i pb p P ρ n := h
  unfold pDPut at h
  split at h
  · rename_i ks es hi
    refine ⟨n, F, ρ, _, ok, h, fun n1 F1 H1 v d s1 ok1 r1 h1 => ?_⟩
    obtain ⟨l, xs, e1, e2, hl, t1⟩ := ok1.ownDic hi
    refine ⟨.ref l, e1, n1, F1, ρ, _, ok1, h1, fun n2 F2 H2 y d2 s2 ok2 r2 h2 => ?_⟩
    have h2 : (match dKey d2 with | some j => ks.length < sizeLine ∧ P.nx (ρ.set i (.own (.dic (dKeys ks j) (dVals ks es j d)))) n2 | none => False) := h2
    split at h2
    · rename_i j hj
      have ey := r2.key ok2 hj
      subst ey
      obtain ⟨l', xs', e1', e2', hl', t1'⟩ := ok2.ownDic hi
      rw [e1] at e1'
      cases e1'
      obtain ⟨ys, z1, z2, z3⟩ := put_zip (j := j) hl' t1' (r1.mono s2)
      refine ⟨l, _, rfl, .inl ⟨_, j, e2', rfl, by rw [List.length_zip, ← hl', Nat.min_self]; exact h2.1, rfl⟩, ?_⟩
      rw [z1]
      exact k.nx n2 F2 _ _ _ (s1.trans s2) (ok2.write hi e1 (.dic z2 z3)) h2.2
    · exact h2.elim
  · exact h.elim
def pDPutT (i : Nat) (q p : TPE) : TPS := fun P ρ n => match ρ[i]? with
  | some (.own (.dit ks es)) => p ρ n fun d m => q ρ m fun e k => (match e with | .tup ds => (match dKeyL ds with | some j => ks.length < sizeLine ∧ P.nx (ρ.set i (.own (.dit (dKeys ks j) (dVals ks es j d)))) k | none => False) | _ => False)
  | _ => False
theorem ds_dputT {i : Nat} {pos' : Pos} (hu : X.A.units + 64 < cLine) (ho : PE X o (tVar i)) (hi : NE X a pb) (hv : DE X e p) (hs : swapsWith e (some (.Subscript o a pos')) pos.line X.env = pure false := by rfl) : DS X (.Assign [.Subscript o a pos'] e pos) (pDPutT i pb p) := fun g hK => (ps_dput (by omega) ho (hi g hK) (hv g hK) hs).imp fun D σ H ⟨n, F, ρ, P, ok, h, k⟩ => by
  have h : pDPutT i pb p P ρ n := h
  unfold pDPutT at h
  split at h
  · rename_i ks es hi
    refine ⟨n, F, ρ, _, ok, h, fun n1 F1 H1 v d s1 ok1 r1 h1 => ?_⟩
    obtain ⟨l, xs, e1, e2, hl, t1⟩ := ok1.ownDit hi
    refine ⟨.ref l, e1, n1, F1, ρ, _, ok1, h1, fun n2 F2 H2 b2 xs2 ds2 s2 ok2 f2 r2 h2 => ?_⟩
    have h2 : (match dKeyL ds2 with | some j => ks.length < sizeLine ∧ P.nx (ρ.set i (.own (.dit (dKeys ks j) (dVals ks es j d)))) n2 | none => False) := h2
    split at h2
    · rename_i j hj
      have ey := r2.keys hj
      subst ey
      obtain ⟨l', xs', e1', e2', hl', t1'⟩ := ok2.ownDit hi
      rw [e1] at e1'
      cases e1'
      obtain ⟨ys, z1, z2, z3⟩ := put_zip (j := j) hl' t1' (r1.mono s2)
      refine ⟨l, _, rfl, .inr ⟨_, j, b2, e2', rfl, ok2.sub _ _ f2, by rw [List.length_zip, ← hl', Nat.min_self]; exact h2.1, rfl⟩, ?_⟩
      rw [z1]
      exact k.nx n2 F2 _ _ _ (s1.trans s2) (ok2.write hi e1 (.dit z2 z3)) h2.2
    · exact h2.elim
  · exact h.elim
/-! ### len of a dict -/
def oLenD : OL := fun ds R => match ds with | [.dic ks _] => R (.int ks.length) | _ => False
theorem de_lenD (hm : X.mg "len" = none) (hg : Gl X "len") (ha : SA X [e] ta) (he : starEach [e] X.env = (false, eval e X.env) :: starEach [] X.env := by rfl) : DE X (.Call (.Name "len" pf) [e] [] pos) (pCall oLenD ta) := by
  refine de_callB call_lenD (fun g n F H σ ρ xs ds R Q hK ok r q k => ?_) hg hm PySem.boot_len ha (he := he) (hpl := rfl)
  match ds, r, q with
  | [.dic ks es], .cons r .nil, q =>
    obtain ⟨l, xs, rfl, e1, hl, t1⟩ := r.dic ok
    refine ⟨l, _, rfl, e1, ?_⟩
    rw [List.length_zip, ← hl, Nat.min_self]
    exact k F H _ _ (Same.refl F) ok (.int _) q
end
end PL

/-! PL: several targets at once, ranges with a step, tuples by a number, sums of tuples. -/
namespace PL
open PySem PySem.Spec L2
/-! ### values of which some are one's own -/
abbrev TPM := PEnv → Nat → (List Cell → Nat → Prop) → Prop
inductive MO (n : Nat) (F H : Hp) (σ : L2.St) (ρ : PEnv) : G → List V → List Cell → Prop
  | nil {g : G} : Ok g n F H σ ρ → MO n F H σ ρ g [] []
  | sh {g : G} {v : V} {d : D} {vs : List V} {cs : List Cell} : Rep g.c F v d → MO n F H σ ρ g vs cs → MO n F H σ ρ g (v :: vs) (.sh d :: cs)
  | own {g : G} {a : Addr} {x : HO} {d : D} {vs : List V} {cs : List Cell} : g.H0 a = none → ¬ g.c.fp a → g.pin a = none → Cont g.c F a x d → MO n F H σ ρ (g.pinned a x) vs cs → MO n F H σ ρ g (.ref a :: vs) (.own d :: cs)
def LM (g : G) (p : TPM) : TA := fun σ H Q => ∃ n F ρ R, Ok g n F H σ ρ ∧ p ρ n R ∧ ∀ n' F' H' vs cs, Same F F' → MO n' F' H' σ ρ g vs cs → R cs n' → Q vs H'
def DM (X : Cx) (es : List Expr) (p : TPM) : Prop := ∀ g : G, g.c.K = X.K → PA X es (LM g p)
def XM (K : PySem.W.Frag) (t : TPM) : TA := fun σ H Q => ∃ g : G, g.c.K = K ∧ LM g t σ H Q
def pMNil : TPM := fun _ n R => R [] n
def pMSh (p : TPE) (t : TPM) : TPM := fun ρ n R => p ρ n fun d m => t ρ m fun cs k => R (.sh d :: cs) k
def pMOwn (p : TPE) (t : TPM) : TPM := fun ρ n R => p ρ n fun d m => t ρ m fun cs k => R (.own d :: cs) k
section
variable {X : Cx} {e a b c o tg : Expr} {es : List Expr} {p pa pb pc : TPE} {pos pf p2 : Pos} {ta tk : TPA} {tm : TPM}
theorem dm_nil : DM X [] pMNil := fun g hK => pa_nil.imp fun σ H Q ⟨n, F, ρ, R, ok, hq, k⟩ => k n F H _ _ (Same.refl F) (.nil ok) hq
theorem dm_sh (h : DE X e p) (hr : DM X es tm) (hs : starEach (e :: es) X.env = (false, eval e X.env) :: starEach es X.env := by rfl) : DM X (e :: es) (pMSh p tm) := fun g hK => (pa_cons (h g hK) (hr g hK) hs).imp fun σ H Q ⟨n, F, ρ, R, ok, hq, k⟩ =>
  ⟨n, F, ρ, _, ok, hq, fun n1 F1 H1 x d s1 ok1 r1 h1 => ⟨n1, F1, ρ, _, ok1, h1, fun n2 F2 H2 vs ds s2 ok2 h2 => k n2 F2 H2 _ _ (s1.trans s2) (.sh (r1.mono s2) ok2) h2⟩⟩
theorem dm_own (h : FE X e p) (hr : DM X es tm) (hs : starEach (e :: es) X.env = (false, eval e X.env) :: starEach es X.env := by rfl) : DM X (e :: es) (pMOwn p tm) := fun g hK =>
  (pa_cons (h g hK) (⟨fun pos pins s σ H Q I ⟨g', hK', q⟩ => (hr g' hK').run pos pins s σ H Q I q⟩ : PA X es (XM X.K tm)) hs).imp fun σ H Q ⟨n, F, ρ, R, ok, hq, k⟩ =>
  ⟨n, F, ρ, _, ok, hq, fun n1 F1 H1 q x d s1 ok1 hn hc h1 => ⟨g.pinned q x, hK, n1, F1, ρ, _, ok1.pinNew x hn, h1, fun n2 F2 H2 vs ds s2 ok2 h2 => k n2 F2 H2 _ _ (s1.trans s2) (.own (ok1.freeH0 hn) (ok1.nofp hn) (ok1.freeP hn) (hc.mono s2) ok2) h2⟩⟩
def setV (σ : L2.St) : List Nat → List V → L2.St
  | i :: is, v :: vs => (setV σ is vs).set i (some v)
  | _, _ => σ
def setC (ρ : PEnv) : List Nat → List Cell → PEnv
  | i :: is, v :: vs => (setC ρ is vs).set i v
  | _, _ => ρ
theorem setC_nil (ρ : PEnv) (is : List Nat) : setC ρ is [] = ρ := by cases is <;> rfl
theorem setC_cons (ρ : PEnv) (i : Nat) (is : List Nat) (c : Cell) (cs : List Cell) : setC ρ (i :: is) (c :: cs) = (setC ρ is cs).set i c := rfl
theorem Ok.unpinOwn {g : G} {n : Nat} {F H : Hp} {σ : L2.St} {ρ : PEnv} {q : Addr} {x : HO} {d : D} (ok : Ok (g.pinned q x) n F H σ ρ) (h0 : g.H0 q = none) (hf : ¬ g.c.fp q) (hp : g.pin q = none) (hc : Cont g.c F q x d) (i : Nat) : Ok g n F H (σ.set i (some (.ref q))) (ρ.set i (.own d)) := by
  obtain ⟨p1, p2, p3⟩ := ok.pinAt
  have k := (ok.unpin h0 hp).allocH (p := q) x (erase_same H q)
  rw [upd_erase p1] at k
  refine k.setOwn i p1 p2 h0 ⟨hf, hp⟩ hc fun j e hj _ hz => ?_
  obtain ⟨o, y, e1, e2, e3, e4, e5, e6⟩ := ok.cells j _ hj
  rw [hz] at e1
  cases e1
  have : (g.pinned q x).pin q = none := e5.2
  rw [show (g.pinned q x).pin q = some x from upd_same] at this
  cases this
theorem MO.put {n : Nat} {F H : Hp} {σ : L2.St} {ρ : PEnv} {g : G} {vs : List V} {cs : List Cell} (h : MO n F H σ ρ g vs cs) : ∀ is : List Nat, is.length = vs.length → Ok g n F H (setV σ is vs) (setC ρ is cs) := by
  induction h with
  | nil ok => intro is hl; cases is with | nil => exact ok | cons i is => simp at hl
  | sh r h ih =>
    intro is hl
    cases is with
    | nil => simp at hl
    | cons i is => exact (ih is (by simpa using hl)).set i r
  | own h0 hf hp hc h ih =>
    intro is hl
    cases is with
    | nil => simp at hl
    | cons i is => exact (ih is (by simpa using hl)).unpinOwn h0 hf hp hc i
theorem MO.alloc {n : Nat} {F H : Hp} {σ : L2.St} {ρ : PEnv} {g : G} {vs : List V} {cs : List Cell} (h : MO n F H σ ρ g vs cs) {q : Addr} (o : HO) (hq : H q = none) : MO n F (upd H q o) σ ρ g vs cs := by
  induction h with
  | nil ok => exact .nil (ok.allocH o hq)
  | sh r h ih => exact .sh r ih
  | own h0 hf hp hc h ih => exact .own h0 hf hp hc ih
theorem MO.len {n : Nat} {F H : Hp} {σ : L2.St} {ρ : PEnv} {g : G} {vs : List V} {cs : List Cell} (h : MO n F H σ ρ g vs cs) : vs.length = cs.length := by
  induction h with
  | nil ok => rfl
  | sh r h ih => simp [ih]
  | own h0 hf hp hc h ih => simp [ih]
/-- a, b, .. = e1, e2, ..: some of them one's own -/
def pParM (is : List Nat) (t : TPM) : TPS := fun P ρ n => t ρ n fun cs m => cs.length = is.length ∧ P.nx (setC ρ is cs) m
theorem ds_parM2 {i j : Nat} {x y : Str} {px py pt : Pos} {kt k2 pt2} (hN : X.N.Nodup) (hij : i ≠ j) (ha : DM X [a, b] tm) (hw : swappedStores [.Tuple [.Name x px, .Name y py] kt pt] (.Tuple [a, b] k2 pt2) X.env = pure (some [x, y])) (hi : X.N[i]? = some x := by rfl) (hj : X.N[j]? = some y := by rfl)
    (hx : X.env.scope.names.lookup x = some .local := by rfl) (hy : X.env.scope.names.lookup y = some .local := by rfl) (hc : X.calm = true := by rfl) (hs : swapsWithSole [.Tuple [.Name x px, .Name y py] kt pt] (.Tuple [a, b] k2 pt2) pos.line X.env = pure false := by rfl) :
    DS X (.Assign [.Tuple [.Name x px, .Name y py] kt pt] (.Tuple [a, b] k2 pt2) pos) (pParM [i, j] tm) := fun g hK => (ps_par hc hN hi hj hij hx hy (ha g hK) hw hs).imp fun D σ H ⟨n, F, ρ, P, ok, h, k⟩ => by
  refine ⟨n, F, ρ, _, ok, h, fun n1 F1 H1 vs cs s1 m1 h1 => ?_⟩
  have hl := m1.len
  have h2 := h1.1
  match vs, hl with
  | [v, w], _ =>
    refine ⟨v, w, rfl, ?_⟩
    have := m1.put [i, j] rfl
    rw [show setV σ [i, j] [v, w] = (σ.set i (some v)).set j (some w) from (List.set_comm _ _ (Ne.symm hij))] at this
    exact k.nx n1 F1 H1 _ _ s1 this h1.2
  | [], hl => rw [← hl] at h2; cases h2
  | [_], hl => rw [← hl] at h2; cases h2
  | _ :: _ :: _ :: _, hl => rw [← hl] at h2; cases h2
theorem ds_parM3 {i j l : Nat} {x y z : Str} {px py pz pt : Pos} {kt k2 pt2} (hN : X.N.Nodup) (hij : i ≠ j) (hil : i ≠ l) (hjl : j ≠ l) (ha : DM X [a, b, c] tm) (hw : swappedStores [.Tuple [.Name x px, .Name y py, .Name z pz] kt pt] (.Tuple [a, b, c] k2 pt2) X.env = pure (some [x, y, z]))
    (hi : X.N[i]? = some x := by rfl) (hj : X.N[j]? = some y := by rfl) (hl : X.N[l]? = some z := by rfl)
    (hx : X.env.scope.names.lookup x = some .local := by rfl) (hy : X.env.scope.names.lookup y = some .local := by rfl) (hz : X.env.scope.names.lookup z = some .local := by rfl) (hc : X.calm = true := by rfl) (hs : swapsWithSole [.Tuple [.Name x px, .Name y py, .Name z pz] kt pt] (.Tuple [a, b, c] k2 pt2) pos.line X.env = pure false := by rfl) :
    DS X (.Assign [.Tuple [.Name x px, .Name y py, .Name z pz] kt pt] (.Tuple [a, b, c] k2 pt2) pos) (pParM [i, j, l] tm) := fun g hK => (ps_par3 hc hN hi hj hl hij hil hjl hx hy hz (ha g hK) hw hs).imp fun D σ H ⟨n, F, ρ, P, ok, h, k⟩ => by
  refine ⟨n, F, ρ, _, ok, h, fun n1 F1 H1 vs cs s1 m1 h1 => ?_⟩
  have hln := m1.len
  have h2 := h1.1
  match vs, hln with
  | [u, v, w], _ =>
    refine ⟨u, v, w, rfl, ?_⟩
    have := m1.put [i, j, l] rfl
    rw [show setV σ [i, j, l] [u, v, w] = ((σ.set i (some u)).set j (some v)).set l (some w) from by
      show ((σ.set l (some w)).set j (some v)).set i (some u) = _
      rw [List.set_comm _ _ (Ne.symm hjl), List.set_comm _ _ (Ne.symm hil), List.set_comm _ _ (Ne.symm hij)]] at this
    exact k.nx n1 F1 H1 _ _ s1 this h1.2
  | [], hl => rw [← hl] at h2; cases h2
  | [_], hl => rw [← hl] at h2; cases h2
  | [_, _], hl => rw [← hl] at h2; cases h2
  | _ :: _ :: _ :: _ :: _, hl => rw [← hl] at h2; cases h2
/-- names by a tuple, from the left -/
def fwd (σ : L2.St) : List Nat → List V → L2.St
  | i :: is, v :: vs => fwd (σ.set i (some v)) is vs
  | _, _ => σ
theorem setV_comm (σ : L2.St) (i : Nat) (v : V) : ∀ (is : List Nat) (vs : List V), i ∉ is → setV (σ.set i (some v)) is vs = (setV σ is vs).set i (some v)
  | [], _, _ => rfl
  | _ :: _, [], _ => rfl
  | j :: is, w :: vs, h => by
    have h1 : j ≠ i := fun z => h (z ▸ List.mem_cons_self)
    show (setV _ is vs).set j _ = ((setV σ is vs).set j _).set i _
    rw [setV_comm σ i v is vs (fun z => h (List.mem_cons_of_mem _ z)), List.set_comm _ _ (Ne.symm h1)]
theorem fwd_setV (σ : L2.St) : ∀ (is : List Nat) (vs : List V), is.Nodup → fwd σ is vs = setV σ is vs
  | [], _, _ => rfl
  | _ :: _, [], _ => rfl
  | i :: is, v :: vs, h => by
    obtain ⟨h1, h2⟩ := List.nodup_cons.mp h
    show fwd (σ.set i _) is vs = (setV σ is vs).set i _
    rw [fwd_setV _ is vs h2, setV_comm σ i v is vs h1]
inductive NameGs (X : Cx) : List Expr → List Nat → Prop
  | nil : NameGs X [] []
  | cons {e : Expr} {es : List Expr} {i : Nat} {is : List Nat} : PG X e (gName i) → ((assignEach (e :: es) X.env).map (·.2) = assign e X.env :: (assignEach es X.env).map (·.2)) → NameGs X es is → NameGs X (e :: es) (i :: is)
def gFwd (is : List Nat) : TGs := fun vs σ H Q => vs.length = is.length ∧ Q (fwd σ is vs) H
theorem NameGs.pgs {es : List Expr} {is : List Nat} (h : NameGs X es is) : PGs X es (gFwd is) := by
  induction h with
  | nil => exact pgs_nil.imp fun vs σ H Q ⟨h1, h2⟩ => ⟨List.eq_nil_of_length_eq_zero h1, by cases List.eq_nil_of_length_eq_zero h1; exact h2⟩
  | @cons e es i is h1 h2 _ ih =>
    refine (pgs_cons h1 ih h2).imp fun vs σ H Q ⟨q1, q2⟩ => ?_
    cases vs with
    | nil => cases q1
    | cons v vs => exact ⟨v, vs, rfl, by simpa using q1, q2⟩
theorem ds_parMN {is : List Nat} {tgs : List Expr} {kt k2 : Nat} {pt pt2 : Pos} {m : Nat} (hnd : is.Nodup) (ha : DM X es tm) (hg : NameGs X tgs is) (hm : is.length = m := by rfl) (hz : is.length ≤ sizeLine := by decide) (hc : X.calm = true := by rfl) (hn : (assignEach tgs X.env).length = m := by rfl) (hst : (assignEach tgs X.env).findIdx? (·.1) = none := by rfl)
    (hs : swapsWithSole [.Tuple tgs kt pt] (.Tuple es k2 pt2) pos.line X.env = pure false := by rfl) (hw : swappedStores [.Tuple tgs kt pt] (.Tuple es k2 pt2) X.env = pure none := by rfl) (h1 : (assignEach [.Tuple tgs kt pt] X.env).map (·.2) = [assign (.Tuple tgs kt pt) X.env] := by rfl) :
    DS X (.Assign [.Tuple tgs kt pt] (.Tuple es k2 pt2) pos) (pParM is tm) := fun g hK =>
  (ps_asg (pe_tup (ha g hK)) (pg_tup hc hg.pgs hn hst) hs hw h1).imp fun D σ H ⟨n, F, ρ, P, ok, h, k⟩ => by
  refine ⟨n, F, ρ, _, ok, h, fun n1 F1 H1 vs cs s1 m1 h1 => ?_⟩
  have hln := m1.len
  obtain ⟨h2, h3⟩ := h1
  refine ⟨?_, fun q hq => ⟨q, vs, rfl, SqT.of upd_same, by rw [hln, h2, hm], ⟨by rw [hln, h2], ?_⟩⟩⟩
  · rw [hln, h2]; exact hz
  · rw [fwd_setV _ _ _ hnd]
    exact k.nx n1 F1 _ _ _ s1 ((m1.alloc _ hq).put is (by rw [hln, h2])) h3
end
end PL

/-! PL: ranges that go down, tuples by a number, sums of tuples, global tuples, further operators. -/
namespace PL
open PySem PySem.Spec L2 PyProof.Rows
theorem tuple_mul1 (l : Addr) (items : Array Value) (n : Nat) (dd : Option Addr) (sl : Array (Option Value)) (u : Tok) :
    Meets (Builtin.«tuple.__mul__» ⟨[.ref l, .int 1 u], []⟩) (fun _ R s => s.heap.get? l = some { cls := .type "tuple", dict := dd, data := .seq items n, slots := sl } ∧ R (.ok (.ret (Value.ref l))) s) :=
  .of_wp fun prog w A R s h => by
    obtain ⟨hp, g, d, tk, os⟩ := s
    obtain ⟨hl, h⟩ := h
    have f1 := AutoSeq1.idx_int
    wp_walk using wpAny_loadPart' hl
    exact ⟨_, rfl, h⟩
section
variable {X : Cx} {e a b c o tg : Expr} {es : List Expr} {p pa pb pc : TPE} {pos pf p2 : Pos} {ta tk : TPA} {tm : TPM}
theorem op_repT1 : OpR X (binaryOp .Mult) (fun x y H Q => ∃ l xs, x = .ref l ∧ y = .int 1 ∧ SqT X.K H l xs ∧ Q (.ref l) H) := by
  intro pins s σ H x y v u Q I rx ry h
  obtain ⟨l, xs, rfl, rfl, hT, q⟩ := h
  cases rx
  obtain ⟨t, rfl⟩ := ry
  obtain ⟨its, r, ⟨⟨cls, dd, data, sl⟩, ho, hc, n, hd⟩, hs⟩ := I.tuple hT
  simp only at hc hd
  subst hc hd
  exact wpAny_binaryOp_repeat_ref (T := "tuple") (U := "int") (by decide) ⟨_, ho, rfl⟩ (fun s' => typeIs_int s' 1 t) noFill_tuple_mul F.fills_int_mul F.slot_int_rmul repeat_tuple F.slot_int_index.lookup
    (call_meets F.slot_int_rmul (typeIs_int s 1 t) F.entry_int_rmul (F.args_int_rmul_2 _ _) (int_rmul_tuple 1 t l its.toArray n dd sl)
      ⟨ho, rfl, ⟨_, ho, rfl⟩, call_meets F.slot_tuple_mul ⟨_, ho, rfl⟩ F.entry_tuple_mul (F.args_tuple_mul_2 _ _) (tuple_mul1 l its.toArray n dd sl t) ⟨ho, .ref l, H, I, rfl, q⟩⟩)
/-- tuple * n -/
def oMulT : O2 := fun d e R => match d, e with
  | .tup ds, .int k => ds ≠ [] ∧ 1 ≤ k ∧ k ≤ 1000 ∧ ds.length ≤ 1000 ∧ R (.tup (List.replicate k.toNat ds).flatten)
  | _, _ => False
theorem de_mulT (ha : SE X a pa) (hb : SE X b pb) : DE X (.BinOp a .Mult b pos) (pBin oMulT pa pb) := by
  refine de_bin (op_repT1.or op_repT) (fun g n F H σ ρ x y d e R Q hK ok r1 r2 q k => ?_) ha hb
  have q : oMulT d e R := q
  unfold oMulT at q
  split at q
  · rename_i ds kk _
    obtain ⟨q0, q1, q2, q3, q4⟩ := q
    obtain ⟨l, xs, rfl, h1, s1, t1⟩ := r1.tup ok
    rw [hK] at h1
    by_cases hk : kk = 1
    · subst hk
      refine .inl ⟨l, xs, rfl, r2.int ok, h1, k F H _ _ (Same.refl F) ok t1 ?_⟩
      simpa using q4
    · refine .inr ⟨l, kk, xs, rfl, r2.int ok, h1, fun z => ?_, by omega, q2, by rw [s1.length]; exact q3, fun p hp => ?_⟩
      · subst z; cases s1; exact q0 rfl
      · exact k (upd F p _) _ _ _ (ok.sameF _ hp) (ok.alloc _ hp) (.tup (SqT.of upd_same) ((s1.rep _).mono (ok.sameF _ hp))) q4
  · exact q.elim
/-! ### sums -/
theorem cr_sumT (hc : X.calm = true) : CallR X (.builtin "sum") (fun vs H Q => ∃ (a : Addr) (ns : List Int), vs = [V.ref a] ∧ SqT X.K H a (ns.map V.int) ∧ Q (.int ns.sum) H) := by
  intro pins s σ H vs us Q I r h
  obtain ⟨a, ns, rfl, hs, q⟩ := h
  obtain ⟨its, rv, hl, _⟩ := I.tuple hs
  rw [Vals.ref1 r]
  have hi := rv.ints
  obtain ⟨xs, e⟩ := hi.allInts.items
  have hn : numsOf (intItems xs).toList = ns := by rw [← e]; exact hi.numsOf
  rw [nums_intItems] at hn
  have hl' : s.heap.IsTuple a its.toArray := hl
  rw [e] at hl'
  refine PySem.W.ktm_sumG (I.ok.hd hc) hl' fun h' tk t' hk => ⟨.int _, H, I.kept hk, ⟨t', ?_⟩, q⟩
  rw [preSum_eq, List.take_of_length_le (by simp), hn]
def oSumA : OL := fun ds R => match ds with
  | [.lst xs] => (match asInts xs with | some bs => R (.int bs.sum) | none => False)
  | [.tup xs] => (match asInts xs with | some bs => R (.int bs.sum) | none => False)
  | _ => False
theorem de_sumA (hm : X.mg "sum" = none) (hg : Gl X "sum") (ha : SA X [e] ta) (hc : X.calm = true := by rfl) (he : starEach [e] X.env = (false, eval e X.env) :: starEach [] X.env := by rfl) : DE X (.Call (.Name "sum" pf) [e] [] pos) (pCall oSumA ta) := by
  refine de_callB ((cr_sum hc).or (cr_sumT hc)) (fun g n F H σ ρ xs ds R Q hK ok r q k => ?_) hg hm (by decide +kernel) ha (he := he) (hpl := rfl)
  match ds, r, q with
  | [.lst zs], .cons r .nil, q =>
    obtain ⟨l, xs, rfl, e1, t1⟩ := r.lst ok
    have q : (match asInts zs with | some bs => R (.int bs.sum) | none => False) := q
    split at q
    · rename_i bs hb
      rw [t1.intsV hb] at e1
      exact .inl ⟨l, bs, rfl, SqL.of e1, k F H _ _ (Same.refl F) ok (.int _) q⟩
    · exact q.elim
  | [.tup zs], .cons r .nil, q =>
    obtain ⟨l, xs, rfl, e1, t1, _⟩ := r.tup ok
    rw [hK] at e1
    have q : (match asInts zs with | some bs => R (.int bs.sum) | none => False) := q
    split at q
    · rename_i bs hb
      rw [t1.intsV hb] at e1
      exact .inr ⟨l, bs, rfl, e1, k F H _ _ (Same.refl F) ok (.int _) q⟩
    · exact q.elim
/-! ### range(a, b, -1) -/
def downD (lo : Int) (n : Nat) : List D := (List.range n).map fun (i : Nat) => .int (lo + (i : Int) * -1)
theorem downD_zero (lo : Int) : downD lo 0 = [] := rfl
theorem downD_succ (lo : Int) (n : Nat) : downD lo (n + 1) = .int lo :: downD (lo - 1) n := by
  unfold downD
  rw [List.range_succ_eq_map, List.map_cons, List.map_map]
  congr 1
  · simp
  · apply List.map_congr_left
    intro i _
    simp only [Function.comp]
    congr 1
    omega
theorem downD_len (lo : Int) (n : Nat) : (downD lo n).length = n := by unfold downD; rw [List.length_map, List.length_range]
theorem walk_down {g : G} {F : Hp} (lo : Int) (n : Nat) : ∀ g' m F2 H2 σ2 ρ2, g'.c = g.c → Same F F2 → Ok g' m F2 H2 σ2 ρ2 → (Itc lo (-1) n).stop (downD lo n).length H2 ∧
    ∀ i d, (downD lo n)[i]? = some d → (Itc lo (-1) n).go i H2 ∧ ∀ x H3, (Itc lo (-1) n).yld i H2 x H3 → ∃ F3, Same F2 F3 ∧ Ok g' m F3 H3 σ2 ρ2 ∧ Rep g.c F3 x d := by
  intro g' m F2 H2 σ2 ρ2 hc s2 ok2
  have hl := downD_len lo n
  refine ⟨by rw [hl]; exact Nat.le_refl _, fun i d hd => ?_⟩
  have hi : i < n := by rw [← hl]; exact lt_of_get hd
  refine ⟨hi, fun x H3 y => ?_⟩
  obtain ⟨rfl, rfl⟩ := y
  unfold downD at hd
  rw [List.getElem?_map, List.getElem?_range hi] at hd
  cases hd
  exact ⟨F2, Same.refl _, ok2, .int _⟩
def pRangeD (t : TPA) : TPA := fun ρ n S => t ρ n fun ds m => match ds with
  | [.int i, .int j, .int k] => (-(2 ^ 62) ≤ i ∧ i < 2 ^ 62 ∧ -(2 ^ 62) ≤ j ∧ j < 2 ^ 62) ∧ k = -1 ∧ S (downD i (i - j).toNat) m
  | _ => False
theorem di_rangeD {pf : Pos} (hm : X.mg "range" = none) (hg : Gl X "range") (ha : DA X [a, b, c] ta) (hs : starEach [a, b, c] X.env = (false, eval a X.env) :: starEach [b, c] X.env := by rfl) (hpl : (backTo pos (starEach [b, c] X.env)).any (·.1) = false := by rfl) : DI X tg (.Call (.Name "range" pf) [a, b, c] [] pos) (pRangeD ta) := fun g hK => (pi_range3 hg hm (ha g hK) hs hpl).imp fun σ H R ⟨n, F, ρ, S, ok, h, k⟩ =>
  ⟨n, F, ρ, _, ok, h, fun n1 F1 H1 vs ds s1 ok1 r1 h1 => by
    match ds, r1, h1 with
    | [.int i, .int j, .int l], .cons (.int _) (.cons (.int _) (.cons (.int _) .nil)), ⟨⟨b1, b2, b3, b4⟩, e, h1⟩ =>
      subst e
      exact ⟨i, j, -1, _, rfl, RgC.neg b1 b2 b3 b4, k n1 F1 H1 _ _ s1 ok1 h1 (walk_down i _)⟩⟩
/-! ### further operators -/
theorem ds_augMul {i : Nat} {x : Str} {pos' : Pos} (hN : X.N.Nodup) (hx : Loc X.env.scope x) (he : SE X e p) (hi : X.N[i]? = some x := by rfl) (hf : X.fn x = true ∨ X.env.scope.names.lookup x = some .local := by first | exact .inl rfl | exact .inr rfl) :
    DS X (.AugAssign (.Name x pos') .Mult e pos) (pAug i (oI fun i j R => CMul i j ∧ R (.int (i * j))) p) := ds_aug iop_mul (op_rI fun _ _ _ _ => .int _) hN hx he hi hf
theorem o_augm_int (i j : Int) (Q : D → Prop) : oI (fun i j R => CMul i j ∧ R (.int (i * j))) (.int i) (.int j) Q = (CMul i j ∧ Q (.int (i * j))) := rfl
def isNon : D → Bool | .non => true | _ => false
def notO : D → Bool | .obj k _ => k != 999 | _ => true
def oIsN (neg : Bool) : O2 := fun d e R => match e with | .non => notO d = true ∧ R (.bl (if neg then !isNon d else isNon d)) | _ => False
theorem RR.isNon {g : G} {F : Hp} {σ : L2.St} {ρ : PEnv} {x : V} {d : D} {n : Nat} {H : Hp} (ok : Ok g n F H σ ρ) (h : RR g F σ ρ x d) (hd : notO d = true) : decide (x = V.non) = isNon d := by
  rcases h with h | ⟨i, hi, hs⟩
  · cases h <;> first | rfl | cases hd
  · obtain ⟨a, o, e1, _, _, _, _, z⟩ := ok.cells i _ hi
    rw [hs] at e1
    cases e1
    cases z <;> rfl
theorem opp_isN {K : PySem.W.Frag} (neg : Bool) : OpP K (fun x y H Q => y = .non ∧ Q (.bl (if neg then !decide (x = .non) else decide (x = .non))) H) (oIsN neg) := fun g n F H σ ρ x y d e R Q hK ok r1 r2 q k => by
  have q : oIsN neg d e R := q
  unfold oIsN at q
  split at q
  · refine ⟨r2.non ok, ?_⟩
    rw [r1.isNon ok q.1]
    exact k F H _ _ (Same.refl F) ok (.bl _) q.2
  · exact q.elim
theorem de_is (ha : SE X a pa) (hb : SE X b pb) : DE X (.Compare a [.Is] [b] pos) (pBin (oIsN false) pa pb) := de_cmp op_isN (opp_isN false) ha hb (nomark _)
theorem dt_is (ha : SE X a pa) (hb : SE X b pb) : DT X (.Compare a [.Is] [b] pos) (pB (pBin (oIsN false) pa pb)) := dt_cmp op_isN (opp_isN false) ha hb (nomark _)
theorem de_isnot (ha : SE X a pa) (hb : SE X b pb) : DE X (.Compare a [.IsNot] [b] pos) (pBin (oIsN true) pa pb) := de_cmp op_notN (opp_isN true) ha hb (nomark _)
theorem dt_isnot (ha : SE X a pa) (hb : SE X b pb) : DT X (.Compare a [.IsNot] [b] pos) (pB (pBin (oIsN true) pa pb)) := dt_cmp op_notN (opp_isN true) ha hb (nomark _)
/-- a < b < c -/
def pChain (o o' : O2) (a b c : TPE) : TPE := fun ρ n R => a ρ n fun d n1 => b ρ n1 fun e n2 => o d e fun z => match z with
  | .bl t => if t = true then c ρ n2 fun f n3 => o' e f fun w => R w n3 else R (.bl false) n2
  | _ => False
theorem LQ.chain {g : G} {r r' : R2} {o o' : O2} (hp : OpP g.c.K r o) (hp' : OpP g.c.K r' o') {σ : L2.St} {H : Hp} {Q : VK} (h : LE g (pChain o o' pa pb pc) σ H Q) : tChain r r' (LQ g pa) (LQ g pb) (LQ g pc) σ H Q := by
  obtain ⟨n, F, ρ, R, ok, hq, k⟩ := h
  refine ⟨n, F, ρ, _, ok, hq, fun n1 F1 H1 x d s1 ok1 r1 h1 => ⟨n1, F1, ρ, _, ok1, h1, fun n2 F2 H2 y e s2 ok2 r2 h2 => ?_⟩⟩
  refine hp g n2 F2 H2 σ ρ x y d e _ _ rfl ok2 (r1.mono s2) r2 h2 fun F3 H3 v z s3 ok3 r3 h3 => ?_
  revert h3 r3
  cases z <;> intro r3 h3 <;> first | exact False.elim h3 | skip
  rename_i t
  cases r3
  refine ⟨t, rfl, ?_⟩
  cases t with
  | false => exact k n2 F3 H3 _ _ (s1.trans (s2.trans s3)) ok3 (.bl _) h3
  | true =>
    exact ⟨n2, F3, ρ, _, ok3, h3, fun n4 F4 H4 w f s4 ok4 r4 h4 => hp' g n4 F4 H4 σ ρ y w e f _ Q rfl ok4 ((r2.mono s3).mono s4) r4 h4 fun F5 H5 v z s5 ok5 r5 h5 => k n4 F5 H5 v z (s1.trans (s2.trans (s3.trans (s4.trans s5)))) ok5 r5 h5⟩
theorem de_chain {op op' : CmpOp} {r r' : R2} {o o' : O2} (ho : OpR X (compareOp op) r) (ho' : OpR X (compareOp op') r') (hp : OpP X.K r o) (hp' : OpP X.K r' o') (ha : SE X a pa) (hb : SE X b pb) (hc : SE X c pc) (hm : lastMarks [op, op'] [b, c] = false) : DE X (.Compare a [op, op'] [b, c] pos) (pChain o o' pa pb pc) ∧ DT X (.Compare a [op, op'] [b, c] pos) (pB (pChain o o' pa pb pc)) :=
  ⟨fun g hK => (pe_chain ho ho' (ha g hK) (hb g hK) (hc g hK) hm).imp fun σ H Q h => LQ.chain (by rw [hK]; exact hp) (by rw [hK]; exact hp') h,
   fun g hK => (pt_chain ho ho' (ha g hK) (hb g hK) (hc g hK) hm).imp fun σ H Q h => LQ.chain (by rw [hK]; exact hp) (by rw [hK]; exact hp') (LE.bool h)⟩
theorem opp_le {K : PySem.W.Frag} : OpP K (rI0 fun i j => V.bl (decide (i ≤ j))) oLe := op_rI0 fun _ _ _ _ => .bl _
theorem opp_ltI {K : PySem.W.Frag} : OpP K (rI0 fun i j => V.bl (decide (i < j))) (oI fun i j R => R (.bl (decide (i < j)))) := op_rI0 fun _ _ _ _ => .bl _
def oLtI : O2 := oI fun i j R => R (.bl (decide (i < j)))
theorem o_ltI (i j : Int) (Q : D → Prop) : oLtI (.int i) (.int j) Q = Q (.bl (decide (i < j))) := rfl
/-- a <= b < c, ints -/
theorem de_lelt (ha : SE X a pa) (hb : SE X b pb) (hc : SE X c pc) (hm : lastMarks [.LtE, .Lt] [b, c] = false := by with_unfolding_all rfl) : DE X (.Compare a [.LtE, .Lt] [b, c] pos) (pChain oLe oLtI pa pb pc) := (de_chain op_le op_lt opp_le opp_ltI ha hb hc hm).1
theorem dt_lelt (ha : SE X a pa) (hb : SE X b pb) (hc : SE X c pc) (hm : lastMarks [.LtE, .Lt] [b, c] = false := by with_unfolding_all rfl) : DT X (.Compare a [.LtE, .Lt] [b, c] pos) (pB (pChain oLe oLtI pa pb pc)) := (de_chain op_le op_lt opp_le opp_ltI ha hb hc hm).2
/-! ### a tuple of the module -/
theorem de_gtup {x : Str} {q : Addr} {xs : List V} {ds : List D} (hg : Gl X x) (hm : X.mg x = some (.ref q)) (hq : SqT X.K (fun _ => none) q xs) (hr : ∀ c F, Reps c F xs ds) (hd : (x == ("__debug__" : Str)) = false := by decide) : DE X (.Name x pos) (pC (.tup ds)) := fun g hK => (pe_glob (v := .ref q) hg hm rfl hd).imp fun σ H Q ⟨n, F, ρ, R, ok, hp, k⟩ => by
  refine k n F H _ _ (Same.refl F) ok (.tup ?_ (hr _ _)) hp
  rw [hK]
  rcases hq with hq | hq
  · rcases hq with hq | ⟨o, hq⟩ <;> cases hq
  · exact .inr hq
end
section
variable (ρ : PEnv) (n : Nat) (R : D → Nat → Prop) (Q : D → Prop) (W : Bool → Nat → Prop) (Z : List D → Nat → Prop) (C : List Cell → Nat → Prop) (P : Post) (p q r : TPE) (t : TPA) (tm : TPM) (o o' : O2)
theorem q_dget : pDGet p q ρ n R = p ρ n fun d m => q ρ m fun e k => match d with
  | .dic ks es => (match dKey e with | some j => (match dGet ks es j with | some z => R z k | none => False) | none => False)
  | _ => False := rfl
theorem q_dgett : pDGetT p q ρ n R = p ρ n fun d m => q ρ m fun e k => match d, e with
  | .dit ks es, .tup ds => (match dKeyL ds with | some j => (match dGet ks es j with | some z => R z k | none => False) | none => False)
  | _, _ => False := rfl
theorem q_int (neg : Bool) : pInT neg p q ρ n R = p ρ n fun e m => q ρ m fun d k => match d, e with
  | .dit ks es, .tup ds => (match dKeyL ds with | some j => ks.length = es.length ∧ R (.bl (if neg then !hasK j ks else hasK j ks)) k | none => False)
  | _, _ => False := rfl
theorem q_dput (i : Nat) : pDPut i q p P ρ n = match ρ[i]? with
  | some (.own (.dic ks es)) => p ρ n fun d m => q ρ m fun e k => (match dKey e with | some j => ks.length < sizeLine ∧ P.nx (ρ.set i (.own (.dic (dKeys ks j) (dVals ks es j d)))) k | none => False)
  | _ => False := rfl
theorem q_dputt (i : Nat) : pDPutT i q p P ρ n = match ρ[i]? with
  | some (.own (.dit ks es)) => p ρ n fun d m => q ρ m fun e k => (match e with | .tup ds => (match dKeyL ds with | some j => ks.length < sizeLine ∧ P.nx (ρ.set i (.own (.dit (dKeys ks j) (dVals ks es j d)))) k | none => False) | _ => False)
  | _ => False := rfl
theorem q_mnil : pMNil ρ n C = C [] n := rfl
theorem q_msh : pMSh p tm ρ n C = p ρ n fun d m => tm ρ m fun cs k => C (.sh d :: cs) k := rfl
theorem q_mown : pMOwn p tm ρ n C = p ρ n fun d m => tm ρ m fun cs k => C (.own d :: cs) k := rfl
theorem q_parm (is : List Nat) : pParM is tm P ρ n = tm ρ n fun cs m => cs.length = is.length ∧ P.nx (setC ρ is cs) m := rfl
theorem q_rd3 : pRangeD t ρ n Z = t ρ n fun ds m => match ds with
  | [.int i, .int j, .int k] => (-(2 ^ 62) ≤ i ∧ i < 2 ^ 62 ∧ -(2 ^ 62) ≤ j ∧ j < 2 ^ 62) ∧ k = -1 ∧ Z (downD i (i - j).toNat) m
  | _ => False := rfl
theorem q_chain : pChain o o' p q r ρ n R = p ρ n fun d n1 => q ρ n1 fun e n2 => o d e fun z => match z with
  | .bl t => if t = true then r ρ n2 fun f n3 => o' e f fun w => R w n3 else R (.bl false) n2
  | _ => False := rfl
theorem q_while (c : TPT) (b : TPS) : pWhile c b P ρ n = ∃ W : Nat → PEnv → Nat → Prop, (∃ m, W m ρ n) ∧ ∀ m ρ n, W m ρ n → c ρ n fun t n1 => if t = true then b { nx := fun ρ' n' => ∃ m', m' < m ∧ W m' ρ' n', ct := fun ρ' n' => ∃ m', m' < m ∧ W m' ρ' n', bk := P.nx, rt := P.rt } ρ n1 else P.nx ρ n1 := rfl
variable (i j : Int) (x y : Str) (ds es : List D) (neg : Bool) (d : D) (ks : List Key)
theorem o_in_lst : oInN neg d (.lst ds) Q = (flatD d = true ∧ ds.all flatD = true ∧ Q (.bl (if neg then !memD d ds else memD d ds))) := rfl
theorem o_in_tup : oInN neg d (.tup ds) Q = (flatD d = true ∧ ds.all flatD = true ∧ Q (.bl (if neg then !memD d ds else memD d ds))) := rfl
theorem o_in_dic : oInN neg d (.dic ks es) Q = match dKey d with | some k => ks.length = es.length ∧ Q (.bl (if neg then !hasK k ks else hasK k ks)) | none => False := rfl
theorem o_isn : oIsN neg d .non Q = (notO d = true ∧ Q (.bl (if neg then !isNon d else isNon d))) := rfl
theorem o_mult : oMulT (.tup ds) (.int i) Q = (ds ≠ [] ∧ 1 ≤ i ∧ i ≤ 1000 ∧ ds.length ≤ 1000 ∧ Q (.tup (List.replicate i.toNat ds).flatten)) := rfl
theorem o_suma_lst : oSumA [.lst ds] Q = match asInts ds with | some bs => Q (.int bs.sum) | none => False := rfl
theorem o_suma_tup : oSumA [.tup ds] Q = match asInts ds with | some bs => Q (.int bs.sum) | none => False := rfl
theorem o_lend : oLenD [.dic ks es] Q = Q (.int ks.length) := rfl
theorem o_tuplel : oTupleL [.lst ds] Q = Q (.tup ds) := rfl
theorem k_int : dKey (.int i) = some (.inl i) := rfl
theorem k_str : dKey (.str x) = some (.inr x) := rfl
end
end PL

/-! PL: further equations for the walk. -/
namespace PL
open PySem PySem.Spec L2
theorem o_suma_lstI (ns : List Int) (Q : D → Prop) : oSumA [.lst (ns.map D.int)] Q = Q (.int ns.sum) := by
  show (match asInts (ns.map D.int) with | some bs => Q (.int bs.sum) | none => False) = _
  rw [asInts_map]
theorem o_suma_tupI (ns : List Int) (Q : D → Prop) : oSumA [.tup (ns.map D.int)] Q = Q (.int ns.sum) := by
  show (match asInts (ns.map D.int) with | some bs => Q (.int bs.sum) | none => False) = _
  rw [asInts_map]
theorem o_sumI (ns : List Int) (Q : D → Prop) : oSum [.lst (ns.map D.int)] Q = Q (.int ns.sum) := by
  show (match asInts (ns.map D.int) with | some bs => Q (.int bs.sum) | none => False) = _
  rw [asInts_map]
end PL

/-! PL: sets of texts: set(list of texts), and such a set sorted. -/
namespace PL
open PySem PySem.Spec PyProof.Rows L2
abbrev tKind (P : Program) (w : World) := PySem.strKind P w
def txtOf (e : Int × Value) : Str := match e.2 with | .str k _ => k | _ => Str.empty
def TxtE (P : Program) (w : World) (e : Int × Value) : Prop := ∃ k u, e.2 = Value.str k u ∧ e.1 = (tKind P w).hash k
/-- the set at a has just the texts of l, each once; its table can be walked -/
def STx (P : Program) (w : World) (h : Heap) (a : Addr) (l : List Str) : Prop :=
  ∃ o es ep t, h.get? a = some o ∧ o.ExactSet ∧ o.data = .set es ep t ∧ (∀ e ∈ es.toList, TxtE P w e) ∧ (es.toList.map txtOf).Perm l ∧ l.Nodup ∧ es.size < scanBound ∧ t.fits es.size = true ∧ Ris t.place.toList ∧ (w.params.followText "set-order" = true ∨ t.led = true)
theorem STx.at {P : Program} {w : World} {h h' : Heap} {a : Addr} {l : List Str} (R : STx P w h a l) (k : ∀ o, h.get? a = some o → h'.get? a = some o) : STx P w h' a l := by
  obtain ⟨o, es, ep, t, x, r⟩ := R
  exact ⟨o, es, ep, t, k o x, r⟩
theorem tkey (P : Program) (w : World) (k : Str) (u : Tok) : (tKind P w).is k (.str k u) = true := strKind_is P w k u
theorem txt_elems {P : Program} {w : World} {l : List (Int × Value)} (g : ∀ e ∈ l, TxtE P w e) : ElemsOf (tKind P w) l := fun e he => by
  obtain ⟨k, u, e1, e2⟩ := g e he
  exact ⟨⟨k, by rw [e1]; exact tkey P w k u, e2⟩, by rw [e1] <;> rfl⟩
theorem txt_is {P : Program} {w : World} {e : Int × Value} (g : TxtE P w e) (k : Str) : (tKind P w).is k e.2 = true ↔ txtOf e = k := by
  obtain ⟨k0, u, e1, _⟩ := g
  unfold txtOf
  rw [e1]
  show Value.isStrOf k (.str k0 u) = true ↔ k0 = k
  simp [Value.isStrOf]
theorem txt_mem {P : Program} {w : World} {l : List (Int × Value)} (g : ∀ e ∈ l, TxtE P w e) (k : Str) : k ∈ l.map txtOf ↔ ∃ e ∈ l, (tKind P w).is k e.2 = true := by
  rw [List.mem_map]
  exact ⟨fun ⟨e, he, q⟩ => ⟨e, he, (txt_is (g e he) k).2 q⟩, fun ⟨e, he, q⟩ => ⟨e, he, (txt_is (g e he) k).1 q⟩⟩
section
variable {P : Program} {w : World} {A : Around} {E : Value → Shared → Prop} {s : Shared} {a : Addr}
theorem txt_tail {g : Bool → Sem Unit} (hg : ∀ (b : Bool) (s' : Shared) (Q' : Unit → Shared → Prop), Q' () s' → wpAny (model P w) A (g b) Q' E s')
    {o : Obj} {es : Array (Int × Value)} {ep : Nat} {t : SetTable} (x0 : s.heap.get? a = some o) (x1 : o.ExactSet) (x2 : o.data = .set es ep t) {fs : Array (Int × Value)} {t2 : SetTable} {l : List Str} (g1 : ∀ e ∈ fs.toList, TxtE P w e)
    (p1 : (fs.toList.map txtOf).Perm l) (nd : l.Nodup) (b1 : fs.size < scanBound) (f2 : t2.fits fs.size = true) (r2 : Ris t2.place.toList) (l2 : w.params.followText "set-order" = true ∨ t2.led = true) {dummy : Bool} {R : Option Bool → Shared → Prop}
    (hR : ∀ h', Heap.SameBut a s.heap h' → STx P w h' a l → R (some true) { s with heap := h' }) :
    wpAny (model P w) A (do
        storeSet a fs t2
        if (!dummy && t2.tooFull) = true then do
            g (relayAll t2 fs (SetTable.grown fs.size)).2.2
            storeSet a (relayAll t2 fs (SetTable.grown fs.size)).1 (relayAll t2 fs (SetTable.grown fs.size)).2.1
            pure (some true)
          else pure (some true)) R E s := by
  refine wpAny_bind (wpAny_storeSet_of x0 x2 ?_ (fits_of_scanBound b1))
  have y0 := store_at (es' := fs) (t' := t2) x0 x2
  have sb := Heap.SameBut.update s.heap a (Obj.putSet fs t2)
  split
  · have pm := relayAll_perm t2 fs (SetTable.grown fs.size)
    have f3 := relayAll_fits t2 fs (SetTable.grown fs.size)
    have r3 := relayAll_ris t2 fs (SetTable.grown fs.size)
    have l3 := relayAll_led t2 fs (SetTable.grown fs.size)
    generalize relayAll t2 fs (SetTable.grown fs.size) = Z at pm f3 r3 l3 ⊢
    obtain ⟨gs, t3, gv⟩ := Z
    dsimp only at pm f3 r3 l3 ⊢
    have sz : gs.size = fs.size := by rw [← Array.length_toList, pm.length_eq, Array.length_toList]
    have b2 : gs.size < scanBound := by rw [sz]; exact b1
    refine wpAny_bind (hg _ _ _ (wpAny_bind (wpAny_storeSet_of y0 rfl ?_ (fits_of_scanBound b2))))
    have z0 := store_at (es' := gs) (t' := t3) y0 rfl
    exact wpAny_pure (hR _ (sb.trans (Heap.SameBut.update _ a _)) ⟨_, gs, _, t3, z0, x1, rfl, fun e he => g1 e (pm.mem_iff.mp he), (pm.map txtOf).trans p1, nd, b2, f3, r3, l2.imp id fun z => by rw [l3]; exact z⟩)
  · exact wpAny_pure (hR _ sb ⟨_, fs, _, t2, y0, x1, rfl, g1, p1, nd, b1, f2, r2, l2⟩)
theorem txt_add {k : Str} {u : Tok} {l : List Str} {Q : Bool → Shared → Prop} (R : STx P w s.heap a l) (room : l.length + 1 < scanBound)
    (hQ : ∀ h' b, Heap.SameBut a s.heap h' → STx P w h' a (if k ∈ l then l else k :: l) → Q b { s with heap := h' }) :
    wpAny (model P w) A (setAddHashed a (.str k u) ((tKind P w).hash k)) Q E s := by
  obtain ⟨o, es, ep, t, x0, x1, x2, g, pl, nd, hb, hf, hr, hl⟩ := R
  have sc : (Value.str k u).scannable = true := rfl
  have el : ElemsOf (tKind P w) es.toList := txt_elems g
  have mem : ∀ j, j ∈ l ↔ ∃ e ∈ es.toList, (tKind P w).is j e.2 = true := fun j => (pl.mem_iff).symm.trans (txt_mem g j)
  have len : es.size = l.length := by rw [← pl.length_eq, List.length_map, Array.length_toList]
  unfold setAddHashed setAddHashedIn
  refine wpAny_holding (wpAny_bind (wpAny_setState_of x0 x2 hf ?_))
  dsimp only
  rw [byScan_of sc hb el]
  simp only [↓reduceIte]
  unfold setAddByScan
  refine wpAny_bind (wpAny_bind (wpAny_rule (wpAny_bind (wpAny_setScan_of (tkey P w k u) x0 x2 hf el ?_))))
  cases fi : List.findIdx? (fun e => (tKind P w).is k e.2) es.toList with
  | some j =>
    dsimp only
    obtain ⟨hj, pj, _⟩ := List.findIdx?_eq_some_iff_getElem.mp fi
    have hk : k ∈ l := (mem k).2 ⟨es.toList[j], List.getElem_mem hj, pj⟩
    refine wpAny_pure (wpAny_pure (hQ s.heap _ (Heap.SameBut.refl a s.heap) ?_))
    rw [if_pos hk]
    exact ⟨o, es, ep, t, x0, x1, x2, g, pl, nd, hb, hf, hr, hl⟩
  | none =>
    dsimp only
    have hk : k ∉ l := fun z => by
      obtain ⟨e, he, q⟩ := (mem k).1 z
      have c := List.findIdx?_eq_none_iff.mp fi e he
      rw [q] at c
      cases c
    rw [if_neg hk] at hQ
    have way : ∀ (b : Bool) {s' : Shared} {Q' : Unit → Shared → Prop}, Q' () s' → wpAny (model P w) A (match b with | true => rule "set.scan.the-table-gave-way" | false => pure ()) Q' E s' :=
      fun b s' Q' q => by cases b <;> first | exact wpAny_pure q | exact wpAny_rule q
    have pm := layNew_perm t es ((tKind P w).hash k) (.str k u)
    have f1 := layNew_fits t es ((tKind P w).hash k) (.str k u)
    have r1 := layNew_ris t es ((tKind P w).hash k) (.str k u) hr
    have l1 := layNew_led t es ((tKind P w).hash k) (.str k u)
    generalize layNew t es ((tKind P w).hash k) (.str k u) = Z at pm f1 r1 l1 ⊢
    obtain ⟨fs, t1, dummy, gv⟩ := Z
    dsimp only at pm f1 r1 l1 ⊢
    rw [Array.toList_push] at pm
    have pc : fs.toList.Perm (((tKind P w).hash k, Value.str k u) :: es.toList) := pm.trans (List.perm_append_singleton _ _)
    have pk : (fs.toList.map txtOf).Perm (k :: l) := (pc.map txtOf).trans (List.Perm.cons k pl)
    have g1 : ∀ e ∈ fs.toList, TxtE P w e := fun e he => by
      rcases List.mem_cons.mp (pc.mem_iff.mp he) with z | z
      · rw [z]; exact ⟨k, u, rfl, rfl⟩
      · exact g e z
    have n1 : (k :: l).Nodup := List.nodup_cons.mpr ⟨hk, nd⟩
    have sz : fs.size = l.length + 1 := by rw [← Array.length_toList, pc.length_eq, List.length_cons, Array.length_toList, len]
    have b1 : fs.size < scanBound := by rw [sz]; exact room
    have led : w.params.followText "set-order" = true ∨ t1.led = true := hl.imp id fun z => by rw [l1]; exact z
    refine wpAny_bind (way _ ?_)
    split
    · refine wpAny_bind ?_
      rw [hashByValue_scannable 8 sc]
      refine wpAny_pure (txt_tail ?_ x0 x1 x2 g1 pk n1 b1 ?_ ?_ ?_ ?_)
      · intro b s' Q' q; cases b <;> first | exact wpAny_pure q | exact wpAny_rule q
      · first | (split <;> first | exact f1 | exact SetTable.fits_plain_off f1) | exact f1
      · first | (split <;> exact r1) | exact r1
      · first | (split <;> exact led) | exact led
      · intro h' sb r; dsimp only; exact wpAny_pure (hQ h' _ sb r)
    · refine wpAny_bind (wpAny_pure ?_)
      simp only [↓reduceIte]
      refine txt_tail ?_ x0 x1 x2 g1 pk n1 b1 f1 r1 led ?_
      · intro b s' Q' q; cases b <;> first | exact wpAny_pure q | exact wpAny_rule q
      · intro h' sb r; dsimp only; exact wpAny_pure (hQ h' _ sb r)
/-- the texts of a list, each once -/
def once : List Str → List Str
  | [] => []
  | x :: xs => if x ∈ once xs then once xs else x :: once xs
theorem once_len : ∀ l : List Str, (once l).length ≤ l.length
  | [] => Nat.le_refl _
  | x :: l => by
    have := once_len l
    rw [once, List.length_cons]; split
    · omega
    · rw [List.length_cons]; omega
theorem once_mem : ∀ {l : List Str} {x : Str}, x ∈ once l ↔ x ∈ l
  | [], x => Iff.rfl
  | y :: l, x => by
    rw [once, List.mem_cons]
    split
    · next h =>
      rw [once_mem]
      exact ⟨.inr, fun z => z.elim (fun e => e ▸ once_mem.mp h) id⟩
    · rw [List.mem_cons, once_mem]
theorem once_nodup : ∀ l : List Str, (once l).Nodup
  | [] => List.nodup_nil
  | x :: l => by
    rw [once]; split
    · exact once_nodup l
    · next h => exact List.nodup_cons.mpr ⟨h, once_nodup l⟩
/-- texts put in one behind the other -/
theorem txt_loop {I : Addr} {fp wr : List Addr} {G : Array GenState → Array GenState → Prop} {n : Nat} {Pv : Nat → Value → Prop} {St : Nat → Shared → Prop} {R : Result → Shared → Prop}
    (W : WalksS P w A.in1 I fp wr G n Pv St) (S : Addr) (hS : S ∉ fp) (ns : List Str) (hn : n = ns.length) (hb : ns.length + 1 < scanBound) (hv : ∀ i v, Pv i v → ∃ k t, ns[i]? = some k ∧ v = .str k t) :
    ∀ (k i : Nat) (s : Shared), n - i = k → i ≤ n → St i s → STx P w s.heap S (once (ns.take i).reverse) →
      (∀ s', Moved (S :: wr) G s s' → STx P w s'.heap S (once ns.reverse) → R (.ok (.ret .none)) s') →
      codeAny (model P w) A (.builtin "set.update.loop" ⟨[.ref S, .ref I], []⟩) R s := by
  have hw : S ∉ wr := fun h => hS (W.sub _ h)
  have sub : ∀ b ∈ wr, b ∈ S :: wr := fun b hb => List.mem_cons_of_mem _ hb
  intro k
  induction k with
  | zero =>
    intro i s hk hi st x R'
    have : i = n := by omega
    subst this
    refine codeAny_builtin PyProof.Rows.F.entry_set_update_loop ?_; rw [Around.under_plainId PyProof.Rows.F.plain_set_update_loop _]
    show wpAny _ A.in1 (pyNext (.ref I) >>= _) _ _ s
    refine wpAny_bind (W.done s _ _ st fun s' hm => ?_)
    show wpAny _ A.in1 (ret Value.none) _ _ s'
    rw [List.take_of_length_le (by omega)] at x
    exact wpAny_pure (R' s' (hm.mono sub) (x.at fun o e => hm.heap S o hw e))
  | succ k ih =>
    intro i s hk hi st x R'
    have lt : i < n := by omega
    refine codeAny_builtin PyProof.Rows.F.entry_set_update_loop ?_; rw [Around.under_plainId PyProof.Rows.F.plain_set_update_loop _]
    show wpAny _ A.in1 (pyNext (.ref I) >>= _) _ _ s
    refine wpAny_bind (W.item i s _ _ lt st fun v s' hP st' hm => ?_)
    obtain ⟨z, t, hz, rfl⟩ := hv i v hP
    have x' : STx P w s'.heap S (once (ns.take i).reverse) := x.at fun o e => hm.heap S o hw e
    have le : (once (ns.take i).reverse).length ≤ i := Nat.le_trans (once_len _) (by simp; omega)
    show wpAny _ A.in1 (holding [Value.str z t] (setAdd S (.str z t)) >>= _) _ _ s'
    refine wpAny_bind (wpAny_holding ?_)
    unfold setAdd
    refine wpAny_holding (wpAny_bind ((tKind P w).pyHash (k := z) (tkey _ _ _ _) ?_))
    refine txt_add (s := { s' with toks := s'.toks + 1 }) x' (by omega) fun h' b sb x2 => ?_
    have x3 : STx P w h' S (once (ns.take (i + 1)).reverse) := by
      rw [List.take_add_one, hz, Option.toList, List.reverse_append, List.reverse_singleton, List.singleton_append, once]
      exact x2
    refine wpAny_pure ⟨plainId_quiet PyProof.Rows.F.plain_set_update_loop _, ih (i + 1) _ (by omega) lt (W.frame _ s' _ _ st' (Nat.le_succ _) fun b hb o e => ?_) x3 fun s'' m2 x4 => ?_⟩
    · exact (sb.2 b fun h : b = S => hS (h ▸ hb)).trans e
    · refine R' s'' (Moved.trans W.gtrans ((hm.mono sub).then_heap (Nat.le_succ _) fun b o hb e => ?_) m2) x4
      exact (sb.2 b fun h : b = S => hb (h ▸ List.mem_cons_self)).trans e
end
end PL

/-! PL: set(list of texts), such a set sorted. -/
namespace PL
open PySem PySem.Spec PyProof.Rows L2
/-- a new set -/
abbrev nS (w : World) : Obj := { cls := .type "set", dict := none, data := .set #[] 0 (.fresh 0 0 (!w.params.followText "set-order")) }
theorem stx_new {P : Program} {w : World} {h : Heap} {a : Addr} (x : h.get? a = some (nS w)) : STx P w h a [] :=
  ⟨_, #[], 0, _, x, ⟨rfl, rfl, rfl⟩, rfl, (fun e he => by simp at he), List.Perm.refl _, List.nodup_nil, by decide, by rfl, List.Pairwise.nil, by
    show _ ∨ (!w.params.followText "set-order") = true
    by_cases q : w.params.followText "set-order" = true
    · exact .inl q
    · exact .inr (by simp [q])⟩
section
variable {P : Program} {w : World} {A : Around} {E : Value → Shared → Prop} {s : Shared}
theorem txt_at : ∀ {us : List Value} {xs : List Str}, StrsAre us xs → ∀ (i : Nat) (v : Value), us[i]? = some v → ∃ t, v = .str (xs.getD i Str.empty) t
  | _, _, .nil, i, v, h => by simp at h
  | _, _, .cons k u r, 0, v, h => by
    simp at h; subst h
    exact ⟨u, rfl⟩
  | _, _, .cons k u r, i + 1, v, h => by
    obtain ⟨t, e⟩ := txt_at r i v (by simpa using h)
    exact ⟨t, by rw [e]; rfl⟩
theorem call_set_txts {l : Addr} {items : Array Value} (ns : List Str) {Q : Value → Shared → Prop} (hh : A.handled = none) (hl : s.heap.IsList l items) (hit : StrsAre items.toList ns) (hb : ns.length + 1 < scanBound)
    (h : ∀ (h' : Heap) (tk : Nat), STx P w h' s.heap.objs.size (once ns.reverse) → (∀ b o, s.heap.get? b = some o → h'.get? b = some o) → Q (.ref s.heap.objs.size) { s with heap := h', toks := tk }) :
    wpAny (model P w) A (call (.type "set") [.ref l]) Q E s := by
  have isz : items.size = ns.length := by rw [← Array.length_toList, StrsAre.len_eq hit]
  obtain ⟨c, tl, mro⟩ := PySem.F.called_set.mro
  have made := PySem.F.called_set.made
  have subs := PySem.F.called_set.sub
  refine wpAny_call (codeAny_of_tree (?_ : wpAny _ _ (callAny (.type "set") _) _ _ _))
  refine wpAny_pure ⟨Code.quiet_builtin _ (by decide +kernel), codeAny_builtin PySem.F.entry_type_call ?_⟩; rw [Around.under_plain (weight_type_call_type "set" [.ref l] []) rfl]
  have q1 := PySem.F.called_set.notType
  have q2 := PySem.F.called_set.canCreate
  have q3 := PySem.F.typeCall_set_1 (.ref l)
  (repeat (any_goals (first | assumption | wp_step)))
  refine codeAny_mono (code_set_led1 (.ref l) (E := E) (Q₁ := fun obj s' => obj = .ref s.heap.objs.size ∧ s' = { s with heap := s.heap.push (nS w) }) ⟨rfl, rfl⟩) fun r s' hr => ?_
  cases r with
  | error e => exact hr
  | ok fl =>
    cases fl with
    | ret obj =>
      obtain ⟨rfl, rfl⟩ := hr
      have hS : (s.heap.push (nS w)).get? s.heap.objs.size = some (nS w) := Heap.get?_push_size _ rfl
      have hT : Shared.TypeIs { s with heap := s.heap.push (nS w) } (.ref s.heap.objs.size) "set" := ⟨_, hS, rfl⟩
      have i1 := PySem.F.called_set.init.lookup
      have i2 := PySem.F.called_set.init.bind (.ref s.heap.objs.size)
      (repeat (any_goals (first | assumption | wp_step)))
      refine codeAny_mono (codeAny_call_builtin (R := wants (fun r z => r = .none ∧ ∃ h' tk, z = { s with heap := h', toks := tk } ∧ STx P w h' s.heap.objs.size (once ns.reverse) ∧ (∀ b o, s.heap.get? b = some o → h'.get? b = some o)) E) PySem.F.called_set.init.plain PySem.F.entry_set_init (check_set_init_1 hT ?_)) fun r2 z hr2 => ?_
      · obtain ⟨ol, hol, hcl, nl, hdl⟩ := hl
        obtain ⟨ocls, odict, odata, oslots⟩ := ol
        simp only at hcl hdl
        subst hcl; subst hdl
        have hol' : (s.heap.push (nS w)).get? l = some { cls := .type "list", dict := odict, data := .seq items nl, slots := oslots } := Heap.get?_push_of_some _ hol
        have u1 := PySem.F.sub_list_set
        have u2 := PySem.F.sub_list_frozenset
        have u3 : (Value.type "list" == Value.type "dict") = false := by decide
        have il : (s.heap.push (nS w)).IsList l items := ⟨_, hol', rfl, nl, rfl⟩
        unfold Builtin.«set.__init__» noKeywords Builtin.Frozenset.updateFrom
        generalize hPI : pyIter = PI
        wp_walk
        subst hPI
        refine wpAny_pyIter_list il (wpAny_bind (wpAny_runValue ?_))
        have lS : l < s.heap.objs.size := Heap.lt_size hol
        have h3 : A.in1.in1.in1.handled = none := by simp [hh]
        have neI : l ≠ (s.heap.push (nS w)).objs.size := by rw [Heap.size_push]; exact Nat.ne_of_lt (Nat.lt_succ_of_lt lS)
        have Sf : s.heap.objs.size ∉ [(s.heap.push (nS w)).objs.size, l] := by
          rw [Heap.size_push]
          intro z
          rcases List.mem_cons.mp z with z | z
          · exact absurd z (Nat.ne_of_lt (Nat.lt_succ_self _))
          · exact absurd (List.mem_singleton.mp z) (Nat.ne_of_gt lS)
        have val : ∀ (i : Nat) (v : Value), items[i]? = some v → ∃ k t, ns[i]? = some k ∧ v = .str k t := fun i v hv => by
          have hi : i < ns.length := by rw [← isz]; exact (Array.getElem?_eq_some_iff.mp hv).1
          obtain ⟨t, e⟩ := txt_at hit i v (by rw [Array.getElem?_toList]; exact hv)
          refine ⟨ns[i], t, List.getElem?_eq_getElem hi, ?_⟩
          rw [e, List.getD_eq_getElem?_getD, List.getElem?_eq_getElem hi] <;> rfl
        refine txt_loop ((Walks.list h3 _ l neI items).toS) s.heap.objs.size Sf ns isz hb val (items.size - 0) 0 _ (by omega) (Nat.zero_le _) ⟨⟨_, Heap.get?_push_size _ rfl, rfl, rfl⟩, (il.push _)⟩ ?c0 ?cR
        case c0 => exact stx_new (Heap.get?_push_of_some _ hS)
        case cR =>
          intro s' hm hS'
          obtain ⟨h', g', d', tk', os'⟩ := s'
          obtain rfl : g' = s.gens := hm.gens
          obtain rfl : d' = s.drawn := hm.drawn
          obtain rfl : os' = s.os := hm.os
          refine wpAny_pure (?_ : wpAny _ _ (ret Value.none) _ _ _)
          refine wpAny_pure ⟨rfl, h', tk', rfl, hS', fun b o e => ?_⟩
          have c0 : b < s.heap.objs.size := Heap.lt_size e
          refine hm.heap b o (fun z => ?_) (Heap.get?_push_of_some _ (Heap.get?_push_of_some _ e))
          rcases List.mem_cons.mp z with z | z
          · exact absurd z (Nat.ne_of_lt c0)
          · have z := List.mem_singleton.mp z
            rw [Heap.size_push] at z
            exact absurd z (Nat.ne_of_lt (Nat.lt_succ_of_lt c0))
      · cases r2 with
        | error e => exact hr2
        | ok fl2 =>
          cases fl2 with
          | ret r =>
            obtain ⟨rfl, h', tk, rfl, hS', hk⟩ := hr2
            (repeat (any_goals (first | assumption | wp_step)))
            exact h _ _ hS' hk
          | _ => exact hr2.elim
    | _ => exact hr.elim
/-- sorted(set of texts) -/
theorem txts_of : ∀ (l : List Value), (∀ v ∈ l, ∃ k u, v = Value.str k u) → StrsAre l (l.map fun v => match v with | .str k _ => k | _ => Str.empty)
  | [], _ => .nil
  | v :: l, h => by
    obtain ⟨k, u, rfl⟩ := h v List.mem_cons_self
    exact .cons k u (txts_of l fun z hz => h z (List.mem_cons_of_mem _ hz))
theorem sorted_txts {a : Addr} {l : List Str} {Q : Value → Shared → Prop} (R : STx P w s.heap a l) (hh : A.handled = none) (h64 : l.length < 64)
    (hQ : ∀ s' p (out : Array Value) (c : Nat) (ys : List Str), (∀ b o, s.heap.get? b = some o → s'.heap.get? b = some o) → s'.gens = s.gens → s'.os = s.os → s.heap.objs.size ≤ p →
      s'.heap.get? p = some (seqObj "list" out c) → StrsAre out.toList ys → ys.Perm l → sortedS ys = true → Q (.ref p) s') :
    wpAny (model P w) A (call (.builtin "sorted") [.ref a]) Q E s := by
  obtain ⟨o, es, ep, t, x0, x1, x2, g, pl, nd, hb, hf, hr, hl⟩ := R
  refine Calls.call_function_entry kind_sorted plain_sorted entry_sorted (args_sorted1 _) ?_
  unfold Builtin.«sorted»
  refine wpAny_bind (m := checkCount "sorted" 1 1 _) (wpAny_pure (wpAny_bind (collect_set (A := A.in1) hh ⟨o, x0, x1.1, x2⟩ hf hb hr hl fun s1 vs k1 hz g1 o1 pm => ?_)))
  have len : vs.length = l.length := by rw [pm.length_eq, List.length_map, ← pl.length_eq, List.length_map]
  have hI : StrsAre vs (vs.map fun v => match v with | .str k _ => k | _ => Str.empty) := txts_of vs fun v hv => by
    obtain ⟨e, he, q⟩ := List.mem_map.mp (pm.mem_iff.mp hv)
    obtain ⟨k, u, e1, _⟩ := g e he
    exact ⟨k, u, by rw [← q]; exact e1⟩
  have pk : (vs.map fun v => match v with | .str k _ => k | _ => Str.empty).Perm l := by
    have q := pm.map fun v => match v with | .str k _ => k | _ => Str.empty
    rw [List.map_map] at q
    exact q.trans pl
  refine wpAny_bind (wpAny_newList ?_ (by rw [len, sizeLine_eq]; omega))
  have oL : (s1.heap.push (seqObj "list" vs.toArray 0)).get? s1.heap.objs.size = some (seqObj "list" vs.toArray 0) := Heap.get?_push_size _ rfl
  refine wpAny_bind (wpAny_holding (wpAny_call_entry slot_list_sort ⟨_, oL, rfl⟩ entry_list_sort (list_sort_treeK strKind_oneLt oL hI.keysOf (fun a b r e => keyKind_strs (by rw [← e]; exact hI)) (by rw [len]; exact h64) fun st' hp hs => ⟨_, rfl, ?_⟩) (args_list_sort _)))
  obtain ⟨ys, y1, y2, y3⟩ := sorted_out_str hI hp hs
  obtain ⟨c, hc⟩ := sortedHeap_at (vs := vs) (out := (arrOf st').map (·.2)) oL
  refine wpAny_pure ⟨_, rfl, hQ _ s1.heap.objs.size _ c ys (fun b u e => ?_) g1 o1 hz hc y1 (y2.trans pk) y3⟩
  have q := k1 b u e
  have lt := Heap.lt_size q
  exact (sortedHeap_old (Nat.ne_of_lt lt) (by rw [size_push']; exact Nat.lt_succ_of_lt lt)).trans (Heap.get?_push_of_some _ q)
end
end PL

/-! PL: instances of the program's own classes: attributes read, stored by __init__, instances made. -/
namespace PL
open PySem PySem.Spec L2
open PyProof.Rows (envOfC)
/-- what is known of a class -/
def ClsT (K : PySem.W.Frag) (k : Nat) : Prop := ∃ C, clsOf K k = some C ∧ Cls K C ∧ ∀ f ∈ CN k, NoAttr K C f
theorem CN_mod (k : Nat) : CN k = CN (k % 1000) := by unfold CN; rw [Nat.mod_mod]
theorem cls_mod (K : PySem.W.Frag) (k : Nat) : clsOf K k = clsOf K (k % 1000) := by unfold clsOf CM; rw [Nat.mod_mod]
theorem lookup_zip {f : Str} {v : V} : ∀ {ns : List Str} {xs : List V} {i : Nat}, ns.Nodup → ns[i]? = some f → xs[i]? = some v → (ns.zip xs).lookup f = some v
  | [], _, _, _, h, _ => by simp at h
  | _ :: _, [], _, _, _, h => by simp at h
  | g :: ns, x :: xs, 0, _, h, h' => by
    simp at h h'; subst h; subst h'
    rw [List.zip_cons_cons, List.lookup_cons, beq_self_eq_true]
  | g :: ns, x :: xs, i + 1, nd, h, h' => by
    obtain ⟨n1, n2⟩ := List.nodup_cons.mp nd
    have ne : (f == g) = false := beq_eq_false_iff_ne.mpr fun z => n1 (z ▸ List.mem_of_getElem? (by simpa using h))
    rw [List.zip_cons_cons, List.lookup_cons, ne]
    exact lookup_zip n2 (by simpa using h) (by simpa using h')
theorem putF_new {f : Str} {v : V} : ∀ {fs : List (Str × V)}, (∀ p ∈ fs, p.1 ≠ f) → putF f v fs = fs ++ [(f, v)]
  | [], _ => rfl
  | (g, x) :: r, h => by
    unfold putF
    rw [if_neg (h (g, x) List.mem_cons_self), putF_new fun p hp => h p (List.mem_cons_of_mem _ hp)]; rfl
theorem RR.obj {g : G} {F : Hp} {σ : L2.St} {ρ : PEnv} {x : V} {k : Nat} {ds : List D} {n : Nat} {H : Hp} (ok : Ok g n F H σ ρ) (h : RR g F σ ρ x (.obj k ds)) (hk : k % 1000 ≠ 999) :
    ∃ a C dx xs, x = .ref a ∧ H a = some (.ins C dx (((CN k).take ds.length).zip xs)) ∧ clsOf g.c.K k = some C ∧ ds.length ≤ (CN k).length ∧ Reps g.c F xs ds := by
  rcases h with h | ⟨i, hi, hs⟩
  · cases h with
    | obj e1 e2 e3 r => exact ⟨_, _, _, _, rfl, ok.sub _ _ e2, e1, e3, r⟩
    | opq => exact absurd (by decide) hk
    | exc => exact absurd (by omega) hk
  · obtain ⟨a, o, e1, e2, _, _, _, z⟩ := ok.cells i _ hi
    rw [hs] at e1
    cases e1
    cases z with
    | obj q0 q1 q2 r => exact ⟨_, _, _, _, rfl, e2, q1, q2, r⟩
section
variable {X : Cx} {e a b c o tg value : Expr} {es : List Expr} {p pa pb pc : TPE} {pos pos' pf p2 : Pos} {ta tk : TPA} {k i j : Nat} {f : Str}
/-- e.f -/
def pFld (k i : Nat) (p : TPE) : TPE := fun ρ n R => p ρ n fun d m => match d with
  | .obj k' ds => k' % 1000 = k ∧ (match ds[i]? with | some z => R z m | none => False)
  | _ => False
theorem de_fld (T : ClsT X.K k) (he : SE X e p) (hi : (CN k)[i]? = some f := by rfl) (hk : k ≠ 999 := by decide) (hnd : (CN k).Nodup := by decide) (hb : attributeBase e f X.env (eval e X.env) = eval e X.env := by rfl) : DE X (.Attribute e f pos) (pFld k i p) := fun g hK => (pe_fld (he g hK) hb).imp fun σ H Q ⟨n, F, ρ, R, ok, hq, q⟩ => by
  refine ⟨n, F, ρ, _, ok, hq, fun n1 F1 H1 x d s1 ok1 r1 h1 => ?_⟩
  revert h1 r1
  cases d <;> intro r1 h1 <;> first | exact False.elim h1 | skip
  rename_i k' ds
  obtain ⟨rfl, h1⟩ := h1
  rw [← CN_mod] at hi hnd
  cases z : ds[i]? with
  | none => rw [z] at h1; exact h1.elim
  | some d =>
    rw [z] at h1
    obtain ⟨a, C, dx, xs, rfl, hH, hC, hl, rs⟩ := r1.obj ok1 hk
    obtain ⟨v, hv, rv⟩ := rs.get z
    obtain ⟨C', c1, c2, c3⟩ := T
    rw [hK, cls_mod, c1] at hC
    obtain rfl := Option.some.inj hC
    have hlt : i < ds.length := lt_of_get z
    have hn : ((CN k').take ds.length)[i]? = some f := by rw [List.getElem?_take_of_lt hlt]; exact hi
    rw [← CN_mod] at c3
    exact ⟨a, _, dx, _, v, rfl, hH, c2, c3 f (List.mem_of_getElem? hi), lookup_zip (hnd.sublist (List.take_sublist _ _)) hn hv, q n1 F1 H1 v d s1 ok1 rv h1⟩
/-- self.f = e, the next attribute -/
def pFSet (i k j : Nat) (p : TPE) : TPS := fun P ρ n => p ρ n fun d m => match (ρ[i]? : Option Cell) with
  | some (.own (.obj k' ds)) => k' % 1000 = k ∧ ds.length = j ∧ P.nx (ρ.set i (.own (.obj k' (ds ++ [d])))) m
  | _ => False
theorem ds_fset (T : ClsT X.K k) (ho : PE X o (tVar i)) (hv : DE X value p) (hi : (CN k)[j]? = some f := by rfl) (hk : k ≠ 999 := by decide) (hnd : (CN k).Nodup := by decide) (h1000 : (CN k).length < 1000 := by decide) (hs : swapsWith value (some (.Attribute o f pos')) pos.line X.env = pure false := by rfl) :
    DS X (.Assign [.Attribute o f pos'] value pos) (pFSet i k j p) := fun g hK => (ps_fld ho (hv g hK) hs).imp fun D σ H ⟨n, F, ρ, P, ok, h, q⟩ => by
  refine ⟨n, F, ρ, _, ok, h, fun n1 F1 H1 y d s1 ok1 ry h1 => ?_⟩
  revert h1
  cases z : ρ[i]? with
  | none => intro h1; exact False.elim h1
  | some cl =>
    cases cl with
    | any => intro h1; exact False.elim h1
    | sh _ => intro h1; exact False.elim h1
    | own dd =>
      cases dd <;> intro h1 <;> first | exact False.elim h1 | skip
      rename_i k' ds
      obtain ⟨rfl, rfl, h1⟩ := h1
      rw [← CN_mod] at hi hnd h1000
      obtain ⟨a, u, e1, e2, e3, e4, e5, cz⟩ := ok1.cells i _ z
      cases cz with
      | obj q0 q1 q2 rs =>
        rename_i C dx xs
        obtain ⟨C', c1, c2, c3⟩ := T
        have q1' := q1
        rw [hK, cls_mod, c1] at q1'
        obtain rfl := Option.some.inj q1'
        have hj : ds.length < (CN k').length := lt_of_get hi
        have hl : xs.length = ds.length := rs.length
        have ft : f ∉ (CN k').take ds.length := fun m => by
          obtain ⟨jj, hj1⟩ := List.getElem?_of_mem m
          have hlt : jj < ds.length := by
            have := lt_of_get hj1
            rw [List.length_take] at this; omega
          rw [List.getElem?_take_of_lt hlt] at hj1
          have := (List.getElem?_inj (i := jj) (j := ds.length) (by omega) hnd).mp (hj1.trans hi.symm)
          omega
        have ep : putF f y (((CN k').take ds.length).zip xs) = ((CN k').take (ds ++ [d]).length).zip (xs ++ [y]) := by
          have nw : ∀ p ∈ ((CN k').take ds.length).zip xs, p.1 ≠ f := fun p hp z => ft (by rw [← z]; exact (List.of_mem_zip hp).1)
          rw [putF_new nw, List.length_append, List.length_singleton, List.take_add_one, hi, Option.toList, List.zip_append (by rw [List.length_take, hl]; omega)]
          rfl
        rw [← CN_mod] at c3
        refine ⟨.ref a, e1, a, _, dx, _, rfl, e2, c2, c3 f (List.mem_of_getElem? hi), ?_, ?_⟩
        · rw [List.length_zip, List.length_take]; omega
        · rw [ep]
          refine q.nx n1 F1 _ σ _ s1 (ok1.write z e1 (.obj q0 q1 ?_ (rs.append (.cons ry .nil)))) h1
          rw [List.length_append, List.length_singleton]; omega
/-- a statement that is never come to -/
theorem ds_never {st : Stmt} : DS X st (fun _ _ _ => False) := fun g hK => ⟨fun pins s σ H D I h => by
  obtain ⟨n, F, ρ, P, ok, h, _⟩ := h
  exact h.elim⟩
end
/-! ### __init__ -/
def envI (m k : Nat) (ds : List D) : PEnv := .own (.obj k []) :: (ds.map Cell.sh ++ List.replicate (m - (ds.length + 1)) .any)
/-- what is wanted behind __init__ -/
def nxI (kc kk : Nat) (R : D → Nat → Prop) : PEnv → Nat → Prop := fun ρ m => match (ρ[0]? : Option Cell) with | some (.own (.obj k fs)) => k = kk ∧ R (.obj kc fs) m | _ => False
def spI (K : PySem.W.Frag) (kc : Nat) (S : Spec) : Sp := fun vs H Q _ => ∃ (x dx C : Addr) (vs' : List V) (Hb : Hp) (c : Cfg) (n : Nat) (F : Hp) (ds : List D) (R : D → Nat → Prop), vs = .ref x :: vs' ∧ H = upd (upd Hb dx (.own x)) x (.ins C dx []) ∧ Hb x = none ∧ Hb dx = none ∧ dx ≠ x ∧ clsOf K kc = some C ∧ c.K = K ∧
  Same F Hb ∧ (∀ b, c.fp b → F b = none) ∧ DeckAt c n Hb ∧ Reps c F vs' ds ∧ S ds n R ∧
  ∀ n' F' H' o fs, Same F F' → (∀ b y, Hb b = some y → ¬ c.fp b → H' b = some y) → Same F' H' → (∀ b, c.fp b → F' b = none) → (∀ b, Hb b ≠ none → F b = none → F' b = none) → DeckAt c n' H' →
    H' x = some o → F' x = none → (F'' : Hp) → F'' = upd F' x o → Rep c F'' (.ref x) (.obj kc fs) → R (.obj kc fs) n' → Q .non H'
theorem Ok.startI {c : Cfg} {n kk : Nat} {F Hb : Hp} {x dx C : Addr} {vs : List V} {ds : List D} {N : List Str} (hx : Hb x = none) (hd : Hb dx = none) (ne : dx ≠ x) (hk : kk / 1000 = x + 1) (hC : clsOf c.K kk = some C) (h1 : Same F Hb) (h2 : ∀ b, c.fp b → F b = none) (h3 : DeckAt c n Hb) (r : Reps c F vs ds) (hl : vs.length + 1 ≤ N.length) :
    Ok ⟨c, Hb, F, fun _ => none⟩ n F (upd (upd Hb dx (.own x)) x (.ins C dx [])) (L2.start N (.ref x :: vs)) (envI N.length kk ds) := by
  have keep : ∀ b y, Hb b = some y → (upd (upd Hb dx (.own x)) x (.ins C dx [])) b = some y := fun b y e => by
    rw [upd_ne (ne_of_none e hx), upd_ne (ne_of_none e hd)]; exact e
  have nfx : ¬ c.fp x := fun q => h3.there q hx
  have nfd : ¬ c.fp dx := fun q => h3.there q hd
  have own0 : ∀ {i : Nat} {d : D}, (envI N.length kk ds)[i]? = some (.own d) → i = 0 := fun {i d} h => by
    cases i with
    | zero => rfl
    | succ i =>
      exfalso
      unfold envI at h
      have h : (ds.map Cell.sh ++ List.replicate (N.length - (ds.length + 1)) Cell.any)[i]? = some (.own d) := by simpa using h
      rcases List.mem_append.mp (List.mem_of_getElem? h) with m | m
      · obtain ⟨_, _, z⟩ := List.mem_map.mp m; cases z
      · have := List.eq_of_mem_replicate m; cases this
  exact {
    keep := fun b y e _ => keep b y e
    sub := fun b y e => keep b y (h1 b y e)
    ffp := h2
    new := fun b _ e => e
    dk := h3.keep fun b q => by
      have n1 : b ≠ x := fun z => by subst z; exact nfx q
      have n2 : b ≠ dx := fun z => by subst z; exact nfd q
      rw [upd_ne n1, upd_ne n2]
    pin := fun b y q => nomatch q
    len := by unfold L2.start envI; simp [r.length]
    cells := fun i cl e => by
      unfold envI at e
      cases i with
      | zero =>
        simp at e
        subst e
        exact ⟨x, _, rfl, upd_same, h1.free hx, hx, ⟨nfx, rfl⟩, .obj (ds := []) (xs := []) (fun _ => hk) hC (Nat.zero_le _) .nil⟩
      | succ i =>
        have e : (ds.map Cell.sh ++ List.replicate (N.length - (ds.length + 1)) Cell.any)[i]? = some cl := by simpa using e
        have st : (L2.start N (.ref x :: vs))[i + 1]? = (vs.map some ++ List.replicate (N.length - (vs.length + 1)) none)[i]? := by
          unfold L2.start; simp
        rw [st]
        by_cases hi : i < ds.length
        · rw [List.getElem?_append_left (by simpa using hi)] at e
          obtain ⟨v, d, rfl, hv, rv⟩ := reps_map_get i r cl e
          rw [List.getElem?_append_left (by rw [List.length_map, r.length]; exact hi)]
          exact ⟨v, hv, rv⟩
        · rw [List.getElem?_append_right (by simpa using hi), List.getElem?_replicate] at e
          split at e
          · cases e; trivial
          · cases e
    mon := Same.refl _
    disj := fun i j d e o q1 q2 _ _ => by rw [own0 q1, own0 q2] }
section
variable {P : Program} {w : World} {K : PySem.W.Frag} {mg : Str → Option Value} {base : Heap}
theorem _root_.L2.Fun.okI {x qual : Str} {st : Stmt} {f : Addr} {fd : FuncData} {N : List Str} {s0 : Str} {ps : List Str} {k kc : Nat} {S : Spec} (hkc : kc < 999) (Fu : Fun K x qual st f fd) (sc : FnScope N (s0 :: ps) (defScope st)) (len : ∀ ds n R, S ds n R → ds.length = ps.length)
    (hbody : ∀ (cdv : Value) (A : Around) (outer : List Env) (s : Shared) (H : Hp) (E : XK), A.guards = some [] → Room k (A.deeper (envOfC qual (defScope st) s.heap.objs.size f cdv)) →
      ∃ q, DSs (cxOf CX0 P w K mg base N qual (defScope st) f cdv A outer s H E).nox (defBody st) q ∧ ∀ kk, kk % 1000 = kc → ∀ ds n R, S ds n R → q { nx := nxI kc kk R, rt := fun _ _ => False } (envI N.length kk ds) n) : FnG P w K mg base (k + 1) f fd (s0 :: ps) (spI K kc S) := by
  have hpl : ps.length + 1 ≤ N.length := by have := congrArg List.length sc.pre; rw [List.length_take, List.length_cons] at this; omega
  refine Fu.okG sc (fun vs H Q E h => ?_) (fun cdv A outer s H vs Q E hgd hr h => ?_)
  · obtain ⟨x, dx, C, vs', Hb, c, n, F, ds, R, rfl, rfl, _, _, _, _, _, _, _, _, r, hS, _⟩ := h
    rw [List.length_cons, List.length_cons, r.length, len ds n R hS]
  · obtain ⟨x, dx, C, vs', Hb, c, n, F, ds, R, rfl, rfl, hx, hd, ne, hC, hK, h1, h2, h3, r, hS, hq⟩ := h
    obtain ⟨q, hd', hb⟩ := hbody cdv A outer s _ E hgd hr
    have km : (kc + 1000 * (x + 1)) % 1000 = kc := by omega
    have kd : (kc + 1000 * (x + 1)) / 1000 = x + 1 := by omega
    refine ⟨LS ⟨c, Hb, F, fun _ => none⟩ q, hd' _ hK, n, F, envI N.length (kc + 1000 * (x + 1)) ds, _, Ok.startI hx hd ne kd (by rw [hK, cls_mod, km]; exact hC) h1 h2 h3 r ?_, hb _ km ds n R hS, ?_⟩
    · rw [r.length, len ds n R hS]; exact hpl
    · refine ⟨fun n' F' H' σ' ρ' s ok h => ?_, fun _ _ _ _ _ _ _ _ _ _ h => h.elim, fun _ _ _ _ _ _ _ h => h.elim, fun _ _ _ _ _ _ _ h => h.elim⟩
      have h : nxI kc (kc + 1000 * (x + 1)) R ρ' n' := h
      unfold nxI at h
      split at h
      · rename_i kk fs hz
        obtain ⟨rfl, hR⟩ := h
        obtain ⟨a, o, e1, e2, e3, e4, e5, cz⟩ := ok.cells 0 _ hz
        have hrep : Rep c (upd F' a o) (.ref a) (.obj (kc + 1000 * (x + 1)) fs) := (cz.mono (same_upd e3)).rep upd_same
        cases cz with
        | obj q0 q1 q2 rs =>
          have : a = x := by
            have z := q0 (by omega)
            rw [kd] at z
            exact (Nat.succ.inj z).symm
          subst this
          refine hq n' F' H' _ fs s ok.keep ok.sub ok.ffp ok.new ok.dk e2 e3 _ rfl ?_ hR
          rw [cls_mod, km] at q1
          have hCN : CN (kc + 1000 * (a + 1)) = CN kc := by rw [CN_mod, km]
          rw [hCN] at q2 ⊢
          exact .obj q1 upd_same q2 (rs.mono (same_upd e3))
      · exact h.elim
end
/-! ### instances made -/
/-- a class of the program: how its instances are made -/
def MkC (P : Program) (w : World) (K : PySem.W.Frag) (mg : Str → Option Value) (base : Heap) (k : Nat) (x : Str) (kc : Nat) (s0 : Str) (ps : List Str) (S : Spec) : Prop :=
  ∃ (C f : Addr) (fd : FuncData), FnG P w K mg base k f fd (s0 :: ps) (spI K kc S) ∧ Mk K C f ∧ mg x = some (.ref C) ∧ clsOf K kc = some C ∧ Binds K fd (s0 :: ps) []
theorem Ok.freezeAt {g : G} {n : Nat} {F H : Hp} {σ : L2.St} {ρ : PEnv} (k : Ok g n F H σ ρ) {a : Addr} {o : HO} (hH : H a = some o) (hF : F a = none) (h0 : g.H0 a = none) (hf : ¬ g.c.fp a) (hp : g.pin a = none) (hn : ∀ (j : Nat) (e : D), ρ[j]? = some (.own e) → σ[j]? ≠ some (some (.ref a))) : Ok g n (upd F a o) H σ ρ where
  keep := k.keep
  sub := fun b y q => by
    by_cases hb : b = a
    · subst hb; rw [upd_same] at q; cases q; exact hH
    · rw [upd_ne hb] at q; exact k.sub b y q
  ffp := fun b q => by
    have ne : b ≠ a := fun z => by subst z; exact hf q
    rw [upd_ne ne]; exact k.ffp b q
  new := fun b q m => by
    have ne : b ≠ a := fun z => by subst z; exact q h0
    rw [upd_ne ne]; exact k.new b q m
  dk := k.dk
  pin := fun b y q => by
    obtain ⟨p1, p2, p3⟩ := k.pin b y q
    have ne : b ≠ a := fun z => by subst z; rw [hp] at q; cases q
    rw [upd_ne ne]; exact ⟨p1, p2, p3⟩
  len := k.len
  cells := fun j cl e => by
    have h := k.cells j cl e
    cases cl with
    | any => trivial
    | sh d => obtain ⟨v, q1, q2⟩ := h; exact ⟨v, q1, q2.mono (same_upd hF)⟩
    | own d =>
      obtain ⟨b, y, q1, q2, q3, q4, q5, q6⟩ := h
      have nb : b ≠ a := fun z => by subst z; exact hn j d e q1
      exact ⟨b, y, q1, q2, by rw [upd_ne nb]; exact q3, q4, q5, q6.mono (same_upd hF)⟩
  mon := k.mon.trans (same_upd hF)
  disj := k.disj
section
variable {X : Cx} {k kc : Nat} {s0 : Str} {ps : List Str} {S : Spec} {x : Str} {pf pos : Pos} {e : Expr} {es : List Expr} {t tk : TPA} {kws : List Keyword}
theorem run_new {C f : Addr} {fd : FuncData} {pps : List Str} {sp : Sp} {E : XK} {pins : List (Addr × Obj)} {σ : L2.St} {H : Hp} {s : Shared} {Q : VK} {us : List Value} {vs : List V} (M : Mk X.K C f) (F : FnG X.prog X.w X.K X.mg X.base k f fd pps sp) (hgd : X.A.guards = some []) (hr : Room (k + 1) X.A) (hb : Binds X.K fd pps []) (I : Inv X pins σ H s) (r : Vals vs us)
    (h : ∀ y dy, H y = none → H dy = none → dy ≠ y → sp (.ref y :: vs) (upd (upd H dy (.own y)) y (.ins C dy [])) (fun v H2 => v = .non ∧ Q (.ref y) H2) E) :
    wpAny (model X.prog X.w) X.A (call (.ref C) us) (EP X pins σ Q) X.xe s := by
  have J := Inv.made (C := C) I
  obtain ⟨y, hy⟩ : ∃ y : Addr, s.heap.objs.size + 1 = y := ⟨_, rfl⟩
  rw [hy] at J
  have hq := h y s.heap.objs.size (I.hok.fresh (by rw [← hy]; exact Nat.le_succ _)) (I.hok.fresh (Nat.le_refl _)) (by rw [← hy]; exact Nat.ne_of_lt (Nat.lt_succ_self _))
  have r2 : Vals (V.ref y :: vs) (Value.ref y :: us) := .cons rfl r
  have b := hb _ (Value.ref y :: us) J.kIn (by rw [List.append_nil, ← r2.length]; exact F.len _ _ _ _ hq)
  rw [List.append_nil] at b
  subst hy
  refine wpAny_call (make_map (f := f) I.kIn M.makes M.init (beq_iff_eq.mp M.fn) (codeAny_mono (F.run _ X.stack _ _ ⟨_, []⟩ _ _ _ E hgd (hr.make C us []) (J.env0.make C us []) b r2 hq) fun res s' hq' => ?_))
  match res, hq' with
  | .ok (.ret u), hq' =>
    obtain ⟨v, H', I3, rv, ev, q3⟩ := J.after hq'
    subst ev
    exact ⟨rv, ⟨V.ref _, H', I3, rfl, q3⟩⟩
  | .ok .next, hq' => exact False.elim hq'
  | .ok .brk, hq' => exact False.elim hq'
  | .ok .cont, hq' => exact False.elim hq'
  | .error e, hq' => exact False.elim hq'
theorem de_make (Fn : MkC X.prog X.w X.K X.mg X.base k x kc s0 ps S) (hgd : X.A.guards = some []) (hr : Room (k + 1) X.A) (ha : DA X (e :: es) t) (hg : Gl X x := by rfl) (hdb : (x == ("__debug__" : Str)) = false := by decide)
    (he : starEach (e :: es) X.env = (false, eval e X.env) :: starEach es X.env := by rfl) (hpl : (backTo pos (starEach es X.env)).any (·.1) = false := by rfl) : DE X (.Call (.Name x pf) (e :: es) [] pos) (pFn S t) := by
  obtain ⟨C, f, fd, h1, h2, h3, h4, h5⟩ := Fn
  intro g hK
  have step : PE X (.Call (.Name x pf) (e :: es) [] pos) (fun σ H Q => (LA g t) σ H fun vs H1 => ∀ y dy, H1 y = none → H1 dy = none → dy ≠ y → spI X.K kc S (.ref y :: vs) (upd (upd H1 dy (.own y)) y (.ins C dy [])) (fun v H2 => v = .non ∧ Q (.ref y) H2) (fun _ _ _ => False)) := by
    constructor
    intro pins s σ H Q I h
    refine wpAny_Call_Name_kw (ld_glob I hg h3 ?_ hdb)
    refine PySem.W.callWith_K (h₀ := X.base) I.ok.mod.kin h2.kp (thn ((ha g hK).run pos pins s σ H _ I h) ?_) he hpl
    rintro us s1 ⟨vs, H1, I1, r, q⟩
    exact ⟨I1.kIn, run_new h2 h1 hgd hr h5 I1 r q⟩
  refine step.imp fun σ H Q ⟨n, F, ρ, R, ok, hq, kk⟩ => ?_
  refine ⟨n, F, ρ, _, ok, hq, fun n1 F1 H1 vs ds s1 ok1 r1 q1 y dy hy hdy hne => ?_⟩
  refine ⟨y, dy, C, vs, H1, g.c, n1, F1, ds, R, rfl, rfl, hy, hdy, hne, h4, hK, ok1.sub, ok1.ffp, ok1.dk, r1, q1, fun n' F' H' o fs a1 a2 a3 a4 a5 a6 a7 a8 F'' hF rep hR => ⟨rfl, ?_⟩⟩
  subst hF
  have ok2 := ok1.after a1 a2 a3 a4 a5 a6
  have ok3 := ok2.freezeAt a7 a8 (ok1.freeH0 hy) (ok1.nofp hy) (ok1.freeP hy) fun j d hj hz => by
    obtain ⟨b, u, e1, e2, _⟩ := ok1.cells j _ hj
    rw [hz] at e1
    cases e1
    rw [hy] at e2; cases e2
  exact kk n' _ H' _ _ (s1.trans (a1.trans (same_upd a8))) ok3 rep hR
end
end PL

/-! PL: < of tuples of ints and texts, in of texts, sorted, sorted(set of texts). -/
namespace PL
open PySem PySem.Spec L2
open PySem.SeqAt (EqAt)
/-! ### < of tuples -/
def keyLt : Key → Key → Bool
  | .inl i, .inl j => decide (i < j)
  | .inr s, .inr t => decide (s.cps.toList < t.cps.toList)
  | _, _ => false
def lexK : List Key → List Key → Bool
  | [], [] => false
  | [], _ :: _ => true
  | _ :: _, [] => false
  | x :: xs, y :: ys => if x = y then lexK xs ys else keyLt x y
def kindK : Key → Key → Bool
  | .inl _, .inl _ => true
  | .inr _, .inr _ => true
  | _, _ => false
def kindsK : List Key → List Key → Bool
  | x :: xs, y :: ys => kindK x y && kindsK xs ys
  | _, _ => true
theorem kindsK_at : ∀ {xs ys : List Key} {i : Nat} {x y : Key}, kindsK xs ys = true → xs[i]? = some x → ys[i]? = some y → kindK x y = true
  | [], _, _, _, _, _, h, _ => by simp at h
  | _ :: _, [], _, _, _, _, _, h => by simp at h
  | a :: xs, b :: ys, 0, x, y, hk, h, h' => by
    simp at h h'; subst h; subst h'
    rw [kindsK, Bool.and_eq_true] at hk
    exact hk.1
  | a :: xs, b :: ys, i + 1, x, y, hk, h, h' => by
    rw [kindsK, Bool.and_eq_true] at hk
    exact kindsK_at hk.2 (by simpa using h) (by simpa using h')
theorem lexAt_K : ∀ (xs ys : List Key) (e r : Nat → Bool) (z : Bool) (i : Nat), (∀ j x y, xs[j]? = some x → ys[j]? = some y → e (i + j) = decide (x = y) ∧ r (i + j) = keyLt x y) → z = decide (xs.length < ys.length) → Ob.lexAt e r z i (min xs.length ys.length) = lexK xs ys
  | [], [], e, r, z, i, _, hz => by rw [hz]; rfl
  | [], y :: ys, e, r, z, i, _, hz => by rw [hz]; simp [Ob.lexAt_zero, lexK]
  | x :: xs, [], e, r, z, i, _, hz => by rw [hz]; simp [Ob.lexAt_zero, lexK]
  | x :: xs, y :: ys, e, r, z, i, h, hz => by
    have h0 := h 0 x y rfl rfl
    rw [Nat.add_zero] at h0
    have ih := lexAt_K xs ys e r z (i + 1) (fun j a b ha hb => by
      have := h (j + 1) a b (by simpa using ha) (by simpa using hb)
      rwa [show i + (j + 1) = i + 1 + j by omega] at this) (by rw [hz]; simp)
    rw [List.length_cons, List.length_cons, Nat.add_min_add_right, Ob.lexAt_succ, h0.1, h0.2, lexK, ih]
    by_cases c : x = y
    · simp [c]
    · simp [c]
theorem vals_key : ∀ {ks : List Key} {us : List Value} {j : Nat} {k : Key}, Vals (ks.map kV) us → ks[j]? = some k → ∃ u, us[j]? = some u ∧ RelV (kV k) u := fun {ks us j k} r h => by
  obtain ⟨u, h1, h2⟩ := r.get (i := j) (x := kV k) (by rw [List.getElem?_map, h]; rfl)
  exact ⟨u, h1, h2⟩
section
variable {X : Cx} {e a b c o tg : Expr} {es : List Expr} {p pa pb pc : TPE} {pos pf p2 q : Pos} {ta tk : TPA}
theorem op_ltK (hu : X.A.units < cLine) : OpR X (compareOp .Lt) (fun x y H Q => ∃ a b ks ms, x = .ref a ∧ y = .ref b ∧ SqT X.K H a (ks.map kV) ∧ SqT X.K H b (ms.map kV) ∧ kindsK ks ms = true ∧ Q (.bl (lexK ks ms)) H) := by
  intro pins s σ H x y v u Q I rx ry h
  obtain ⟨a, b, ks, ms, rfl, rfl, ha, hb, hk, q⟩ := h
  cases rx
  cases ry
  obtain ⟨its, r1, p1, _⟩ := I.tuple ha
  obtain ⟨its2, r2, p2, _⟩ := I.tuple hb
  have l1 : its.toArray.size = ks.length := by have := r1.length; simp at this ⊢; omega
  have l2 : its2.toArray.size = ms.length := by have := r2.length; simp at this ⊢; omega
  have at1 : ∀ j (hj : j < its.toArray.size), ∃ k, ks[j]? = some k ∧ RelV (kV k) its.toArray[j] := fun j hj => by
    obtain ⟨u, h1, h2⟩ := vals_key (j := j) (k := ks[j]'(by omega)) r1 (List.getElem?_eq_getElem _)
    refine ⟨_, List.getElem?_eq_getElem (by omega), ?_⟩
    have : its.toArray[j] = u := by
      obtain ⟨_, z⟩ := List.getElem?_eq_some_iff.mp h1
      simpa using z
    rw [this]; exact h2
  have at2 : ∀ j (hj : j < its2.toArray.size), ∃ k, ms[j]? = some k ∧ RelV (kV k) its2.toArray[j] := fun j hj => by
    obtain ⟨u, h1, h2⟩ := vals_key (j := j) (k := ms[j]'(by omega)) r2 (List.getElem?_eq_getElem _)
    refine ⟨_, List.getElem?_eq_getElem (by omega), ?_⟩
    have : its2.toArray[j] = u := by
      obtain ⟨_, z⟩ := List.getElem?_eq_some_iff.mp h1
      simpa using z
    rw [this]; exact h2
  have eqs : ∀ j (h1 : j < its.toArray.size) (h2 : j < its2.toArray.size), EqAt X.A.in1 s its.toArray[j] its2.toArray[j] (match ks[j]?, ms[j]? with | some x, some y => decide (x = y) | _, _ => false) := fun j h1 h2 => by
    obtain ⟨k, e1, z1⟩ := at1 j h1
    obtain ⟨m, e2, z2⟩ := at2 j h2
    have kd := kindsK_at hk e1 e2
    rw [e1, e2]
    generalize its.toArray[j] = A1 at z1 ⊢
    generalize its2.toArray[j] = A2 at z2 ⊢
    match k, m, kd, z1, z2 with
    | .inl i, .inl i', _, ⟨t, z1⟩, ⟨t', z2⟩ =>
      subst z1; subst z2
      have := EqAt.int_int (A := X.A.in1) (s := s) i t i' t'
      have e : (i == i') = decide ((Sum.inl i : Key) = Sum.inl i') := by
        by_cases h : i = i' <;> simp [h]
      rw [e] at this
      exact this
    | .inr i, .inr i', _, ⟨t, z1⟩, ⟨t', z2⟩ =>
      subst z1; subst z2
      have := EqAt.str_str (A := X.A.in1) (s := s) i t i' t'
      have e : (i == i') = decide ((Sum.inr i : Key) = Sum.inr i') := by
        by_cases h : i = i' <;> simp [h]
      rw [e] at this
      exact this
  have lts : ∀ j (h1 : j < its.toArray.size) (h2 : j < its2.toArray.size), (match ks[j]?, ms[j]? with | some x, some y => decide (x = y) | _, _ => false) = false → Ob.RcOp .Lt X.A.in1 s its.toArray[j] its2.toArray[j] (match ks[j]?, ms[j]? with | some x, some y => keyLt x y | _, _ => false) := fun j h1 h2 _ => by
    obtain ⟨k, e1, z1⟩ := at1 j h1
    obtain ⟨m, e2, z2⟩ := at2 j h2
    have kd := kindsK_at hk e1 e2
    rw [e1, e2]
    generalize its.toArray[j] = A1 at z1 ⊢
    generalize its2.toArray[j] = A2 at z2 ⊢
    match k, m, kd, z1, z2 with
    | .inl i, .inl i', _, ⟨t, z1⟩, ⟨t', z2⟩ =>
      subst z1; subst z2
      exact Ob.RcOp.lt_int i i' t t'
    | .inr i, .inr i', _, ⟨t, z1⟩, ⟨t', z2⟩ =>
      subst z1; subst z2
      exact fun _ _ _ _ h => PyProof.Rows.lt_str h
  have fin := Ob.RcOp.tuples_lt (A := X.A) (s := s) p1 p2 hu eqs lts
  have el : Ob.lexAt (fun j => match ks[j]?, ms[j]? with | some x, some y => decide (x = y) | _, _ => false) (fun j => match ks[j]?, ms[j]? with | some x, some y => keyLt x y | _, _ => false) (decide (its.toArray.size < its2.toArray.size)) 0 (min its.toArray.size its2.toArray.size) = lexK ks ms := by
    rw [l1, l2]
    refine lexAt_K ks ms _ _ _ 0 (fun j x y hx hy => ?_) rfl
    rw [Nat.zero_add]
    exact ⟨by simp only [hx, hy], by simp only [hx, hy]⟩
  rw [el] at fin
  exact fin _ _ _ _ ⟨.bl (lexK ks ms), H, I, rfl, q⟩
def oLtA : O2 := fun d e R => match d, e with
  | .int i, .int j => R (.bl (decide (i < j)))
  | .str s, .str t => R (.bl (decide (s.cps.toList < t.cps.toList)))
  | .tup ds, .tup es => (match dKeyL ds, dKeyL es with | some ks, some ms => kindsK ks ms = true ∧ R (.bl (lexK ks ms)) | _, _ => False)
  | _, _ => False
theorem de_ltA (hu : X.A.units + 64 < cLine) (ha : SE X a pa) (hb : SE X b pb) : DE X (.Compare a [.Lt] [b] pos) (pBin oLtA pa pb) ∧ DT X (.Compare a [.Lt] [b] pos) (pB (pBin oLtA pa pb)) := by
  have hp : OpP X.K (fun x y H Q => rI0 (fun i j => V.bl (decide (i < j))) x y H Q ∨ ((∃ i j, x = .str i ∧ y = .str j ∧ Q (.bl (decide (i.cps.toList < j.cps.toList))) H) ∨ ∃ a b ks ms, x = .ref a ∧ y = .ref b ∧ SqT X.K H a (ks.map kV) ∧ SqT X.K H b (ms.map kV) ∧ kindsK ks ms = true ∧ Q (.bl (lexK ks ms)) H)) oLtA := fun g n F H σ ρ x y d e R Q hK ok r1 r2 q k => by
    have q : oLtA d e R := q
    unfold oLtA at q
    split at q
    · exact .inl ⟨_, _, r1.int ok, r2.int ok, k F H _ _ (Same.refl F) ok (.bl _) q⟩
    · exact .inr (.inl ⟨_, _, r1.str ok, r2.str ok, k F H _ _ (Same.refl F) ok (.bl _) q⟩)
    · split at q
      · rename_i ks ms h1 h2
        obtain ⟨a, xs, rfl, s1, t1, _⟩ := r1.tup ok
        obtain ⟨b, ys, rfl, s2, t2, _⟩ := r2.tup ok
        rw [hK] at s1 s2
        rw [Reps.keys t1 h1] at s1
        rw [Reps.keys t2 h2] at s2
        exact .inr (.inr ⟨a, b, ks, ms, rfl, rfl, s1, s2, q.1, k F H _ _ (Same.refl F) ok (.bl _) q.2⟩)
      · exact q.elim
    · exact q.elim
  exact ⟨de_cmp (op_lt.or (op_lt_str.or (op_ltK (by omega)))) hp ha hb (nomark _), dt_cmp (op_lt.or (op_lt_str.or (op_ltK (by omega)))) hp ha hb (nomark _)⟩
/-! ### in of texts -/
theorem one_sign {x : Str} {c : Nat} (h : x.cps.toList = [c]) : x = ⟨#[c]⟩ := by
  cases x with
  | mk cps => exact congrArg Str.mk (Array.toList_inj.mp h)
theorem opp_inS {K : PySem.W.Frag} : OpP K (fun x y H Q => ∃ (c : Nat) (z : Str), x = .str ⟨#[c]⟩ ∧ y = .str z ∧ Q (.bl (decide (c ∈ z.cps.toList))) H) (fun d e R => match d, e with | .str x, .str z => (match x.cps.toList with | [c] => R (.bl (decide (c ∈ z.cps.toList))) | _ => False) | _, _ => False) := fun g n F H σ ρ x y d e R Q hK ok r1 r2 q k => by
  dsimp only at q
  split at q
  · split at q
    · rename_i s z _ c hc
      rw [one_sign hc] at r1
      exact ⟨c, z, r1.str ok, r2.str ok, k F H _ _ (Same.refl F) ok (.bl _) q⟩
    · exact q.elim
  · exact q.elim
def oInS : O2 := fun d e R => match d, e with | .str x, .str z => (match x.cps.toList with | [c] => R (.bl (decide (c ∈ z.cps.toList))) | _ => False) | _, _ => False
theorem de_inS (ha : SE X a pa) (hb : SE X b pb) (hm : behindInMarks .In b = false := by rfl) : DE X (.Compare a [.In] [b] pos) (pBin oInS pa pb) := de_cmp op_in_sign opp_inS ha hb hm
theorem dt_inS (ha : SE X a pa) (hb : SE X b pb) (hm : behindInMarks .In b = false := by rfl) : DT X (.Compare a [.In] [b] pos) (pB (pBin oInS pa pb)) := dt_cmp op_in_sign opp_inS ha hb hm
/-! ### sorted(set of texts) -/
def TxO (P : Program) (w : World) (a : Addr) (l : List Str) : HO := .ext fun h => STx P w h a l
theorem txO_new {P : Program} {w : World} {H : Hp} {h : Heap} {a : Addr} {l : List Str} (R : STx P w h a l) : ObjOk P w H h a (TxO P w a l) := by
  obtain ⟨o, es, ep, t, x, r⟩ := id R
  exact ⟨R, ⟨o, x⟩, fun h1 h2 p k => p.at fun o e => k o e⟩
theorem cr_setTx (hc : X.calm = true) : CallR X (.type "set") (fun xs H Q => ∃ (l : Addr) (ns : List Str), xs = [V.ref l] ∧ SqL X.K H l (ns.map V.str) ∧ ns.length < 60 ∧ ∀ a, H a = none → Q (.ref a) (upd H a (TxO X.prog X.w a (once ns.reverse)))) := by
  intro pins s σ H xs us Q I r h
  obtain ⟨l, ns, rfl, hl, hf, q⟩ := h
  rw [Vals.ref1 r]
  obtain ⟨its, rv, pl, hz⟩ := I.list hl
  have hn : H s.heap.objs.size = none := I.hok.fresh (Nat.le_refl _)
  have hb : ns.length + 1 < scanBound := by unfold scanBound; omega
  refine call_set_txts (P := X.prog) (w := X.w) ns (I.ok.hd hc) pl.isList (by simpa using rv.strs) hb fun h' tk R k => ?_
  exact ⟨.ref s.heap.objs.size, _, I.laid (t' := tk) k (Nat.le_refl _) (txO_new R), rfl, q _ hn⟩
theorem cr_sortedTx (hc : X.calm = true) : CallR X (.builtin "sorted") (fun vs H Q => ∃ (a : Addr) (l : List Str), vs = [V.ref a] ∧ H a = some (TxO X.prog X.w a l) ∧ l.length < 60 ∧ ∀ (ys : List Str) (p : Addr), ys.Perm l → PyProof.Rows.sortedS ys = true → H p = none → Q (.ref p) (upd H p (.lst (ys.map V.str)))) := by
  intro pins s σ H vs us Q I r h
  obtain ⟨a, l, rfl, ha, h64, q⟩ := h
  have R : STx X.prog X.w s.heap a l := (I.hok a _ ha).1
  rw [Vals.ref1 r]
  refine sorted_txts R (I.ok.hd hc) (by omega) fun s' p out c ys k g o hp hg hi hs hm => ?_
  have len : (ys.map V.str).length ≤ sizeLine := by rw [List.length_map, hs.length_eq, sizeLine_val]; omega
  have hn : H p = none := I.hok.fresh hp
  have J : Inv X pins σ (upd H p (.lst (ys.map V.str))) { s with heap := s'.heap, gens := s'.gens, drawn := s'.drawn, toks := s'.toks } :=
    I.call (ch := []) (Un.laid k hp hn) (I.hok.laid k hp ⟨len, out.toList, c, vals_of_strs hi, hg⟩) (by rw [g]; exact I.bare) (fun _ z => nomatch z)
  obtain ⟨h', g', d', t', o'⟩ := s'
  obtain rfl : o' = s.os := o
  exact ⟨.ref p, _, J, rfl, q ys p hs hm hn⟩
def pSrtSet (t : TPA) : TPE := fun ρ n R => t ρ n fun ds m => match ds with
  | [.lst xs] => (match asStrs xs with | some ns => ns.length < 60 ∧ ∀ ys : List Str, ys.Perm (once ns.reverse) → PyProof.Rows.sortedS ys = true → R (.lst (ys.map D.str)) m | none => False)
  | _ => False
theorem fe_sortSet (hm : X.mg "sorted" = none) (hg : Gl X "sorted") (hm2 : X.mg "set" = none) (hg2 : Gl X "set") (ha : SA X [e] ta) (hc : X.calm = true := by rfl) (he : starEach [e] X.env = (false, eval e X.env) :: starEach [] X.env := by rfl)
    (he2 : starEach [.Call (.Name "set" p2) [e] [] q] X.env = (false, eval (.Call (.Name "set" p2) [e] [] q) X.env) :: starEach [] X.env := by rfl) : FE X (.Call (.Name "sorted" pf) [.Call (.Name "set" p2) [e] [] q] [] pos) (pSrtSet ta) := fun g hK =>
  (pe_callB (cr_sortedTx hc) hg hm (by decide +kernel) (pa_cons (pe_callTy (cr_setTx hc) hg2 hm2 (by decide +kernel) (ha g hK) (he := he) (hpl := rfl)) pa_nil he2) (he := he2) (hpl := rfl)).imp fun σ H Q ⟨n, F, ρ, R, ok, hq, k⟩ =>
  ⟨n, F, ρ, _, ok, hq, fun n1 F1 H1 vs ds s1 ok1 r1 h1 => by
    match ds, r1, h1 with
    | [.lst zs], .cons r .nil, h1 =>
      obtain ⟨l, xs, rfl, e1, t1⟩ := r.lst ok1
      have h1 : (match asStrs zs with | some ns => ns.length < 60 ∧ ∀ ys : List Str, ys.Perm (once ns.reverse) → PyProof.Rows.sortedS ys = true → R (.lst (ys.map D.str)) n1 | none => False) := h1
      split at h1
      · rename_i ns hz
        rw [t1.strsV hz] at e1
        refine ⟨l, ns, rfl, SqL.of e1, h1.1, fun a hn => ?_⟩
        refine ⟨a, _, rfl, upd_same, ?_, fun ys p y1 y2 hp => ?_⟩
        · have := once_len ns.reverse
          rw [List.length_reverse] at this
          have := h1.1
          omega
        · have rs : Reps g.c F1 (ys.map V.str) (ys.map D.str) := by
            clear y1 y2
            induction ys with
            | nil => exact .nil
            | cons y ys ih => exact .cons (.str y) ih
          exact k n1 F1 _ p _ _ s1 (ok1.allocH _ hn) hp (.lst rs) (h1.2 ys y1 y2)
      · exact h1.elim⟩
/-! ### sorted -/
def pSrt (t : TPA) : TPE := fun ρ n R => t ρ n fun ds m => match ds with
  | [.lst xs] => (match asInts xs with | some ns => ∀ ys : List Int, ys.Perm ns → ys.Pairwise (· ≤ ·) → R (.lst (ys.map D.int)) m | none => False)
  | _ => False
theorem fe_sorted (hm : X.mg "sorted" = none) (hg : Gl X "sorted") (ha : SA X [e] ta) (he : starEach [e] X.env = (false, eval e X.env) :: starEach [] X.env := by rfl) : FE X (.Call (.Name "sorted" pf) [e] [] pos) (pSrt ta) := fun g hK =>
  (pe_callB cr_sortedI hg hm (by decide +kernel) (ha g hK) (he := he) (hpl := rfl)).imp fun σ H Q ⟨n, F, ρ, R, ok, hq, k⟩ =>
  ⟨n, F, ρ, _, ok, hq, fun n1 F1 H1 vs ds s1 ok1 r1 h1 => by
    match ds, r1, h1 with
    | [.lst zs], .cons r .nil, h1 =>
      obtain ⟨l, xs, rfl, e1, t1⟩ := r.lst ok1
      have h1 : (match asInts zs with | some ns => ∀ ys : List Int, ys.Perm ns → ys.Pairwise (· ≤ ·) → R (.lst (ys.map D.int)) n1 | none => False) := h1
      split at h1
      · rename_i ns hz
        rw [t1.intsV hz] at e1
        exact ⟨l, ns, rfl, SqL.of e1, fun ys p y1 y2 hn => k n1 F1 H1 p _ _ s1 ok1 hn (.lst Reps.ints) (h1 ys y1 y2)⟩
      · exact h1.elim⟩
end
end PL

/-! PL: l[i] = v, l[i] += v, l.extend(m). -/
namespace PL
open PySem PySem.Spec L2
theorem Reps.setAt {c : Cfg} {F : Hp} {xs : List V} {ds : List D} {j : Nat} {v : V} {d : D} (r : Reps c F xs ds) (h : Rep c F v d) : Reps c F (xs.set j v) (ds.set j d) := Reps.set h j r
section
variable {X : Cx} {e a b c o tg value ix : Expr} {es : List Expr} {p pa pb pc : TPE} {pos pos' pf p2 q apos cpos tpos : Pos} {ta tk : TPA} {i : Nat}
/-- l[i] = v, a list of one's own -/
def pLSet (i : Nat) (q p : TPE) : TPS := fun P ρ n => match (ρ[i]? : Option Cell) with
  | some (.own (.lst ds)) => p ρ n fun d m => q ρ m fun e k => (match e with | .int z => (match ixN ds.length z with | some j => P.nx (ρ.set i (.own (.lst (ds.set j d)))) k | none => False) | _ => False)
  | _ => False
theorem ds_lset (ho : PE X o (tVar i)) (hi : SE X ix pb) (hv : DE X value p) (hs : swapsWithSole [.Subscript o ix pos'] value pos.line X.env = pure false := by rfl) (hw : swappedStores [.Subscript o ix pos'] value X.env = pure none := by rfl) (h1 : (assignEach [.Subscript o ix pos'] X.env).map (·.2) = [assign (.Subscript o ix pos') X.env] := by rfl)
    (ha : ∀ v, assign (.Subscript o ix pos') X.env v = (do
      let ov ← holding [v] (eval o X.env)
      let iv ← holding [v, ov] (eval ix X.env)
      standAt pos'
      holding [v, ov, iv] (setItem ov iv v)
      release [v, ov, iv] []) := by intro _; rfl) : DS X (.Assign [.Subscript o ix pos'] value pos) (pLSet i pb p) := fun g hK =>
  (ps_asg (hv g hK) (pg_sub ho (hi g hK) set_list ha) hs hw h1).imp fun D σ H ⟨n, F, ρ, P, ok, h, k⟩ => by
  have h : pLSet i pb p P ρ n := h
  unfold pLSet at h
  split at h
  · rename_i ds hz
    refine ⟨n, F, ρ, _, ok, h, fun n1 F1 H1 v d s1 ok1 r1 h1 => ?_⟩
    obtain ⟨l, xs, e1, e2, r2⟩ := ok1.ownAt hz
    refine ⟨.ref l, e1, n1, F1, ρ, _, ok1, h1, fun n2 F2 H2 y e s2 ok2 ry h2 => ?_⟩
    split at h2
    · rename_i z
      split at h2
      · rename_i j hj
        obtain ⟨l', ys, e3, e4, r4⟩ := ok2.ownAt hz
        rw [e1] at e3
        cases e3
        refine ⟨l, ys, z, j, rfl, ry.int ok2, e4, by rw [r4.length]; exact hj, ?_⟩
        exact k.nx n2 F2 _ σ _ (s1.trans s2) (ok2.write hz e1 (.lst (r4.setAt (r1.mono s2)))) h2
      · exact h2.elim
    · exact h2.elim
  · exact h.elim
/-- l[i], by values -/
theorem get_list : PGet X (fun o i H Q => ∃ p xs z v, o = .ref p ∧ i = .int z ∧ SqL X.K H p xs ∧ atI xs z = some v ∧ Q v H) := by
  intro pins s σ H x y v u Q I rx ry h
  obtain ⟨p, xs, i, z, rfl, rfl, hq, he, q⟩ := h
  cases rx
  obtain ⟨t, rfl⟩ := ry
  obtain ⟨its, r, pl, hz⟩ := I.list hq
  obtain ⟨j, h1, h2, h3, h4, h5⟩ := atI_get he
  obtain ⟨w, ew, rw'⟩ := r.get h2
  have hl := r.length
  have l63 := line63
  have fin : EP X pins σ Q w s := ⟨z, H, I, rw', q⟩
  by_cases h0 : 0 ≤ i
  · have hj : i.toNat = j := by
      rw [seqIndex_of h0 h5] at h1
      exact Option.some.inj h1
    exact wpAny_getItem_list pl.isList h0 (by omega) (by rw [hj]; simpa using ew) fin
  · have hj : (i + (its.toArray.size : Int)).toNat = j := by
      rw [seqIndex_neg (by omega) h4] at h1
      rw [List.size_toArray, ← hl]
      exact Option.some.inj h1
    exact wpAny_getItem_list_neg pl.isList (by omega) (by rw [List.size_toArray] <;> omega) (by omega) (by rw [hj]; simpa using ew) fin
/-- l[i] += v -/
def pLAug (i : Nat) (q p : TPE) : TPS := fun P ρ n => match (ρ[i]? : Option Cell) with
  | some (.own (.lst ds)) => q ρ n fun e k => (match e with
    | .int z => (match atI ds z, ixN ds.length z with
      | some (.int x), some j => p ρ k fun d m => (match d with | .int y => P.nx (ρ.set i (.own (.lst (ds.set j (.int (x + y)))))) m | _ => False)
      | _, _ => False)
    | _ => False)
  | _ => False
theorem ds_laug (ho : PE X o (tVar i)) (hi : SE X ix pb) (hv : DE X value p) (ha : ∀ ov iv new, augStore ix ov iv new = (do holding [new, ov, iv] (setItem ov iv new); release [new, ov, iv] []; pure .next) := by intros; rfl) :
    DS X (.AugAssign (.Subscript o ix tpos) .Add value pos) (pLAug i pb p) := fun g hK =>
  (ps_augS ho (hi g hK) get_list (hv g hK) ip_add set_list ha).imp fun D σ H ⟨n, F, ρ, P, ok, h, k⟩ => by
  have h : pLAug i pb p P ρ n := h
  unfold pLAug at h
  split at h
  · rename_i ds hz
    obtain ⟨l, xs, e1, e2, r2⟩ := ok.ownAt hz
    refine ⟨.ref l, e1, n, F, ρ, _, ok, h, fun n1 F1 H1 y e s1 ok1 ry h1 => ?_⟩
    split at h1
    · rename_i z
      split at h1
      · rename_i x j hx hj
        obtain ⟨l', ys, e3, e4, r4⟩ := ok1.ownAt hz
        rw [e1] at e3
        cases e3
        obtain ⟨v, hv', rv⟩ := r4.atI hx
        cases rv
        refine ⟨l, ys, z, _, rfl, ry.int ok1, SqL.of e4, hv', n1, F1, ρ, _, ok1, h1, fun n2 F2 H2 u d s2 ok2 ru h2 => ?_⟩
        split at h2
        · rename_i yy
          obtain ⟨l', zs, e5, e6, r6⟩ := ok2.ownAt hz
          rw [e1] at e5
          cases e5
          cases ru
          refine ⟨x, yy, rfl, rfl, l, zs, z, j, rfl, ry.int ok1, e6, by rw [r6.length]; exact hj, ?_⟩
          exact k.nx n2 F2 _ σ _ (s1.trans s2) (ok2.write hz e1 (.lst (r6.setAt (.int _)))) h2
        · exact h2.elim
      · exact h1.elim
    · exact h1.elim
  · exact h.elim
/-- l.extend(m) -/
def pExtend (i : Nat) (p : TPE) : TPS := fun P ρ n => match (ρ[i]? : Option Cell) with
  | some (.own (.lst ds)) => p ρ n fun d m => (match d with | .lst es => ds.length + es.length ≤ sizeLine ∧ P.nx (ρ.set i (.own (.lst (ds ++ es)))) m | _ => False)
  | _ => False
theorem ds_extend (ho : PE X o (tVar i)) (he : DE X e p) (hs : swapsWith (.Call (.Attribute o "extend" apos) [e] [] cpos) none pos.line X.env = pure false := by rfl)
    (hbase : attributeBase o "extend" X.env (eval o X.env) = eval o X.env := by rfl) (hline : (apos.endLine == cpos.line) = true := by rfl) (hst : starEach [e] X.env = (false, eval e X.env) :: starEach [] X.env := by rfl)
    (hfew : ((backTo cpos (starEach [e] X.env)).all (fun x => !x.1) && (backToKw cpos (keywordEach [] X.env)).all (fun x => x.1.isSome) && decide (([e].length + ([] : List Keyword).length + if ([] : List Keyword).isEmpty = true then 0 else 1) < 30)) = true := by rfl) :
    DS X (.Expr (.Call (.Attribute o "extend" apos) [e] [] cpos) pos) (pExtend i p) := fun g hK =>
  (ps_expr (pe_bm PySem.F.plainAttrs_list PySem.F.slot_list_extend PySem.F.type_list_extend mt_extend ho (pa_cons (he g hK) pa_nil hst) hbase (hfew := hfew) (hline := hline) (hs := hst) (hplain := rfl)) hs).imp fun D σ H ⟨n, F, ρ, P, ok, h, k⟩ => by
  have h : pExtend i p P ρ n := h
  unfold pExtend at h
  split at h
  · rename_i ds hi
    obtain ⟨l, xs, e1, e2, _⟩ := ok.ownAt hi
    refine ⟨_, e1, .inl ⟨rfl, xs, SqL.of e2⟩, n, F, ρ, _, ok, h, fun n1 F1 H1 v d s1 ok1 r1 h1 => ?_⟩
    obtain ⟨l', ys, e3, e4, r4⟩ := ok1.ownAt hi
    rw [e1] at e3
    cases e3
    split at h1
    · rename_i es
      cases r1 with
      | lst q1 q2 =>
        refine ⟨l, _, ys, _, rfl, rfl, e4, ok1.sub _ _ q1, by rw [r4.length, q2.length]; exact h1.1, ?_⟩
        exact k.nx n1 F1 _ σ _ s1 (ok1.write hi e1 (.lst (r4.append q2))) h1.2
    · exact h1.elim
  · exact h.elim
end
section
variable (ρ : PEnv) (n : Nat) (R : D → Nat → Prop) (P : Post) (p q : TPE) (t : TPA) (i k j : Nat)
theorem q_fld : pFld k i p ρ n R = p ρ n fun d m => match d with
  | .obj k' ds => k' % 1000 = k ∧ (match ds[i]? with | some z => R z m | none => False)
  | _ => False := rfl
theorem q_fset : pFSet i k j p P ρ n = p ρ n fun d m => match (ρ[i]? : Option Cell) with
  | some (.own (.obj k' ds)) => k' % 1000 = k ∧ ds.length = j ∧ P.nx (ρ.set i (.own (.obj k' (ds ++ [d])))) m
  | _ => False := rfl
theorem q_srt : pSrt t ρ n R = t ρ n fun ds m => match ds with
  | [.lst xs] => (match asInts xs with | some ns => ∀ ys : List Int, ys.Perm ns → ys.Pairwise (· ≤ ·) → R (.lst (ys.map D.int)) m | none => False)
  | _ => False := rfl
theorem q_srtset : pSrtSet t ρ n R = t ρ n fun ds m => match ds with
  | [.lst xs] => (match asStrs xs with | some ns => ns.length < 60 ∧ ∀ ys : List Str, ys.Perm (once ns.reverse) → PyProof.Rows.sortedS ys = true → R (.lst (ys.map D.str)) m | none => False)
  | _ => False := rfl
theorem q_lset : pLSet i q p P ρ n = match (ρ[i]? : Option Cell) with
  | some (.own (.lst ds)) => p ρ n fun d m => q ρ m fun e k => (match e with | .int z => (match ixN ds.length z with | some j => P.nx (ρ.set i (.own (.lst (ds.set j d)))) k | none => False) | _ => False)
  | _ => False := rfl
theorem q_laug : pLAug i q p P ρ n = match (ρ[i]? : Option Cell) with
  | some (.own (.lst ds)) => q ρ n fun e k => (match e with
    | .int z => (match atI ds z, ixN ds.length z with
      | some (.int x), some j => p ρ k fun d m => (match d with | .int y => P.nx (ρ.set i (.own (.lst (ds.set j (.int (x + y)))))) m | _ => False)
      | _, _ => False)
    | _ => False)
  | _ => False := rfl
theorem q_extend : pExtend i p P ρ n = match (ρ[i]? : Option Cell) with
  | some (.own (.lst ds)) => p ρ n fun d m => (match d with | .lst es => ds.length + es.length ≤ sizeLine ∧ P.nx (ρ.set i (.own (.lst (ds ++ es)))) m | _ => False)
  | _ => False := rfl
variable (Q : D → Prop) (x y : Int) (s z : Str) (ds es : List D)
theorem o_lta_int : oLtA (.int x) (.int y) Q = Q (.bl (decide (x < y))) := rfl
theorem o_lta_str : oLtA (.str s) (.str z) Q = Q (.bl (decide (s.cps.toList < z.cps.toList))) := rfl
theorem o_lta_tup : oLtA (.tup ds) (.tup es) Q = (match dKeyL ds, dKeyL es with | some ks, some ms => kindsK ks ms = true ∧ Q (.bl (lexK ks ms)) | _, _ => False) := rfl
theorem o_ins : oInS (.str s) (.str z) Q = (match s.cps.toList with | [c] => Q (.bl (decide (c ∈ z.cps.toList))) | _ => False) := rfl
end
end PL

/-! PL: {(a, b): c for .. in ..}: dict comprehensions whose keys are new tuples. -/
namespace PL
open PySem PySem.Spec L2
/-- the key is a tuple that stands at b -/
theorem set_dT {X : Cx} {pins : List (Addr × Obj)} {σ : L2.St} {H : Hp} {s : Shared} {E : Value → Shared → Prop} {D b : Addr} {kvs : List (List Key × V)} {k : List Key} {v : V} {r : Value} {Q : Unit → Shared → Prop} (hu : X.A.units + 1 < cLine) (I : Inv X pins σ H s) (hD : H D = some (.dT kvs)) (hb : H b = some (.tup (k.map kV))) (hz : kvs.length < sizeLine)
    (rv : RelV v r) (h : ∀ s', Inv X pins σ (upd H D (.dT (putK kvs k v))) s' → Q () s') : wpAny (model X.prog X.w) X.A (dictSet D (.ref b) r) Q E s := by
  obtain ⟨z, nd, xs, rel, dd⟩ := dt_of I.hok hD
  have l1 : xs.length ≤ sizeLine := by rw [← Paired.length rel]; exact z
  have l2 : (putK kvs k v).length ≤ sizeLine := by have := length_putK kvs k v; omega
  refine wpAny_dictSet_heap (hsz := l1) (show (tupleKind (mixKind X.prog X.w)).room X.A from (by omega : X.A.units < cLine)) (key_of I.hok hb) dd fun h' dd' hs => h _ ?_
  obtain ⟨q, es, ep, hq, h2, h3, h4, _, h5⟩ := dd'
  refine d_write I (by rw [hD]; exact True.intro) hs ⟨q, hq⟩ ⟨l2, nd, _, (rel.put k hb rv).keeps fun c ys ec => ?_, q, es, ep, hq, h2, h3, h4, h5⟩
  exact (upd_ne (ne_of ec hD fun z => nomatch z)).trans ec
/-- as a list comprehension, the new dict at D -/
def tDcT (wi : TI) (g : TG) (tt : TT) (tk tv : TE) (vs : List Nat) : TE := fun σ H Q => wi σ H fun J H1 => ∀ D, H1 D = none → ∃ W : Nat → Nat → Hp → Prop, (∃ m, W 0 m (upd H1 D (.dT []))) ∧ ∀ i m H, W i m H →
  (J.stop i H ∧ Q (.ref D) H) ∨ (J.go i H ∧ ∃ Nx : Hp → Prop, (∀ H', Nx H' → ∃ m', m' < m ∧ W (i + 1) m' H') ∧ ∀ x H', J.yld i H x H' → g x (wipe σ vs) H' fun σ2 H2 => wipe σ2 vs = wipe σ vs ∧ tt σ2 H2 fun b H3 =>
    if b = true then tk σ2 H3 fun y H4 => tv σ2 H4 fun z H5 => ∃ kvs k b, y = .ref b ∧ H5 b = some (.tup (k.map kV)) ∧ H5 D = some (.dT kvs) ∧ kvs.length < sizeLine ∧ Nx (upd H5 D (.dT (putK kvs k z))) else Nx H3)
section
variable {X : Cx} {kx vx tg iter : Expr} {ifs : List Expr} {scope : Scope} {own : List (Str × Nat)} {pos : Pos} {wi : TI} {g : TG} {tt : TT} {tk tv : TE}
abbrev AtBlk (X : Cx) (scope : Scope) (p : Cx → Prop) : Prop := ∀ (s : Shared) (H : Hp) (C : Addr) (cl : List (Str × Addr)) (fp : List Addr), p (X.blk s H scope (compEnvC scope cl C X.env) fp)
theorem dcT_run {pins : List (Addr × Obj)} {s : Shared} {σ : L2.St} {H : Hp} {Q : VK} (hu : X.A.units + 64 < cLine) (hc : X.calm = true) (hN : X.N.Nodup) (I : Inv X pins σ H s) (hi : PI X tg iter wi) (bk : BlkOk X.N X.env.scope scope own)
    (hg : AtBlk X scope fun Y => PG Y tg g) (ht : AtBlk X scope fun Y => PTs Y ifs tt) (hk : AtBlk X scope fun Y => PE Y kx tk) (hv : AtBlk X scope fun Y => PE Y vx tv) (hs : ∀ x, foldedSetIterable iter X.env x = pure x)
    (h : tDcT wi g tt tk tv (own.map (·.2)) σ H Q) :
    wpAny (model X.prog X.w) X.A (eval (.DictComp kx vx [⟨tg, iter, ifs, 0⟩] scope pos) X.env) (EP X pins σ Q) X.xe s := by
  rw [arm_eval_DictComp]
  have free : ∀ y ∈ scope.names, y.2 = .free → ∃ c, X.env.cells.lookup y.1 = some c := fun y hy e => (bk.free y hy e).elim (fun z => I.ok.has _ (.inl z)) fun z => I.ok.has _ (.inr z)
  refine wpAny_comprehension_free rfl hs (closure_ok free) bk.kind (fun y hy e => by rw [bk.uniq y hy, e]) (thn (hi.run pins s σ H _ I h) fun xv s1 hx => thn hx fun itv s2 h2 => ?_)
  obtain ⟨it, fp, tn, J, H2, rfl, I2, T, st2, f2, q⟩ := h2
  refine wpAny_newObj_type (newEnv_comp ?_)
  obtain ⟨D, hD⟩ : ∃ D : Addr, s2.heap.objs.size = D := ⟨_, rfl⟩
  obtain ⟨W, ⟨m0, w0⟩, turn⟩ := q D (I2.hok.fresh (Nat.le_of_eq hD))
  obtain ⟨s3, h3⟩ : ∃ s3 : Shared, ({ s2 with heap := s2.heap.push { cls := .type "dict", data := .dict #[] } } : Shared) = s3 := ⟨_, rfl⟩
  have hp3 : s3.heap = s2.heap.push { cls := .type "dict", data := .dict #[] } := by rw [← h3]
  have I3 : Inv X pins σ (upd H2 D (.dT [])) s3 := by
    rw [← h3, ← hD]
    exact I2.laid (t' := s2.toks) (fun b o e => Heap.get?_push_of_some _ e) (Nat.le_refl _) (dt_empty s2.heap I2.big)
  have lt : ∀ b ∈ fp, b < s2.heap.objs.size := fun b hb => (fun ⟨o, e, _⟩ => Heap.lt_size e) (T.obj _ _ st2 b hb)
  have f3 : ∀ b ∈ fp, FpOk X pins (upd H2 D (.dT [])) b ∧ b < s3.heap.objs.size := fun b hb => by
    have l := lt b hb
    have ne : b ≠ D := by rw [← hD]; exact Nat.ne_of_lt l
    exact ⟨⟨(upd_ne ne).trans (f2 b hb).1, (f2 b hb).2⟩, by rw [hp3, Heap.size_push]; exact Nat.lt_succ_of_lt l⟩
  have st3 : tn 0 s3.heap := T.keep _ _ _ st2 fun b _ o e => by rw [hp3]; exact Heap.get?_push_of_some _ e
  have I4 := block_start I3 bk hN f3
  have nfp : ∀ b ∈ fp, (upd H2 D (.dT [])) b = none := fun b hb => (f3 b hb).1.1
  obtain ⟨H3, eH⟩ : ∃ H3 : Hp, upd H2 D (.dT []) = H3 := ⟨_, rfl⟩
  rw [eH] at I3 I4 w0 nfp f3
  obtain ⟨cl, ecl⟩ : ∃ cl, cellsFrom (s3.heap.objs.size + 1) scope.names (cloFrom X.env.cells scope.names []) = cl := ⟨_, rfl⟩
  rw [ecl] at I4
  have pg := hg s3 H3 s3.heap.objs.size cl fp
  have pt := ht s3 H3 s3.heap.objs.size cl fp
  have pk := hk s3 H3 s3.heap.objs.size cl fp
  have pv := hv s3 H3 s3.heap.objs.size cl fp
  obtain ⟨ce, ece⟩ : ∃ ce : Env, compEnvC scope cl s3.heap.objs.size X.env = ce := ⟨_, rfl⟩
  rw [ece] at I4 pg pt pk pv
  have loc : ce.locals = s3.heap.objs.size := by rw [← ece]; rfl
  obtain ⟨s4, h4⟩ : ∃ s4 : Shared, ({ s3 with heap := pushCells (s3.heap.push { cls := .type "dict", data := .dict #[] }) scope.names } : Shared) = s4 := ⟨_, rfl⟩
  rw [h4] at I4
  refine (fun (z : codeAny (model X.prog X.w) X.A (.compStart (.DictComp kx vx [⟨tg, iter, ifs, 0⟩] scope pos) 0 (.ref it) (.ref D) (compEnvC scope cl s3.heap.objs.size X.env)) (compPost (model X.prog X.w) X.A X.xe none (EP X pins σ Q) (.ref D) s3.heap.objs.size) { s3 with heap := pushCells (s3.heap.push { cls := .type "dict", data := .dict #[] }) scope.names }) => by
    subst hD h3 ecl
    exact z) ?_
  rw [ece, h4]
  have st4 : tn 0 s4.heap := T.keep _ _ _ st3 fun b _ o e => by rw [← h4]; exact pushCells_keeps _ _ _ _ (Heap.get?_push_of_some _ e)
  have stand : ∀ {σ' : L2.St} {H' : Hp} {s' : Shared}, Inv (X.blk s3 H3 scope ce fp) [] σ' H' s' → (∀ b ∈ fp, H' b = none) → ∀ b ∈ fp, FpOk (X.blk s3 H3 scope ce fp) [] H' b := fun {σ' H' s'} I' hn b hb =>
    ⟨hn b hb, (I'.ok.exf b hb).1, I'.ok.exfs b hb, .inl hb, (I'.ok.exf b hb).2, fun p hp => absurd (show p ∈ ([] : List (Addr × Obj)) ++ [] from hp) (by simp)⟩
  have loop : codeAny (model X.prog X.w) X.A (.compLoop (.DictComp kx vx [⟨tg, iter, ifs, 0⟩] scope pos) 0 (.ref it) (.ref D) ce) (compPost (model X.prog X.w) X.A X.xe none (EP X pins σ Q) (.ref D) s3.heap.objs.size) s4 := by
    refine compLoop_anyD (fun n s' => ∃ i H', Inv (X.blk s3 H3 scope ce fp) [] (wipe σ (own.map (·.2))) H' s' ∧ tn i s'.heap ∧ (∀ b ∈ fp, H' b = none) ∧ W i n H') ?_ m0 ⟨0, H3, I4, st4, nfp, w0⟩
    rintro n s5 ⟨i, H5, I5, st5, n5, w5⟩
    rcases turn i n H5 w5 with ⟨stop, fin⟩ | ⟨go, Nx, hNx, step⟩
    · refine thnF (T.done (X.blk s3 H3 scope ce fp) rfl rfl rfl hc i [] s5 _ H5 (fun _ _ => False) I5 (stand I5 n5) st5 stop) ?_
      rintro r s6 ⟨rfl, I6⟩
      have I7 : Inv X pins σ H5 s6 := I3.call' (ch := fp) I6.os I6.base I6.hok I6.bare fun b hb => ⟨(f3 b hb).1.2.2.2.1, (f3 b hb).1.2.1, (f3 b hb).1.2.2.2.2.1, (f3 b hb).1.2.2.2.2.2⟩
      obtain ⟨m, hn, _⟩ := I6.loc
      have hn : s6.heap.Ns s3.heap.objs.size m := by rw [← loc]; exact hn
      have nC : H5 s3.heap.objs.size = none := by rw [← loc]; exact I6.free
      obtain ⟨g0, g1, g2, g3, g4, g5⟩ := I3.fpOk (Nat.le_refl _) nC
      exact ⟨m, hn, fun h'' sb => ⟨.ref D, H5, I7.turned (t' := s6.toks) (fun b o hb e => (sb.2 b hb).trans e) g0 g1 g3 g4 g5, rfl, fin⟩⟩
    · refine thnF (T.item (X.blk s3 H3 scope ce fp) rfl rfl rfl hc i [] s5 _ H5 (fun _ _ => False) I5 (stand I5 n5) st5 go) ?_
      rintro r s6 ⟨u, rfl, h6⟩
      refine thnF h6 ?_
      rintro _ s7 ⟨x, H7, I7, r7, y7, st7, n7⟩
      refine thnF (pg.run _ s7 _ H7 x u _ (I7.pinned (stand I7 n7) (T.obj _ _ st7)) r7 (step x H7 y7)) ?_
      rintro _ s8 ⟨σ8, H8, I8, hw8, q8⟩
      refine thnF (pt.run _ s8 σ8 H8 _ I8 q8) ?_
      rintro b s9 ⟨H9, I9, q9⟩
      have back : ∀ {s' : Shared} {H' : Hp}, Inv (X.blk s3 H3 scope ce fp) ([] ++ pinsAt fp s7.heap) σ8 H' s' → Nx H' → ∃ m, m < n ∧ ∃ i H', Inv (X.blk s3 H3 scope ce fp) [] (wipe σ (own.map (·.2))) H' s' ∧ tn i s'.heap ∧ (∀ b ∈ fp, H' b = none) ∧ W i m H' := fun {s' H'} I' nx => by
        obtain ⟨m', hm, w'⟩ := hNx H' nx
        have pin : ∀ b ∈ fp, ∀ o, s7.heap.get? b = some o → s'.heap.get? b = some o ∧ H' b = none := fun b hb o e =>
          (fun z => ⟨z.1, z.2.1⟩) (I'.pin (b, o) (List.mem_append_right _ (List.mem_append_right _ (mem_pinsAt hb e))))
        refine ⟨m', hm, i + 1, H', (I'.unpinned (pins := [])).weak (by rw [← hw8, wipe_length]) (fun j v e => ?_), T.keep _ _ _ st7 fun b hb o e => (pin b hb o e).1, fun b hb => ?_, w'⟩
        · exact (wipe_some (by rw [hw8]; exact e)).1
        · obtain ⟨o, e, _⟩ := T.obj _ _ st7 b hb
          exact (pin b hb o e).2
      by_cases hb : b = true
      · subst hb
        simp only [if_true] at q9 ⊢
        refine thnF (pk.run _ s9 σ8 H9 _ I9 q9) ?_
        rintro z s10 ⟨yk, H10, I10, r10, q10⟩
        refine thnF (pv.run _ s10 σ8 H10 _ I10 q10) ?_
        rintro z2 s11 ⟨yv, H11, I11, r11, kvs, k, bb, rfl, hbb, hD11, hz11, nx⟩
        cases r10
        exact set_dT (X := X.blk s3 H3 scope ce fp) (by show X.A.units + 1 < cLine; omega) I11 hD11 hbb hz11 r11 fun s12 I12 => back I12 nx
      · have hb : b = false := by simpa using hb
        subst hb
        simp only [Bool.false_eq_true, if_false] at q9 ⊢
        exact back I9 q9
  exact codeAny_compStart_dict loop (T.self X.A 0 _ _ _ st4 loop)
theorem pe_dcT (hu : X.A.units + 64 < cLine) (hc : X.calm = true) (hN : X.N.Nodup) (hi : PI X tg iter wi) (bk : BlkOk X.N X.env.scope scope own) (hg : AtBlk X scope fun Y => PG Y tg g) (ht : AtBlk X scope fun Y => PTs Y ifs tt) (hk : AtBlk X scope fun Y => PE Y kx tk) (hv : AtBlk X scope fun Y => PE Y vx tv)
    (hs : ∀ x, foldedSetIterable iter X.env x = pure x := by intro _; rfl) : PE X (.DictComp kx vx [⟨tg, iter, ifs, 0⟩] scope pos) (tDcT wi g tt tk tv (own.map (·.2))) := ⟨fun pins s σ H Q I h => dcT_run hu hc hN I hi bk hg ht hk hv hs h⟩
end
end PL

/-! PL: dict comprehensions whose keys are tuples, d.setdefault(k, []).append(v) in __init__. -/
namespace PL
open PySem PySem.Spec L2
def XN (K : PySem.W.Frag) (t : TPE) : TE := fun σ H Q => ∃ g : G, g.c.K = K ∧ LN g t σ H Q
def XI (K : PySem.W.Frag) (t : TPA) : TI := fun σ H R => ∃ g : G, g.c.K = K ∧ LI g t σ H R
theorem wipe_wipe (σ : L2.St) : ∀ (us vs : List Nat), (∀ j ∈ us, j ∈ vs) → wipe (wipe σ us) vs = wipe σ vs
  | [], _, _ => rfl
  | u :: us, vs, hu => by
    show wipe ((wipe σ us).set u none) vs = _
    rw [wipe_set_out _ _ _ _ (hu u List.mem_cons_self), wipe_wipe σ us vs fun j hj => hu j (List.mem_cons_of_mem _ hj)]
theorem wipeC_wipeC (ρ : PEnv) : ∀ (us vs : List Nat), (∀ j ∈ us, j ∈ vs) → wipeC (wipeC ρ us) vs = wipeC ρ vs
  | [], _, _ => rfl
  | u :: us, vs, hu => by
    show wipeC ((wipeC ρ us).set u .any) vs = _
    rw [wipeC_set_out _ _ _ _ (hu u List.mem_cons_self), wipeC_wipeC ρ us vs fun j hj => hu j (List.mem_cons_of_mem _ hj)]
/-! ### dict comprehensions -/
def dcW (t : TPG) (tt : TPT) (tk tv : TPE) : List D → List (List Key) → List D → PEnv → Nat → (D → Nat → Prop) → Prop
  | [], ks, es, _, n, R => R (.dit ks es) n
  | d :: ds, ks, es, ρ, n, R => t d ρ n fun ρ1 n1 => tt ρ1 n1 fun b n2 => if b = true then tk ρ1 n2 fun y n3 => tv ρ1 n3 fun z n4 => (match y with | .tup kd => (match dKeyL kd with | some j => dcW t tt tk tv ds (dKeys ks j) (dVals ks es j z) ρ n4 R | none => False) | _ => False) else dcW t tt tk tv ds ks es ρ n2 R
def pDc (pi : TPA) (t : TPG) (tt : TPT) (tk tv : TPE) (vs : List Nat) : TPE := fun ρ n R => pi ρ n fun ds m => ds.length ≤ sizeLine ∧ noOwn ρ vs = true ∧ dcW t tt tk tv ds [] [] (wipeC ρ vs) m R
theorem dc_sound {g : G} {pi : TPA} {t : TPG} {is : List Nat} {tt : TPT} {tk tv : TPE} {vs : List Nat} (his : ∀ j ∈ is, j ∈ vs) {σ : L2.St} {H : Hp} {Q : VK} (h : LF g (pDc pi t tt tk tv vs) σ H Q) :
    tDcT (LI g pi) (XG g.c.K t is) (XT g.c.K tt) (XN g.c.K tk) (XE g.c.K tv) vs σ H Q := by
  obtain ⟨n, F, ρ, R, ok, h, k⟩ := h
  refine ⟨n, F, ρ, _, ok, h, fun n1 F1 H1 ds J s1 ok1 h1 hJ a ha => ?_⟩
  obtain ⟨hz, hno, h1⟩ := h1
  have h0 := ok1.freeH0 ha
  have hp := ok1.freeP ha
  refine ⟨fun i m H => m = ds.length - i ∧ i ≤ ds.length ∧ ∃ n F2 ks xs es, Same F1 F2 ∧ Ok (g.pinned a (.dT (ks.zip xs))) n F2 H (L2.wipe σ vs) (wipeC ρ vs) ∧ ks.length = xs.length ∧ Reps g.c F2 xs es ∧ ks.length ≤ i ∧ dcW t tt tk tv (ds.drop i) ks es (wipeC ρ vs) n R,
    ⟨_, rfl, Nat.zero_le _, n1, F1, [], [], [], Same.refl _, (ok1.wipe _).pinNew (.dT []) ha, rfl, .nil, Nat.le_refl _, h1⟩, ?_⟩
  rintro i m H2 ⟨rfl, hi, n2, F2, ks, xs, es, s2, ok2, hl, ra, la, h2⟩
  obtain ⟨st, gg⟩ := hJ _ n2 F2 H2 _ _ (by rfl) s2 ok2
  cases hd : ds.drop i with
  | nil =>
    have hl' : i = ds.length := by
      have := List.drop_eq_nil_iff.mp hd
      omega
    subst hl'
    rw [hd] at h2
    have p1 := ok2.pinAt.1
    refine .inl ⟨st, ?_⟩
    have ok3 := ok1.restore s2 rfl (ok2.unpin h0 hp) hno
    have := k n2 F2 (erase H2 a) a (.dT (ks.zip xs)) (.dit ks es) (s1.trans s2) ok3 (erase_same _ _) (.dit hl ra) h2
    rw [upd_erase p1] at this
    exact this
  | cons d r =>
    obtain ⟨gd, gr⟩ := drop_get hd
    rw [hd] at h2
    obtain ⟨go, yl⟩ := gg i d gd
    have hlt : i < ds.length := lt_of_get gd
    refine .inr ⟨go, fun H => ∃ n F2 ks xs es, Same F1 F2 ∧ Ok (g.pinned a (.dT (ks.zip xs))) n F2 H (L2.wipe σ vs) (wipeC ρ vs) ∧ ks.length = xs.length ∧ Reps g.c F2 xs es ∧ ks.length ≤ i + 1 ∧ dcW t tt tk tv (ds.drop (i + 1)) ks es (wipeC ρ vs) n R, fun H' q => ⟨_, by omega, rfl, hlt, q⟩, fun x H3 y => ?_⟩
    obtain ⟨F3, s3, ok3, r3⟩ := yl x H3 y
    refine ⟨g.pinned a (.dT (ks.zip xs)), rfl, n2, F3, _, d, _, ok3, r3, h2, fun n4 F4 H4 σ4 ρ4 s4 ok4 j4 h4 => ?_⟩
    obtain ⟨w1, w2⟩ := j4 vs his
    rw [wipe_wipe σ vs vs fun j hj => hj] at w1
    rw [wipeC_wipeC ρ vs vs fun j hj => hj] at w2
    have back : ∀ {n' : Nat} {F' H' : Hp}, Ok (g.pinned a (.dT (ks.zip xs))) n' F' H' σ4 ρ4 → Ok (g.pinned a (.dT (ks.zip xs))) n' F' H' (wipe σ vs) (wipeC ρ vs) := fun {n' F' H'} o => by
      have := o.wipe vs
      rw [w1, w2] at this
      exact this
    refine ⟨w1, g.pinned a (.dT (ks.zip xs)), rfl, n4, F4, ρ4, _, ok4, h4, fun n5 F5 H5 b s5 ok5 h5 => ?_⟩
    have s15 := s2.trans (s3.trans (s4.trans s5))
    cases b with
    | false => exact ⟨n5, F5, ks, xs, es, s15, back ok5, hl, ra.mono (s3.trans (s4.trans s5)), by omega, by rw [gr]; exact h5⟩
    | true =>
      refine ⟨g.pinned a (.dT (ks.zip xs)), rfl, n5, F5, ρ4, _, ok5, h5, fun n6 F6 H6 b6 ys6 d6 s6 ok6 e6 r6 h6 => ?_⟩
      refine ⟨g.pinned a (.dT (ks.zip xs)), rfl, n6, F6, ρ4, _, ok6, h6, fun n7 F7 H7 z d7 s7 ok7 r7 h7 => ?_⟩
      have ra7 := ra.mono (s3.trans (s4.trans (s5.trans (s6.trans s7))))
      have h7 : (match dKeyL d6 with | some j => dcW t tt tk tv r (dKeys ks j) (dVals ks es j d7) (wipeC ρ vs) n7 R | none => False) := h7
      split at h7
      · rename_i j hj
        have ey := r6.keys hj
        subst ey
        obtain ⟨zs, z1, z2, z3⟩ := put_zip (j := j) hl ra7 r7
        refine ⟨_, j, b6, rfl, ok7.sub _ _ (s7 _ _ e6), ok7.pinAt.1, ?_, n7, F7, dKeys ks j, zs, dVals ks es j d7, s15.trans (s6.trans s7), ?_, z2, z3, ?_, by rw [gr]; exact h7⟩
        · rw [List.length_zip, ← hl, Nat.min_self]; omega
        · rw [z1]; exact (back ok7).pinWrite h0 _
        · have := dKeys_len ks j; omega
      · exact h7.elim
section
variable {X : Cx} {pos : Pos}
theorem fe_dc {kx vx tg iter : Expr} {ifs : List Expr} {scope : Scope} {own : List (Str × Nat)} {pi : TPA} {t : TPG} {is : List Nat} {tt : TPT} {tk tv : TPE} (hu : X.A.units + 64 < cLine) (hi : DI X tg iter pi) (hN : X.N.Nodup) (ok : BlkOk X.N X.env.scope scope own) (his : ∀ j ∈ is, j ∈ own.map (·.2))
    (hg : AtBlk X scope fun Y => DG Y tg t is) (ht : AtBlk X scope fun Y => DTs Y ifs tt) (hk : AtBlk X scope fun Y => NE Y kx tk) (hv : AtBlk X scope fun Y => DE Y vx tv) (hc : X.calm = true := by rfl) (hs : ∀ x, foldedSetIterable iter X.env x = pure x := by intro _; rfl) :
    FE X (.DictComp kx vx [⟨tg, iter, ifs, 0⟩] scope pos) (pDc pi t tt tk tv (own.map (·.2))) := fun g hK =>
  (pe_dcT hu hc hN (hi g hK) ok (fun s H C cl fp => (⟨fun pins s σ H v u Q I r ⟨g', hK', q⟩ => ((hg _ _ C cl fp) g' (hK'.trans hK)).run pins s σ H v u Q I r q⟩ : PG _ tg (XG g.c.K t is)))
    (fun s H C cl fp => (⟨fun pins s σ H Q I ⟨g', hK', q⟩ => ((ht _ _ C cl fp) g' (hK'.trans hK)).run pins s σ H Q I q⟩ : PTs _ ifs (XT g.c.K tt)))
    (fun s H C cl fp => (⟨fun pins s σ H Q I ⟨g', hK', q⟩ => ((hk _ _ C cl fp) g' (hK'.trans hK)).run pins s σ H Q I q⟩ : PE _ kx (XN g.c.K tk)))
    (fun s H C cl fp => (⟨fun pins s σ H Q I ⟨g', hK', q⟩ => ((hv _ _ C cl fp) g' (hK'.trans hK)).run pins s σ H Q I q⟩ : PE _ vx (XE g.c.K tv))) hs).imp fun σ H Q h => dc_sound his h
end
/-! ### d.setdefault(k, v), keys that are tuples -/
def tDSetdT (td ty tx : TE) : TE := fun σ H Q => td σ H fun x H1 => ∃ a, x = .ref a ∧ IsD H1 a ∧ ty σ H1 fun y H2 => tx σ H2 fun z H3 => ∃ (kvs : List (List Key × V)) (k : List Key) (b : Addr), H3 a = some (.dT kvs) ∧ y = .ref b ∧ H3 b = some (.tup (k.map kV)) ∧ kvs.length < sizeLine ∧
  (∀ v, valV kvs k = some v → Q v H3) ∧ (valV kvs k = none → Q z (upd H3 a (.dT (putK kvs k z))))
section
variable {X : Cx} {pins : List (Addr × Obj)} {σ : L2.St} {H : Hp} {s : Shared} {a b : Addr} {r : Value} {d : V} {k : List Key} {A : Around} {E : Value → Shared → Prop}
theorem d_setdT {kvs : List (List Key × V)} {Q : Value → Shared → Prop} (hu : A.units + 1 < cLine) (I : Inv X pins σ H s) (e : H a = some (.dT kvs)) (hb : H b = some (.tup (k.map kV))) (rd : RelV d r) (hl : kvs.length < sizeLine)
    (h1 : ∀ v, valV kvs k = some v → ∀ (w' : Value) (s' : Shared), Inv X pins σ H s' → RelV v w' → Q w' s') (h2 : valV kvs k = none → ∀ (w' : Value) (s' : Shared), Inv X pins σ (upd H a (.dT (putK kvs k d))) s' → RelV d w' → Q w' s') :
    wpAny (model X.prog X.w) A (call (.builtin "dict.setdefault") [.ref a, .ref b, r]) Q E s := by
  obtain ⟨z, nd, xs, rel, dd⟩ := dt_of I.hok e
  have hz : xs.length ≤ sizeLine := by rw [← Paired.length rel]; exact z
  have q := rel.val k
  refine call_setdefault_heap (hsz := hz) (tupleKind_room_in1 hu) (key_of I.hok hb) nd dd (fun p hp => ?_) fun hn h' dd' hs => ?_
  · rw [hp] at q
    cases q0 : valV kvs k with
    | none => rw [q0] at q; exact (show False from q).elim
    | some v0 => rw [q0] at q; exact h1 v0 q0 _ _ (I.tok _) q
  · rw [hn] at q
    cases q0 : valV kvs k with
    | some v0 => rw [q0] at q; exact (show False from q).elim
    | none =>
      have l2 : (putK kvs k d).length ≤ sizeLine := by have := length_putK kvs k d; omega
      obtain ⟨qo, es, ep, hq, e2, e3, e4, _, e5⟩ := dd'
      refine h2 q0 _ _ (d_write I (by rw [e]; exact True.intro) hs ⟨qo, hq⟩ ⟨l2, nd, _, (rel.put k hb rd).keeps fun c ys ec => ?_, qo, es, ep, hq, e2, e3, e4, e5⟩) rd
      exact (upd_ne (ne_of ec e fun z => nomatch z)).trans ec
end
section
variable {X : Cx} {o e f : Expr} {td ty tx : TE} {apos cpos : Pos}
theorem pe_dsetdT (hu : X.A.units + 1 < cLine) (ho : PE X o td) (he : PE X e ty) (hf : PE X f tx) (m : M2 X o "setdefault" apos e f cpos) : PE X (.Call (.Attribute o "setdefault" apos) [e, f] [] cpos) (tDSetdT td ty tx) := by
  refine ⟨fun pins s σ H Q I h => ?_⟩
  refine wpAny_Call_method m.base m.few m.line PySem.F.plainAttrs_dict PySem.F.slot_dict_setdefault PySem.F.type_dict_setdefault (thn (ho.run pins s σ H _ I h) fun u s1 ⟨x, H1, I1, rx, a, ex, d, q1⟩ => ?_)
  subst ex
  obtain rfl : u = Value.ref a := rx
  obtain ⟨t1, t2, _⟩ := isD_at I1 d
  refine ⟨t1, t2, ?_⟩
  rw [m.trees]
  refine Calls.callWith_builtin rfl (Calls.evalArgs_plain (Calls.spliced_cons (thn (he.run pins s1 σ H1 _ I1 q1) fun iv s2 ⟨y, H2, I2, ry, q2⟩ =>
    Calls.spliced_cons (thn (hf.run pins s2 σ H2 _ I2 q2) fun fv s3 ⟨z, H3, I3, rz, kvs, k, b, ea, ey, eb, hl, q3, q4⟩ => Calls.spliced_nil ?_))))
  subst ey
  obtain rfl : iv = Value.ref b := ry
  exact d_setdT hu I3 ea eb rz hl (fun v hv w' s4 I4 rw' => ⟨v, _, I4, rw', q3 v hv⟩) fun hn w' s4 I4 rw' => ⟨z, _, I4, rw', q4 hn⟩
end
end PL

/-! PL: sob.f = {}; for .. in ..: sob.f.setdefault((..), []).append(..) -/
namespace PL
open PySem PySem.Spec L2
section
variable {g : G} {n : Nat} {F H : Hp} {σ : L2.St} {ρ : PEnv} {a : Addr}
/-- an own container is pinned, its name's cell forgotten -/
theorem Ok.pinOwn (ok : Ok g n F H σ ρ) {i : Nat} {d : D} {x : HO} (hi : ρ[i]? = some (.own d)) (hs : σ[i]? = some (some (.ref a))) (hH : H a = some x) : Ok (g.pinned a x) n F H σ (ρ.set i .any) := by
  obtain ⟨a', x', e1, e2, e3, e4, e5, _⟩ := ok.cells i _ hi
  rw [hs] at e1
  cases e1
  have back : ∀ {j : Nat} {e : D}, (ρ.set i Cell.any)[j]? = some (.own e) → i ≠ j ∧ ρ[j]? = some (.own e) := fun {j e} h => by
    rcases getD_set h with ⟨_, z⟩ | ⟨n1, h⟩
    · cases z
    · exact ⟨n1, h⟩
  refine ⟨ok.keep, ok.sub, ok.ffp, ok.new, ok.dk, fun b y q => ?_, by rw [List.length_set]; exact ok.len, fun j c e => ?_, ok.mon, fun p q d' e' o h1 h2 => ok.disj p q d' e' o (back h1).2 (back h2).2⟩
  · by_cases e : b = a
    · subst e
      have q : upd g.pin b x b = some y := q
      rw [upd_same] at q
      cases q
      exact ⟨hH, e3, e5.1⟩
    · have q : upd g.pin a x b = some y := q
      rw [upd_ne e] at q
      exact ok.pin b y q
  · rcases getD_set e with ⟨_, rfl⟩ | ⟨ne, e'⟩
    · trivial
    · have h := ok.cells j c e'
      cases c with
      | any => trivial
      | sh d => exact h
      | own d' =>
        obtain ⟨b, y, q1, q2, q3, q4, q5, q6⟩ := h
        have nb : b ≠ a := fun z => by
          subst z
          exact ne (ok.disj i j _ _ b hi e' hs q1)
        exact ⟨b, y, q1, q2, q3, q4, ⟨q5.1, by show upd g.pin a x b = none; rw [upd_ne nb]; exact q5.2⟩, q6⟩
/-- fewer pins -/
theorem Ok.fewer {P : Hp} (ok : Ok { g with pin := P } n F H σ ρ) (h : ∀ b x, g.pin b = some x → P b = some x) : Ok g n F H σ ρ := by
  refine ⟨ok.keep, ok.sub, ok.ffp, ok.new, ok.dk, fun b y q => ok.pin b y (h b y q), ok.len, fun j c e => ?_, ok.mon, ok.disj⟩
  have h1 := ok.cells j c e
  cases c with
  | any => trivial
  | sh d => exact h1
  | own d' =>
    obtain ⟨b, y, q1, q2, q3, q4, q5, q6⟩ := h1
    refine ⟨b, y, q1, q2, q3, q4, ⟨q5.1, ?_⟩, q6⟩
    cases z : g.pin b with
    | none => rfl
    | some w => have q := q5.2; rw [show (({ g with pin := P } : G).pin b) = some w from h b w z] at q; cases q
end
theorem set_self {α : Type} : ∀ {l : List α} {i : Nat} {x : α}, l[i]? = some x → l.set i x = l
  | [], _, _, h => by simp at h
  | y :: l, 0, x, h => by simp at h; subst h; rfl
  | y :: l, i + 1, x, h => by rw [List.set_cons_succ, set_self (by simpa using h)]
theorem valV_put {kvs : List (List Key × V)} {k j : List Key} {y : V} (h : valV kvs k = none) : valV (putK kvs k y) j = if k = j then some y else valV kvs j := by
  have hh : (kvs.any fun kv => decide (kv.1 = k)) = false := by rw [valV_any, h]; rfl
  unfold putK
  rw [hh, if_neg (by decide)]
  clear hh
  induction kvs with
  | nil =>
    by_cases e : k = j
    · rw [if_pos e]; exact valV_pos (by exact e)
    · rw [if_neg e]; exact valV_neg (by exact e)
  | cons p ps ih =>
    have hp : p.1 ≠ k := fun z => by rw [valV_pos z] at h; cases h
    rw [valV_neg hp] at h
    by_cases e : p.1 = j
    · rw [List.cons_append, valV_pos e, valV_pos e, if_neg (fun z => hp (e.trans z.symm))]
    · rw [List.cons_append, valV_neg e, valV_neg e]
      exact ih h
def goW (t : TPG) (tk tv : TPE) : List D → PEnv → Nat → (PEnv → Nat → Prop) → Prop
  | [], ρ, n, R => R ρ n
  | d :: ds, ρ, n, R => t d ρ n fun ρ1 n1 => tk ρ1 n1 fun y n2 => (match y with | .tup kd => (match dKeyL kd with | some j => tv ρ1 n2 fun z n3 => goW t tk tv ds ρ1 n3 R | none => False) | _ => False)
def pGoals (i k j : Nat) (pi : TPA) (t : TPG) (tk tv : TPE) : TPS := fun P ρ n => match (ρ[i]? : Option Cell) with
  | some (.own (.obj k' ds)) => k' % 1000 = k ∧ ds.length = j ∧ pi (ρ.set i .any) n fun es m => es.length < sizeLine ∧ goW t tk tv es (ρ.set i .any) m fun ρ' m' => P.nx (ρ'.set i (.own (.obj k' (ds ++ [D.opq])))) m'
  | _ => False
/-- what is pinned in the loop: sob, the dict, its lists -/
structure GPin (g : G) (P : Hp) (so a : Addr) (sob : HO) (m : Nat) (kvs : List (List Key × V)) : Prop where
  old : ∀ b x, g.pin b = some x → P b = some x
  new : ∀ b x, P b = some x → g.pin b = none → g.H0 b = none
  s : P so = some sob
  d : P a = some (.dT kvs)
  nsa : so ≠ a
  nl : ∀ xs, sob ≠ .lst xs
  h0 : g.pin a = none
  len : kvs.length ≤ m
  ls : ∀ k v, valV kvs k = some v → ∃ l xs, v = .ref l ∧ P l = some (.lst xs) ∧ xs.length ≤ m ∧ g.pin l = none
section
variable {g : G} {P : Hp} {so a : Addr} {sob : HO} {m : Nat} {kvs : List (List Key × V)}
theorem GPin.more (G : GPin g P so a sob m kvs) : GPin g P so a sob (m + 1) kvs := { G with
  len := by have := G.len; omega
  ls := fun k v h => by
    obtain ⟨l, xs, h1, h2, h3, h4⟩ := G.ls k v h
    exact ⟨l, xs, h1, h2, by omega, h4⟩ }
theorem GPin.addq {q : Addr} (G : GPin g P so a sob m kvs) (hq : P q = none) (h0 : g.H0 q = none) (hp : g.pin q = none) : GPin g (upd P q (.lst [])) so a sob m kvs := { G with
  old := fun b x h => by rw [upd_ne fun z => by subst z; rw [hp] at h; cases h]; exact G.old b x h
  new := fun b x h z => by
    by_cases e : b = q
    · subst e; exact h0
    · rw [upd_ne e] at h; exact G.new b x h z
  s := by rw [upd_ne (ne_of_none G.s hq)]; exact G.s
  d := by rw [upd_ne (ne_of_none G.d hq)]; exact G.d
  ls := fun k v h => by
    obtain ⟨l, xs, h1, h2, h3, h4⟩ := G.ls k v h
    exact ⟨l, xs, h1, by rw [upd_ne (ne_of_none h2 hq)]; exact h2, h3, h4⟩ }
theorem GPin.setl {l : Addr} {xs ys : List V} (G : GPin g P so a sob m kvs) (hl : P l = some (.lst xs)) (hp : g.pin l = none) (hy : ys.length ≤ m) : GPin g (upd P l (.lst ys)) so a sob m kvs := { G with
  old := fun b x h => by rw [upd_ne fun z => by subst z; rw [hp] at h; cases h]; exact G.old b x h
  new := fun b x h z => by
    by_cases e : b = l
    · subst e; exact G.new b _ hl z
    · rw [upd_ne e] at h; exact G.new b x h z
  s := by
    have : so ≠ l := fun z => by subst z; rw [G.s] at hl; exact G.nl _ (Option.some.inj hl)
    rw [upd_ne this]; exact G.s
  d := by
    have : a ≠ l := fun z => by subst z; rw [G.d] at hl; cases hl
    rw [upd_ne this]; exact G.d
  ls := fun k v h => by
    obtain ⟨l', xs', h1, h2, h3, h4⟩ := G.ls k v h
    by_cases e : l' = l
    · subst e; exact ⟨l', ys, h1, upd_same, hy, h4⟩
    · exact ⟨l', xs', h1, by rw [upd_ne e]; exact h2, h3, h4⟩ }
theorem GPin.put {q : Addr} {k : List Key} (G : GPin g P so a sob m kvs) (hq : P q = some (.lst [])) (hp : g.pin q = none) (hn : valV kvs k = none) : GPin g (upd P a (.dT (putK kvs k (.ref q)))) so a sob (m + 1) (putK kvs k (.ref q)) := { G with
  old := fun b x h => by rw [upd_ne fun z => by subst z; rw [G.h0] at h; cases h]; exact G.old b x h
  new := fun b x h z => by
    by_cases e : b = a
    · subst e; exact G.new b _ G.d z
    · rw [upd_ne e] at h; exact G.new b x h z
  s := by rw [upd_ne G.nsa]; exact G.s
  d := upd_same
  len := by have := G.len; have := length_putK kvs k (.ref q); omega
  ls := fun k' v h => by
    rw [valV_put hn] at h
    have ne : ∀ {l : Addr} {xs : List V}, P l = some (.lst xs) → l ≠ a := fun h z => by subst z; rw [G.d] at h; cases h
    split at h
    · cases h; exact ⟨q, [], rfl, by rw [upd_ne (ne hq)]; exact hq, Nat.zero_le _, hp⟩
    · obtain ⟨l, xs, h1, h2, h3, h4⟩ := G.ls k' v h
      exact ⟨l, xs, h1, by rw [upd_ne (ne h2)]; exact h2, by omega, h4⟩ }
theorem upd_self {H : Hp} {a : Addr} {x : HO} (h : H a = some x) : upd H a x = H := by
  funext b
  by_cases e : b = a
  · subst e; rw [upd_same, h]
  · rw [upd_ne e]
theorem Ok.pinWriteAt {n : Nat} {F H : Hp} {σ : L2.St} {ρ : PEnv} {x : HO} (ok : Ok { g with pin := P } n F H σ ρ) (hP : P a = some x) (h0 : g.H0 a = none) (x' : HO) : Ok { g with pin := upd P a x' } n F (upd H a x') σ ρ := by
  have ok' : Ok (({ g with pin := P } : G).pinned a x) n F H σ ρ := by
    show Ok { g with pin := upd P a x } n F H σ ρ
    rw [upd_self hP]; exact ok
  exact ok'.pinWrite h0 x'
end
section
variable {X : Cx} {o o2 mv kx vx tg : Expr} {pi : TPA} {t : TPG} {is : List Nat} {tk tv : TPE} {k i j : Nat} {f : Str} {pos pos' pd pf pa pc pb pe2 pl pt ps : Pos}
theorem dss_goals (hu : X.A.units + 64 < cLine) (T : ClsT X.K k) (hp : PassesOwn (model X.prog X.w) X.A X.env X.xe) (hc : X.calm = true) (ho : PE X o (tVar i)) (ho2 : PE X o2 (tVar i)) (hi' : DI X tg mv pi) (hg : DG X tg t is) (hnot : i ∉ is) (hk : NE X kx tk) (hv : DE X vx tv)
    (m2 : M2 X (.Attribute o2 f pf) "setdefault" pa kx (.List [] pl) pc) (hi : (CN k)[j]? = some f := by rfl) (hk9 : k ≠ 999 := by decide) (hnd : (CN k).Nodup := by decide) (h1000 : (CN k).length < 1000 := by decide) (hs : swapsWith (.Dict [] [] pd) (some (.Attribute o f pos')) pos.line X.env = pure false := by rfl)
    (hb2 : attributeBase o2 f X.env (eval o2 X.env) = eval o2 X.env := by rfl) (hs3 : ∀ x, foldedSetIterable mv X.env x = pure x := by intro _; rfl)
    (hs2 : swapsWith (.Call (.Attribute (.Call (.Attribute (.Attribute o2 f pf) "setdefault" pa) [kx, .List [] pl] [] pc) "append" pb) [vx] [] pe2) none ps.line X.env = pure false := by rfl)
    (hbase : attributeBase (.Call (.Attribute (.Attribute o2 f pf) "setdefault" pa) [kx, .List [] pl] [] pc) "append" X.env (eval (.Call (.Attribute (.Attribute o2 f pf) "setdefault" pa) [kx, .List [] pl] [] pc) X.env) = eval (.Call (.Attribute (.Attribute o2 f pf) "setdefault" pa) [kx, .List [] pl] [] pc) X.env := by rfl)
    (hline : (pb.endLine == pe2.line) = true := by rfl) (hst : starEach [vx] X.env = (false, eval vx X.env) :: starEach [] X.env := by rfl)
    (hfew : ((backTo pe2 (starEach [vx] X.env)).all (fun x => !x.1) && (backToKw pe2 (keywordEach [] X.env)).all (fun x => x.1.isSome) && decide (([vx].length + ([] : List Keyword).length + if ([] : List Keyword).isEmpty = true then 0 else 1) < 30)) = true := by rfl) :
    DSs X [.Assign [.Attribute o f pos'] (.Dict [] [] pd) pos, .For tg mv [.Expr (.Call (.Attribute (.Call (.Attribute (.Attribute o2 f pf) "setdefault" pa) [kx, .List [] pl] [] pc) "append" pb) [vx] [] pe2) ps] [] pt] (pGoals i k j pi t tk tv) := fun g hK => by
  have P1 := ps_fld (f := f) (pos := pos) (pos' := pos') ho (pe_dnewT (pos := pd)) hs
  have PIx : PI X tg mv (XI g.c.K pi) := ⟨fun pins s σ H R I ⟨g', hK', q⟩ => (hi' g' (hK'.trans hK)).run pins s σ H R I q⟩
  have PGx : PG X tg (XG g.c.K t is) := ⟨fun pins s σ H v u Q I r ⟨g', hK', q⟩ => (hg g' (hK'.trans hK)).run pins s σ H v u Q I r q⟩
  have PKx : PE X kx (XN g.c.K tk) := ⟨fun pins s σ H Q I ⟨g', hK', q⟩ => (hk g' (hK'.trans hK)).run pins s σ H Q I q⟩
  have PVx : PE X vx (XE g.c.K tv) := ⟨fun pins s σ H Q I ⟨g', hK', q⟩ => (hv g' (hK'.trans hK)).run pins s σ H Q I q⟩
  have PD := pe_dsetdT (by omega) (pe_fld (pos := pf) ho2 hb2) PKx (pe_lst (pos := pl) pa_nil) m2
  have PB := ps_expr (pe_bm PySem.F.plainAttrs_list PySem.F.slot_list_append PySem.F.type_list_append mt_append PD (pa_cons PVx pa_nil hst) hbase (hfew := hfew) (hline := hline) (hs := hst) (hplain := rfl)) hs2
  have PF := ps_for (pos := pt) hp hc PIx PGx (pss_one PB) hs3
  refine (pss_cons P1 (pss_one PF)).imp fun DD σ H ⟨n, F, ρ, P, ok, h, kk⟩ => ?_
  have h : pGoals i k j pi t tk tv P ρ n := h
  unfold pGoals at h
  split at h
  case h_2 => exact h.elim
  rename_i k' ds hz
  obtain ⟨rfl, rfl, hh⟩ := h
  rw [← CN_mod] at hi hnd h1000
  intro a ha
  obtain ⟨so, u, e1, e2, e3, e4, e5, cz⟩ := ok.cells i _ hz
  obtain ⟨C', c1, c2, c3⟩ := T
  cases cz with
  | obj q0 q1 q2 rs =>
  rename_i C dx xs
  have q1' := q1
  rw [hK, cls_mod, c1] at q1'
  obtain rfl := Option.some.inj q1'
  have hj : ds.length < (CN k').length := lt_of_get hi
  have hl : xs.length = ds.length := rs.length
  have ft : f ∉ (CN k').take ds.length := fun m => by
    obtain ⟨jj, hj1⟩ := List.getElem?_of_mem m
    have hlt : jj < ds.length := by
      have := lt_of_get hj1
      rw [List.length_take] at this; omega
    rw [List.getElem?_take_of_lt hlt] at hj1
    have := (List.getElem?_inj (i := jj) (j := ds.length) (by omega) hnd).mp (hj1.trans hi.symm)
    omega
  have ep : putF f (.ref a) (((CN k').take ds.length).zip xs) = ((CN k').take (ds ++ [D.opq]).length).zip (xs ++ [.ref a]) := by
    have nw : ∀ p ∈ ((CN k').take ds.length).zip xs, p.1 ≠ f := fun p hp z => ft (by rw [← z]; exact (List.of_mem_zip hp).1)
    rw [putF_new nw, List.length_append, List.length_singleton, List.take_add_one, hi, Option.toList, List.zip_append (by rw [List.length_take, hl]; omega)]
    rfl
  rw [← CN_mod] at c3
  have nsa : so ≠ a := ne_of_none e2 ha
  refine ⟨.ref so, e1, so, _, dx, _, rfl, (upd_ne nsa).trans e2, c2, c3 f (List.mem_of_getElem? hi), ?_, ?_⟩
  · rw [List.length_zip, List.length_take]; omega
  rw [ep]
  have hlen2 : (ds ++ [D.opq]).length ≤ (CN k').length := by rw [List.length_append, List.length_singleton]; omega
  have rs2 : Reps g.c F (xs ++ [.ref a]) (ds ++ [D.opq]) := rs.append (.cons .opq .nil)
  have okA := (ok.pinNew (.dT []) ha).write hz e1 (.obj (dx := dx) q0 q1 hlen2 rs2)
  have hlk : (((CN k').take (ds ++ [D.opq]).length).zip (xs ++ [.ref a])).lookup f = some (.ref a) := by
    refine lookup_zip (i := ds.length) (hnd.sublist (List.take_sublist _ _)) ?_ ?_
    · rw [List.getElem?_take_of_lt (by rw [List.length_append, List.length_singleton]; omega)]; exact hi
    · rw [List.getElem?_append_right (by omega), hl, Nat.sub_self]; rfl
  obtain ⟨sob, eself⟩ : ∃ sob : HO, HO.ins C' dx (((CN k').take (ds ++ [D.opq]).length).zip (xs ++ [.ref a])) = sob := ⟨_, rfl⟩
  have eself : HO.ins C' dx (((CN k').take (ds ++ [D.opq]).length).zip (xs ++ [.ref a])) = sob := eself
  rw [eself] at okA ⊢
  have okB := okA.pinOwn (i := i) (x := sob) (set_same (lt_of_get hz)) e1 upd_same
  rw [List.set_set] at okB
  have G0 : GPin g (upd (upd g.pin a (.dT [])) so sob) so a sob 0 [] := by
    refine ⟨fun b x q => ?_, fun b x q z => ?_, upd_same, (upd_ne (Ne.symm nsa)).trans upd_same, nsa, (fun xs => by rw [← eself]; exact fun z => nomatch z), ok.freeP ha, Nat.le_refl _, fun k v q => nomatch q⟩
    · have n1 : b ≠ so := fun z => by subst z; rw [e5.2] at q; cases q
      have n2 : b ≠ a := fun z => by subst z; rw [ok.freeP ha] at q; cases q
      rw [upd_ne n1, upd_ne n2]; exact q
    · by_cases n1 : b = so
      · subst n1; exact e4
      · rw [upd_ne n1] at q
        by_cases n2 : b = a
        · subst n2; exact ok.freeH0 ha
        · rw [upd_ne n2, z] at q; cases q
  refine ⟨_, hK ▸ rfl, n, F, _, _, okB, hh, fun n1 F1 H1 es J s1 ok1 ⟨hle, h1⟩ hJ => ?_⟩
  have fin : ∀ {P2 : Hp} {kvs : List (List Key × V)} {m n2 : Nat} {F2 H2 : Hp} {σ2 : L2.St} {ρ2 : PEnv}, GPin g P2 so a sob m kvs → Same F F2 → Ok { g with pin := P2 } n2 F2 H2 σ2 ρ2 → σ2[i]? = some (some (.ref so)) → i < ρ2.length → Ok g n2 F2 H2 σ2 (ρ2.set i (.own (.obj k' (ds ++ [D.opq])))) := fun {P2 kvs m n2 F2 H2 σ2 ρ2} G s2 ok2 hs2 hl2 => by
    obtain ⟨p1, p2, p3⟩ := ok2.pin so sob G.s
    have := (ok2.fewer G.old).setOwn i p1 p2 e4 e5 (x := sob) (d := .obj k' (ds ++ [D.opq])) (by subst eself; exact .obj q0 q1 hlen2 (rs2.mono s2)) fun j e hj2 _ hz2 => by
      obtain ⟨b, y, w1, w2, w3, w4, w5, w6⟩ := ok2.cells j _ hj2
      rw [hz2] at w1
      cases w1
      have w5 : P2 so = none := w5.2
      rw [G.s] at w5; cases w5
    rw [set_self hs2] at this
    exact this
  refine ⟨fun ix m σ2 H2 => m = es.length - ix ∧ ix ≤ es.length ∧ ∃ n2 F2 ρ2 P2 kvs, GPin g P2 so a sob ix kvs ∧ Same F1 F2 ∧ Ok { g with pin := P2 } n2 F2 H2 σ2 ρ2 ∧ σ2[i]? = some (some (.ref so)) ∧ i < ρ2.length ∧ goW t tk tv (es.drop ix) ρ2 n2 (fun ρ' m' => P.nx (ρ'.set i (.own (.obj k' (ds ++ [D.opq])))) m'),
    ⟨_, rfl, Nat.zero_le _, n1, F1, _, _, _, G0, Same.refl _, ok1, e1, by rw [List.length_set]; exact lt_of_get hz, h1⟩, ?_⟩
  rintro ix m σ2 H2 ⟨rfl, hix, n2, F2, ρ2, P2, kvs, GP, s2, ok2, hs2', hl2, h2⟩
  obtain ⟨st, gg⟩ := hJ { g with pin := P2 } n2 F2 H2 σ2 ρ2 rfl s2 ok2
  cases hd : es.drop ix with
  | nil =>
    have hl' : ix = es.length := by
      have := List.drop_eq_nil_iff.mp hd
      omega
    subst hl'
    rw [hd] at h2
    exact .inl ⟨st, kk.nx n2 F2 H2 σ2 _ (s1.trans s2) (fin GP (s1.trans s2) ok2 hs2' hl2) h2⟩
  | cons d r =>
    obtain ⟨gd, gr⟩ := drop_get hd
    rw [hd] at h2
    obtain ⟨go, yl⟩ := gg ix d gd
    have hlt : ix < es.length := lt_of_get gd
    refine .inr ⟨go, fun σ H => ∃ n2 F2 ρ2 P2 kvs, GPin g P2 so a sob (ix + 1) kvs ∧ Same F1 F2 ∧ Ok { g with pin := P2 } n2 F2 H σ ρ2 ∧ σ[i]? = some (some (.ref so)) ∧ i < ρ2.length ∧ goW t tk tv (es.drop (ix + 1)) ρ2 n2 (fun ρ' m' => P.nx (ρ'.set i (.own (.obj k' (ds ++ [D.opq])))) m'), fun σ' H' q => ⟨_, by omega, rfl, hlt, q⟩, fun x H3 y => ?_⟩
    obtain ⟨F3, s3, ok3, r3⟩ := yl x H3 y
    refine ⟨{ g with pin := P2 }, rfl, n2, F3, ρ2, d, _, ok3, r3, h2, fun n4 F4 H4 σ4 ρ4 s4 ok4 j4 h4 => ?_⟩
    obtain ⟨w1, w2⟩ := j4 is fun j hj => hj
    have hs4 : σ4[i]? = some (some (.ref so)) := by rw [← wipe_get σ4 hnot, w1, wipe_get σ2 hnot]; exact hs2'
    have hl4 : i < ρ4.length := by
      have := lt_of_get hs4
      rw [ok4.len] at this; exact this
    have pa4 := ok4.pin a _ GP.d
    refine ⟨.ref so, hs4, so, _, dx, _, .ref a, rfl, (by have := (ok4.pin so _ GP.s).1; rw [← eself] at this; exact this), c2, c3 f (List.mem_of_getElem? hi), hlk, a, rfl, .inr ⟨_, .inl pa4.1⟩, ?_⟩
    refine ⟨{ g with pin := P2 }, rfl, n4, F4, ρ4, _, ok4, h4, fun n5 F5 H5 b5 ys5 d5 s5 ok5 e5' r5 h5 => ⟨Nat.zero_le _, fun q hq => ?_⟩⟩
    have ok6 := ok5.pinNew (.lst []) hq
    have hP2q : P2 q = none := ok5.freeP hq
    have hgq : g.pin q = none := by
      cases z : g.pin q with
      | none => rfl
      | some w => rw [GP.old q w z] at hP2q; cases hP2q
    have hg0q : g.H0 q = none := ok5.freeH0 hq
    have GQ := GP.addq hP2q hg0q hgq
    have hq6 : (upd P2 q (.lst [])) q = some (.lst []) := upd_same
    have h5 : (match dKeyL d5 with | some j => tv ρ4 n5 fun z n3 => goW t tk tv r ρ4 n3 (fun ρ' m' => P.nx (ρ'.set i (.own (.obj k' (ds ++ [D.opq])))) m') | none => False) := h5
    split at h5
    case h_2 => exact h5.elim
    rename_i jk hj
    have ey := r5.keys hj
    subst ey
    refine ⟨kvs, jk, b5, (ok6.pin a _ GQ.d).1, rfl, ok6.sub _ _ e5', ?_, fun v hv2 => ?_, fun hn => ?_⟩
    · have := GP.len; omega
    · obtain ⟨l, xs2, rfl, hl1, hl2', hl3⟩ := GQ.ls jk v hv2
      refine ⟨.inl ⟨rfl, xs2, SqL.of (ok6.pin l _ hl1).1⟩, { g with pin := upd P2 q (.lst []) }, rfl, n5, F5, ρ4, _, ok6, h5, fun n7 F7 H7 v7 d7 s7 ok7 r7 h7 => ?_⟩
      refine ⟨l, xs2, v7, rfl, rfl, (ok7.pin l _ hl1).1, by omega, ?_⟩
      refine ⟨n7, F7, ρ4, upd (upd P2 q (.lst [])) l (.lst (xs2 ++ [v7])), kvs, GQ.more.setl hl1 hl3 (by rw [List.length_append, List.length_singleton]; omega), s2.trans (s3.trans (s4.trans (s5.trans s7))), ok7.pinWriteAt hl1 (GQ.new l _ hl1 hl3) _, hs4, hl4, by rw [gr]; exact h7⟩
    · have ok8 := ok6.pinWriteAt GQ.d (GQ.new a _ GQ.d GQ.h0) (.dT (putK kvs jk (.ref q)))
      have GR := GQ.put hq6 hgq hn
      have hqr : (upd (upd P2 q (.lst [])) a (.dT (putK kvs jk (.ref q)))) q = some (.lst []) := by
        rw [upd_ne (Ne.symm (ne_of_none GP.d hP2q))]; exact hq6
      refine ⟨.inl ⟨rfl, [], SqL.of (ok8.pin q _ hqr).1⟩, { g with pin := upd (upd P2 q (.lst [])) a (.dT (putK kvs jk (.ref q))) }, rfl, n5, F5, ρ4, _, ok8, h5, fun n7 F7 H7 v7 d7 s7 ok7 r7 h7 => ?_⟩
      refine ⟨q, [], v7, rfl, rfl, (ok7.pin q _ hqr).1, by decide, ?_⟩
      refine ⟨n7, F7, ρ4, _, _, GR.setl (ys := [v7]) hqr hgq (by rw [List.length_singleton]; omega), s2.trans (s3.trans (s4.trans (s5.trans s7))), ok7.pinWriteAt hqr hg0q _, hs4, hl4, by rw [gr]; exact h7⟩
end
end PL

/-! PL: displays of dicts from texts to texts; equations for the walk. -/
namespace PL
open PySem PySem.Spec L2
theorem tPairs_consts {σ : L2.St} {H : Hp} : ∀ (l : List (Str × Str)) (Q : List (V × V) → Hp → Prop), Q (l.map fun p => (V.str p.1, V.str p.2)) H → tPairs (l.map fun p => (tC (.str p.1), tC (.str p.2))) σ H Q
  | [], Q, h => h
  | p :: l, Q, h => tPairs_consts l (fun ps H => Q ((V.str p.1, V.str p.2) :: ps) H) h
theorem merge_new : ∀ (kvs acc : List (Key × V)), (∀ p ∈ kvs, ∀ q ∈ acc, q.1 ≠ p.1) → (kvs.map (·.1)).Nodup → mergeK acc kvs = acc ++ kvs
  | [], acc, _, _ => by show acc = _; rw [List.append_nil]
  | p :: kvs, acc, h, nd => by
    rw [List.map_cons, List.nodup_cons] at nd
    have e : putK acc p.1 p.2 = acc ++ [p] := by
      unfold putK
      rw [if_neg]
      · intro z
        obtain ⟨q, hq, e⟩ := List.any_eq_true.mp z
        exact h p List.mem_cons_self q hq (of_decide_eq_true e)
    show mergeK (putK acc p.1 p.2) kvs = _
    rw [e, merge_new kvs (acc ++ [p]) (fun r hr q hq => ?_) nd.2, List.append_assoc]; rfl
    rcases List.mem_append.mp hq with hq | hq
    · exact h r (List.mem_cons_of_mem _ hr) q hq
    · rw [List.mem_singleton.mp hq]
      exact fun z => nd.1 (z ▸ List.mem_map_of_mem hr)
theorem upd_upd {H : Hp} {p : Addr} {x y : HO} : upd (upd H p x) p y = upd H p y := by
  funext b
  by_cases h : b = p
  · subst h; rw [upd_same, upd_same]
  · rw [upd_ne h, upd_ne h, upd_ne h]
theorem Reps.strs {c : Cfg} {F : Hp} : ∀ {ns : List Str}, Reps c F (ns.map V.str) (ns.map D.str)
  | [] => .nil
  | _ :: _ => .cons (.str _) Reps.strs
section
variable {X : Cx} {pos : Pos} {keys : List (Option Expr)} {values : List Expr}
theorem fe_dss (l : List (Str × Str)) (h : PPs X pos keys values (l.map fun p => (tC (.str p.1), tC (.str p.2)))) (hall : keys.all (·.isSome) = true := by rfl) (hl : keys.length = values.length := by rfl) (h0 : keys ≠ [] := by exact fun z => nomatch z) (h15 : keys.length ≤ 15 := by decide) (l15 : l.length ≤ 15 := by decide) (hnd : (l.map (·.1)).Nodup := by decide +kernel) :
    FE X (.Dict keys values pos) (pC (.dic (l.map fun p => .inr p.1) (l.map fun p => .str p.2))) := fun g hK => (pe_disp h hall hl h0 h15).imp fun σ H Q ⟨n, F, ρ, R, ok, hq, k⟩ => fun p hp => by
  refine tPairs_consts l _ ⟨upd_same, l.map fun p => (.inr p.1, .str p.2), by rw [List.map_map]; rfl, by rw [List.length_map]; exact l15, ?_⟩
  have e : mergeK [] (l.map fun p => ((.inr p.1 : Key), V.str p.2)) = (l.map fun p => (.inr p.1 : Key)).zip (l.map fun p => V.str p.2) := by
    rw [merge_new _ _ (fun _ _ q h => absurd h List.not_mem_nil) ?_, List.nil_append, List.zip_map', ]
    rw [List.map_map]
    have : (l.map ((fun x => x.1) ∘ fun p => ((.inr p.1 : Key), V.str p.2))) = (l.map (·.1)).map (fun s => (.inr s : Key)) := by rw [List.map_map]; rfl
    rw [this]
    exact List.Pairwise.map _ (fun a b ne z => ne (Sum.inr.inj z)) hnd
  rw [e]
  have rr : Reps g.c F (l.map fun p => V.str p.2) (l.map fun p => D.str p.2) := by
    have := Reps.strs (c := g.c) (F := F) (ns := l.map (·.2))
    rw [List.map_map, List.map_map] at this
    exact this
  have hc : Cont g.c F p (.dK ((l.map fun z : Str × Str => (.inr z.1 : Key)).zip (l.map fun z : Str × Str => V.str z.2))) (.dic (l.map fun z : Str × Str => .inr z.1) (l.map fun z : Str × Str => .str z.2)) := .dic (by rw [List.length_map, List.length_map]) rr
  have := k n F H p _ _ (Same.refl F) ok hp hc hq
  rw [show upd (upd H p (.dK [])) p _ = upd H p _ from upd_upd]
  exact this
end
section
variable (ρ : PEnv) (n : Nat) (R : D → Nat → Prop) (RR' : PEnv → Nat → Prop) (P : Post) (p q tk tv : TPE) (pi : TPA) (t : TPG) (tt : TPT) (i k j : Nat) (vs : List Nat) (d : D) (ds es : List D) (ks : List (List Key))
theorem q_dc : pDc pi t tt tk tv vs ρ n R = pi ρ n fun ds m => ds.length ≤ sizeLine ∧ noOwn ρ vs = true ∧ dcW t tt tk tv ds [] [] (wipeC ρ vs) m R := rfl
theorem q_goals : pGoals i k j pi t tk tv P ρ n = match (ρ[i]? : Option Cell) with
  | some (.own (.obj k' ds)) => k' % 1000 = k ∧ ds.length = j ∧ pi (ρ.set i .any) n fun es m => es.length < sizeLine ∧ goW t tk tv es (ρ.set i .any) m fun ρ' m' => P.nx (ρ'.set i (.own (.obj k' (ds ++ [D.opq])))) m'
  | _ => False := rfl
theorem dc_nil : dcW t tt tk tv [] ks es ρ n R = R (.dit ks es) n := rfl
theorem dc_cons : dcW t tt tk tv (d :: ds) ks es ρ n R = t d ρ n fun ρ1 n1 => tt ρ1 n1 fun b n2 => if b = true then tk ρ1 n2 fun y n3 => tv ρ1 n3 fun z n4 => (match y with | .tup kd => (match dKeyL kd with | some j => dcW t tt tk tv ds (dKeys ks j) (dVals ks es j z) ρ n4 R | none => False) | _ => False) else dcW t tt tk tv ds ks es ρ n2 R := rfl
theorem go_nil : goW t tk tv [] ρ n RR' = RR' ρ n := rfl
theorem go_cons : goW t tk tv (d :: ds) ρ n RR' = t d ρ n fun ρ1 n1 => tk ρ1 n1 fun y n2 => (match y with | .tup kd => (match dKeyL kd with | some j => tv ρ1 n2 fun z n3 => goW t tk tv ds ρ1 n3 RR' | none => False) | _ => False) := rfl
end
end PL

/-! PL: [x] * n as a list of one's own; helpers for walks. -/
namespace PL
open PySem PySem.Spec L2
section
variable {X : Cx} {a b : Expr} {pa pb : TPE} {pos : Pos}
def oRep : O2 := fun d e R => match d, e with
  | .lst ds, .int k => -(2 ^ 63) ≤ k ∧ k < 2 ^ 63 ∧ ds.length * k.toNat ≤ sizeLine ∧ R (.lst (List.replicate k.toNat ds).flatten)
  | _, _ => False
theorem fe_rep (ha : SE X a pa) (hb : SE X b pb) : FE X (.BinOp a .Mult b pos) (pBin oRep pa pb) := fun g hK => (pe_op op_rep (ha g hK) (hb g hK)).imp fun σ H Q ⟨n, F, ρ, R, ok, hq, k⟩ => by
  refine ⟨n, F, ρ, _, ok, hq, fun n1 F1 H1 x d s1 ok1 r1 h1 => ⟨n1, F1, ρ, _, ok1, h1, fun n2 F2 H2 y e s2 ok2 r2 h2 => ?_⟩⟩
  replace r1 := r1.mono s2
  have h2 : oRep d e fun z => R z n2 := h2
  unfold oRep at h2
  split at h2
  · obtain ⟨l, xs, rfl, q1, t1⟩ := r1.lst ok2
    obtain ⟨q2, q3, q4, q5⟩ := h2
    refine ⟨l, _, xs, rfl, r2.int ok2, q1, q2, q3, by rw [t1.length]; exact q4, fun p hp => ?_⟩
    exact k n2 F2 H2 p _ _ (s1.trans s2) ok2 hp (.lst (t1.rep _)) q5
  · exact h2.elim
end
section
variable (Q : D → Prop) (ds : List D) (k : Int) (d : D)
theorem o_rep : oRep (.lst ds) (.int k) Q = (-(2 ^ 63) ≤ k ∧ k < 2 ^ 63 ∧ ds.length * k.toNat ≤ sizeLine ∧ Q (.lst (List.replicate k.toNat ds).flatten)) := rfl
theorem kl_nil : dKeyL [] = some [] := rfl
theorem kl_cons : dKeyL (d :: ds) = match dKey d, dKeyL ds with | some k, some ks => some (k :: ks) | _, _ => none := rfl
end
theorem flat1 {α : Type} (x : α) (k : Nat) : (List.replicate k [x]).flatten = List.replicate k x := by
  induction k with
  | zero => rfl
  | succ k ih => rw [List.replicate_succ, List.flatten_cons, ih, List.replicate_succ]; rfl
/-- all([True, ..]) -/
theorem all_true {α : Type} (ds : List α) {Q : D → Prop} (h : Q (.bl true)) : oAll [.lst (ds.map fun _ => .bl true)] Q := by
  have e : (ds.map fun _ => D.bl true) = (ds.map fun _ => true).map D.bl := by rw [List.map_map]; rfl
  rw [o_all, e, asBls_map]
  show Q (.bl ((ds.map fun _ => true).all id))
  rw [show ((ds.map fun _ => true).all id) = true from by simp]
  exact h
theorem cut_one {α : Type} (xs : List α) : cutL xs (some 1) none = xs.drop 1 := by
  unfold cutL
  rw [show HT.sIx xs.length 0 (some 1) = min 1 xs.length from HT.sIx_nat xs.length 0 1, HT.sIx_none]
  cases xs with
  | nil => rfl
  | cons x xs =>
    rw [show min 1 (x :: xs).length = 1 from by simp]
    apply List.take_of_length_le
    simp
/-- the neighbours -/
theorem nexts {xs : List D} {d : D} (h : d ∈ pairs xs (xs.drop 1)) : ∃ i x y, d = .tup [x, y] ∧ xs[i]? = some x ∧ xs[i + 1]? = some y := by
  obtain ⟨i, hi⟩ := List.getElem?_of_mem h
  obtain ⟨x, y, h1, h2, rfl⟩ := pairs_get _ _ i hi
  exact ⟨i, x, y, rfl, h1, by rw [List.getElem?_drop] at h2; rwa [Nat.add_comm] at h2⟩
theorem nexts_rel {α : Type} {r : α → α → Prop} {l : List α} (p : l.Pairwise r) {i : Nat} {x y : α} (hx : l[i]? = some x) (hy : l[i + 1]? = some y) : r x y := by
  obtain ⟨h1, rfl⟩ := List.getElem?_eq_some_iff.mp hx
  obtain ⟨h2, rfl⟩ := List.getElem?_eq_some_iff.mp hy
  exact List.pairwise_iff_getElem.mp p i (i + 1) h1 h2 (Nat.lt_succ_self i)
end PL

/-! PL: repr of great ints (below 2 ** 12900) and of empty dicts, at any depth. -/
namespace PL
open PySem PySem.Spec L2
/-- the greatest number of digits is left as it was -/
def NoDg (K : PySem.W.Frag) : Prop := PySem.W.nsIn K cStatics "sys.int_max_str_digits" = some none
theorem over_none {M : Model} {A : Around} {E : Value → Shared → Prop} {s : Shared} {K : PySem.W.Frag} (x : K.In s.heap) (e : NoDg K) {a : Int} {Q : Option Nat → Shared → Prop} (ha : a.natAbs.log2 < 12900) (h : Q none s) : wpAny M A (Builtin.overDigitLimit? a) Q E s := by
  unfold Builtin.overDigitLimit?
  by_cases hs : a.natAbs.log2 < 1920
  · rw [if_pos hs]; exact wpAny_pure h
  · rw [if_neg hs]
    unfold Builtin.intMaxStrDigits
    refine wpAny_bind (wpAny_bind ((PySem.W.looks_nsIn x e).here ?_))
    refine wpAny_pure ?_
    dsimp only
    rw [if_neg (by omega), if_pos (by simp [ha])]
    exact wpAny_pure h
theorem text_fits {a : Int} (ha : a.natAbs.log2 < 12900) : (Str.ofString (toString a)).length ≤ sizeLine := int_text_fits10 (Nat.lt_of_lt_of_le (PyProof.Rows.lt_of_log2 ha) PyProof.Rows.pow_lo)
section
variable {prog : Program} {w : World} {A : Around} {E : Value → Shared → Prop} {s : Shared} {K : PySem.W.Frag}
theorem int_repr_big (K : PySem.W.Frag) (e : NoDg K) (a : Int) (t : Tok) (ha : a.natAbs.log2 < 12900) : Meets (Builtin.«int.__repr__» ⟨[.int a t], []⟩) (fun _ R s => K.In s.heap ∧ R (.ok (.ret (.str (toString a) s.toks))) { s with toks := s.toks + 1 }) :=
  .of_wp fun prog w A R s ⟨hx, h⟩ => by
    unfold Builtin.«int.__repr__»
    show wpAny _ _ (do let r ← Builtin.overDigitLimit? a; _) _ _ s
    exact wpAny_bind (over_none hx e ha (wpAny_bind (wpAny_mkStr (wpAny_pure ⟨_, rfl, h⟩) (text_fits ha))))
theorem reprObj_big {Q : Value → Shared → Prop} {a : Int} {t : Tok} (hu : A.units < cLine) (hx : K.In s.heap) (e : NoDg K) (ha : a.natAbs.log2 < 12900) (h : Q (.str (toString a) s.toks) { s with toks := s.toks + 1 }) : wpAny (model prog w) A (pyReprObj (.int a t)) Q E s :=
  wpAny_pyReprObj_slot hu (typeIs_int s a t) F.slot_int_repr.toG (call_meets F.slot_int_repr (typeIs_int s a t) F.entry_int_repr (F.args_int_repr_1 _) (int_repr_big K e a t ha) ⟨hx, _, _, rfl, h⟩)
theorem reprK_big {h₀ : Heap} (hx : K.In h₀) (e : NoDg K) {a : Int} (t : Tok) (ha : a.natAbs.log2 < 12900) (d : Nat) : ReprK prog w [] h₀ d (.int a t) (toString a) := fun base hz A g E s Q hg hcl hu hk hQ => by
  have hn' : base ≤ sizeLine := by omega
  rw [pyReprUnder_leaf (v := .int a t) hn' (fun _ e => nomatch e)]
  unfold pyRepr
  exact wpAny_bind (reprObj_big (by omega) (hx.keeps hk) e ha (wpAny_pure (hQ s.heap _ fun _ _ e => e)))
/-! ### what can be shown -/
end
mutual
def show2 : PyData → Bool
  | .none | .bool _ | .str _ => true
  | .int i => decide (i.natAbs.log2 < 12900)
  | .list xs | .tuple xs => show2s xs
  | .dict kvs => kvs.isEmpty
def show2s : List PyData → Bool
  | [] => true
  | x :: xs => show2 x && show2s xs
end
/-- as Reads; a dict is empty and not the one of the modules -/
inductive Rd2 (h : Heap) : Value → PyData → Prop
  | none : Rd2 h .none .none
  | bool (b) : Rd2 h (.bool b) (.bool b)
  | int (i t) : Rd2 h (.int i t) (.int i)
  | str (x t) : Rd2 h (.str x t) (.str x)
  | list {a o vs n xs as} : h.get? a = some o → o.cls = .type "list" → o.data = .seq vs n → ReadsAll h vs.toList xs as → (∀ (i : Nat) (v : Value) (q : PyData), vs.toList[i]? = some v → xs[i]? = some q → Rd2 h v q) → Rd2 h (.ref a) (.list xs)
  | tuple {a o vs n xs as} : h.get? a = some o → o.cls = .type "tuple" → o.data = .seq vs n → ReadsAll h vs.toList xs as → (∀ (i : Nat) (v : Value) (q : PyData), vs.toList[i]? = some v → xs[i]? = some q → Rd2 h v q) → Rd2 h (.ref a) (.tuple xs)
  | dict {a o es n} : h.get? a = some o → o.cls = .type "dict" → o.data = .dict es n → es.toList = [] → (a == sysModules) = false → Rd2 h (.ref a) (.dict [])
theorem Rd2.reads {h : Heap} {v : Value} {d : PyData} (r : Rd2 h v d) : ∃ as, Reads h v d as := by
  cases r with
  | none => exact ⟨_, .none⟩
  | bool b => exact ⟨_, .bool b⟩
  | int i t => exact ⟨_, .int i t⟩
  | str x t => exact ⟨_, .str x t⟩
  | list h1 h2 h3 h4 _ => exact ⟨_, .list h1 h2 h3 h4⟩
  | tuple h1 h2 h3 h4 _ => exact ⟨_, .tuple h1 h2 h3 h4⟩
  | dict h1 h2 h3 h4 _ => exact ⟨_, .dict (kvs := []) h1 h2 h3 (by rw [h4]; exact .nil) (by rw [h4]; exact .nil)⟩
theorem readsAll_len {h : Heap} : ∀ {vs : List Value} {ds : List PyData} {as : List Addr}, ReadsAll h vs ds as → vs.length = ds.length
  | _, _, _, .nil => rfl
  | _, _, _, .cons _ r => congrArg (· + 1) (readsAll_len r)
theorem show2s_get : ∀ {xs : List PyData} {i : Nat} {q : PyData}, show2s xs = true → xs[i]? = some q → show2 q = true
  | [], _, _, _, h => by simp at h
  | x :: xs, 0, q, hs, h => by simp at h; subst h; rw [show2s, Bool.and_eq_true] at hs; exact hs.1
  | x :: xs, i + 1, q, hs, h => by rw [show2s, Bool.and_eq_true] at hs; exact show2s_get hs.2 (by simpa using h)
theorem shownAll_get : ∀ {xs : List PyData} {i : Nat} {q : PyData}, xs[i]? = some q → (PyData.shownAll xs)[i]? = some q.shown
  | [], _, _, h => by simp at h
  | x :: xs, 0, q, h => by simp at h; subst h; rfl
  | x :: xs, i + 1, q, h => by rw [PyData.shownAll, List.getElem?_cons_succ]; exact shownAll_get (by simpa using h)
theorem shownAll_len : ∀ xs : List PyData, (PyData.shownAll xs).length = xs.length
  | [] => rfl
  | x :: xs => by rw [PyData.shownAll, List.length_cons, shownAll_len xs]; rfl
theorem depthAll_get : ∀ {xs : List PyData} {i : Nat} {q : PyData}, xs[i]? = some q → q.depth ≤ PyData.depthAll xs
  | [], _, _, h => by simp at h
  | x :: xs, 0, q, h => by simp at h; subst h; rw [PyData.depthAll]; omega
  | x :: xs, i + 1, q, h => by have := depthAll_get (xs := xs) (i := i) (q := q) (by simpa using h); rw [PyData.depthAll]; omega
section
variable {prog : Program} {w : World} {K : PySem.W.Frag} {h₀ : Heap}
/-- item by item -/
theorem reprAll_of : ∀ {vs : List Value} {xs : List PyData}, vs.length = xs.length → (∀ (i : Nat) (v : Value), vs[i]? = some v → ∃ q : PyData, xs[i]? = some q ∧ ∃ bs, ReadAtMost h₀ q.depth bs ∧ ReprK prog w bs h₀ q.depth v q.shown) →
    ∃ bs, ReadAtMost h₀ (PyData.depthAll xs) bs ∧ ReprAllK prog w bs h₀ (PyData.depthAll xs) vs (PyData.shownAll xs)
  | [], [], _, _ => ⟨[], (fun _ h => nomatch h), by simp only [PyData.shownAll]; exact .nil⟩
  | [], _ :: _, h, _ => by simp at h
  | _ :: _, [], h, _ => by simp at h
  | v :: vs, x :: xs, hl, h => by
    obtain ⟨q, hq, b1, hb1, k1⟩ := h 0 v rfl
    have hq : x = q := by simpa using hq
    subst hq
    obtain ⟨b2, hb2, k2⟩ := reprAll_of (vs := vs) (xs := xs) (by simpa using hl) fun i u hu => by
      obtain ⟨q, h1, h2⟩ := h (i + 1) u (by simpa using hu)
      exact ⟨q, by simpa using h1, h2⟩
    refine ⟨b1 ++ b2, (hb1.mono (by simp only [PyData.depthAll]; omega)).append (hb2.mono (by simp only [PyData.depthAll]; omega)), ?_⟩
    simp only [PyData.depthAll, PyData.shownAll]
    exact .cons ((k1.more fun b hb => List.mem_append_left _ hb).level_le (Nat.le_max_left _ _)) (k2.more_le (fun b hb => List.mem_append_right _ hb) (Nat.le_max_right _ _))
theorem reprK_of (hx : K.In h₀) (e : NoDg K) {v : Value} {d : PyData} (r : Rd2 h₀ v d) : show2 d = true → d.shown.length ≤ sizeLine → ∃ bs, ReadAtMost h₀ d.depth bs ∧ ReprK prog w bs h₀ d.depth v d.shown := by
  induction r with
  | none => intro _ _; exact ⟨[], (fun _ h => nomatch h), by simp only [PyData.shown]; exact .of_is ReprIs.none _ _ _⟩
  | bool b => intro _ _; exact ⟨[], (fun _ h => nomatch h), by simp only [PyData.shown]; exact .of_is (ReprIs.bool b) _ _ _⟩
  | int i t => intro hs _; exact ⟨[], (fun _ h => nomatch h), by simp only [PyData.shown]; exact reprK_big hx e t (by simpa [show2] using hs) _⟩
  | str x t => intro _ hz; exact ⟨[], (fun _ h => nomatch h), by simp only [PyData.shown]; exact .of_is (ReprIs.str x t (by simpa only [PyData.shown] using hz)) _ _ _⟩
  | @list a o vs n xs as h1 h2 h3 h4 h5 ih =>
    intro hs hz
    have hz' : (listText (PyData.shownAll xs)).length ≤ sizeLine := by simpa only [PyData.shown] using hz
    have hs' : show2s xs = true := by simpa [show2] using hs
    obtain ⟨bs, hb, hk⟩ := reprAll_of (prog := prog) (w := w) (readsAll_len h4) fun i v hv => by
      obtain ⟨q, hq⟩ : ∃ q, xs[i]? = some q := ⟨_, List.getElem?_eq_getElem (by rw [← readsAll_len h4]; exact lt_of_get hv)⟩
      exact ⟨q, hq, ih i v q hv hq (show2s_get hs' hq) (Nat.le_trans (listText_mem_le (List.mem_of_getElem? (shownAll_get hq))) hz')⟩
    have r : Reads h₀ (.ref a) (.list xs) _ := .list h1 h2 h3 h4
    have hna : a ∉ bs := not_mem_of_deeper r (by simp only [PyData.depth]; omega) hb
    refine ⟨a :: bs, ReadAtMost.cons r (by simp only [PyData.depth]; omega) hb, ?_⟩
    simp only [PyData.depth, PyData.shown]
    obtain ⟨l⟩ := vs
    cases l with
    | nil =>
      have h4' : ReadsAll h₀ [] xs _ := h4
      cases h4'
      simp only [PyData.shownAll, listText_nil]
      exact ReprK.listEmpty h1 h2 h3
    | cons x l => exact ReprK.list h1 h2 h3 hna (by simpa using hk.length_eq) (fun i y e => hk.item i y (by simpa using e))
  | @tuple a o vs n xs as h1 h2 h3 h4 h5 ih =>
    intro hs hz
    have hz' : (tupleText (PyData.shownAll xs)).length ≤ sizeLine := by simpa only [PyData.shown] using hz
    have hs' : show2s xs = true := by simpa [show2] using hs
    obtain ⟨bs, hb, hk⟩ := reprAll_of (prog := prog) (w := w) (readsAll_len h4) fun i v hv => by
      obtain ⟨q, hq⟩ : ∃ q, xs[i]? = some q := ⟨_, List.getElem?_eq_getElem (by rw [← readsAll_len h4]; exact lt_of_get hv)⟩
      exact ⟨q, hq, ih i v q hv hq (show2s_get hs' hq) (Nat.le_trans (tupleText_mem_le (List.mem_of_getElem? (shownAll_get hq))) hz')⟩
    have r : Reads h₀ (.ref a) (.tuple xs) _ := .tuple h1 h2 h3 h4
    have hna : a ∉ bs := not_mem_of_deeper r (by simp only [PyData.depth]; omega) hb
    refine ⟨a :: bs, ReadAtMost.cons r (by simp only [PyData.depth]; omega) hb, ?_⟩
    simp only [PyData.depth, PyData.shown]
    exact ReprK.tuple h1 h2 h3 hna hk
  | @dict a o es n h1 h2 h3 h4 h5 =>
    intro _ _
    have r : Reads h₀ (.ref a) (.dict []) _ := .dict (kvs := []) h1 h2 h3 (by rw [h4]; exact .nil) (by rw [h4]; exact .nil)
    refine ⟨[a], ReadAtMost.cons (bs := []) (n := 0) r (Nat.zero_le _) (fun _ h => nomatch h), ?_⟩
    simp only [PyData.depth, PyData.shown, PyData.shownKv_eq]
    refine ReprK.dict h1 h2 h3 h5 List.not_mem_nil ?_
    rw [h4]
    exact ReprEntriesK.of_two [] [] [] .nil .nil
end
end PL

/-! PL: repr(x), great ints and empty dicts in it. -/
namespace PL
open PySem PySem.Spec L2
section
variable {prog : Program} {w : World} {A : Around} {E : Value → Shared → Prop} {s : Shared} {K : PySem.W.Frag} {Q : Value → Shared → Prop}
theorem repr2 (hx : K.In s.heap) (e : NoDg K) {u : Value} {d : PyData} (r : Rd2 s.heap u d) (hs : show2 d = true) (hg : A.guards = some []) (hu : A.units + (d.depth + 1) < cLine) (hsz : d.shown.length ≤ sizeLine)
    (hQ : ∀ h' u tk, (∀ b o, s.heap.get? b = some o → h'.get? b = some o) → Q (.str d.shown u) { s with heap := h', toks := tk }) : wpAny (model prog w) A (call (.builtin "repr") [u]) Q E s := by
  cases r with
  | none => exact P.repr_of_none (by simpa only [PyData.shown] using hQ s.heap _ _ fun _ _ e => e)
  | bool b => exact P.repr_of_bool (by simpa only [PyData.shown] using hQ s.heap _ _ fun _ _ e => e)
  | int i t =>
    simp only [PyData.shown] at hQ
    exact call_repr_slot (by omega) (typeIs_int s i t) F.slot_int_repr.toG (call_meets F.slot_int_repr (typeIs_int s i t) F.entry_int_repr (F.args_int_repr_1 _) (int_repr_big K e i t (by simpa [show2] using hs)) ⟨hx, _, _, rfl, hQ s.heap _ _ fun _ _ e => e⟩)
  | str x t => exact P.repr_of_str (by simpa only [PyData.shown] using hQ s.heap _ _ fun _ _ e => e) (by simpa only [PyData.shown] using hsz)
  | @list a o vs n xs as h1 h2 h3 h4 h5 =>
    have hz' : (listText (PyData.shownAll xs)).length ≤ sizeLine := by simpa only [PyData.shown] using hsz
    have hs' : show2s xs = true := by simpa [show2] using hs
    obtain ⟨bs, hb, hk⟩ := reprAll_of (prog := prog) (w := w) (readsAll_len h4) fun i v hv => by
      obtain ⟨q, hq⟩ : ∃ q, xs[i]? = some q := ⟨_, List.getElem?_eq_getElem (by rw [← readsAll_len h4]; exact lt_of_get hv)⟩
      exact ⟨q, hq, reprK_of hx e (h5 i v q hv hq) (show2s_get hs' hq) (Nat.le_trans (listText_mem_le (List.mem_of_getElem? (shownAll_get hq))) hz')⟩
    have hna : a ∉ bs := not_mem_of_deeper (.list h1 h2 h3 h4) (by simp only [PyData.depth]; omega) hb
    simp only [PyData.depth] at hu
    simp only [PyData.shown] at hQ
    refine call_repr_slot (by omega) ⟨o, h1, h2⟩ F.slot_list_repr.toG ?_
    obtain ⟨l⟩ := vs
    cases l with
    | nil =>
      have h4' : ReadsAll s.heap [] xs _ := h4
      cases h4'
      simp only [PyData.shownAll, listText_nil] at hQ
      exact call_list_repr_empty ⟨o, h1, h2⟩ h1 h3 ⟨_, _, rfl, hQ s.heap _ _ fun _ _ e => e⟩
    | cons x l =>
      exact call_list_reprK h1 h2 h3 hna (by simpa using hk.length_eq) (fun i y e => hk.item i y (by simpa using e)) hg (fun b _ => Clear.nil b) (by show A.units + 1 + _ < cLine; omega) (fun _ _ e => e) (fun h' u tk k => ⟨_, _, rfl, hQ h' u tk k⟩) hz'
  | @tuple a o vs n xs as h1 h2 h3 h4 h5 =>
    have hz' : (tupleText (PyData.shownAll xs)).length ≤ sizeLine := by simpa only [PyData.shown] using hsz
    have hs' : show2s xs = true := by simpa [show2] using hs
    obtain ⟨bs, hb, hk⟩ := reprAll_of (prog := prog) (w := w) (readsAll_len h4) fun i v hv => by
      obtain ⟨q, hq⟩ : ∃ q, xs[i]? = some q := ⟨_, List.getElem?_eq_getElem (by rw [← readsAll_len h4]; exact lt_of_get hv)⟩
      exact ⟨q, hq, reprK_of hx e (h5 i v q hv hq) (show2s_get hs' hq) (Nat.le_trans (tupleText_mem_le (List.mem_of_getElem? (shownAll_get hq))) hz')⟩
    have hna : a ∉ bs := not_mem_of_deeper (.tuple h1 h2 h3 h4) (by simp only [PyData.depth]; omega) hb
    simp only [PyData.depth] at hu
    simp only [PyData.shown] at hQ
    refine call_repr_slot (by omega) ⟨o, h1, h2⟩ F.slot_tuple_repr ?_
    exact call_tuple_reprK h1 h2 h3 hna hk hg (fun b _ => Clear.nil b) (by show A.units + 1 + _ < cLine; omega) (fun _ _ e => e) (fun h' u tk k => ⟨_, _, rfl, hQ h' u tk k⟩) hz'
  | @dict a o es n h1 h2 h3 h4 h5 =>
    simp only [PyData.depth] at hu
    simp only [PyData.shown, PyData.shownKv_eq] at hQ
    refine call_repr_slot (by omega) ⟨o, h1, h2⟩ F.slot_dict_repr ?_
    exact call_dict_reprK (as := []) (d := 0) h1 h2 h3 h5 List.not_mem_nil (by rw [h4]; exact ReprEntriesK.of_two [] [] [] .nil .nil) hg (fun b _ => Clear.nil b) (by show A.units + 1 + _ < cLine; omega) (fun _ _ e => e) (fun h' u tk k => ⟨_, _, rfl, hQ h' u tk k⟩) (by decide)
end
section
variable {X : Cx} {pins : List (Addr × Obj)} {σ : L2.St} {H : Hp} {s : Shared} {c : Cfg} {F : Hp}
mutual
theorem Rep.rd2 (I : Inv X pins σ H s) (hK : c.K = X.K) (sub : Same F H) : ∀ (d : D) (v : V) (q : PyData) (u : Value), Rep c F v d → d.py = some q → RelV v u → Rd2 s.heap u q
  | .non, _, _, _, .non, h, r => by cases h; cases r; exact .none
  | .bl b, _, _, _, .bl _, h, r => by cases h; cases r; exact .bool b
  | .int i, _, _, _, .int _, h, r => by cases h; obtain ⟨t, rfl⟩ := r; exact .int i t
  | .str x, _, _, _, .str _, h, r => by cases h; obtain ⟨t, rfl⟩ := r; exact .str x t
  | .lst ds, _, _, _, .lst e rs, h, r => by
    rw [D.py] at h
    split at h
    · rename_i xs hx
      cases h
      cases r
      obtain ⟨its, rv, ⟨o, n, ho, hc, _, hd⟩, _⟩ := I.list (SqL.of (K := X.K) (sub _ _ e))
      obtain ⟨⟨as, ra⟩, h5⟩ := Reps.rd2s I hK sub ds _ xs its rs hx rv
      exact .list ho hc hd ra h5
    · cases h
  | .tup ds, _, _, _, .tup e rs, h, r => by
    rw [D.py] at h
    split at h
    · rename_i xs hx
      cases h
      cases r
      obtain ⟨its, rv, ⟨o, ho, hc, n, hd⟩, _⟩ := I.tuple (by rw [← hK]; exact Same.seqT sub e)
      obtain ⟨⟨as, ra⟩, h5⟩ := Reps.rd2s I hK sub ds _ xs its rs hx rv
      exact .tuple ho hc hd ra h5
    · cases h
  | .dic ks ds, _, _, _, .dic e l rs, h, r => by
    cases r
    cases ks <;> cases ds <;> simp [D.py] at h
    subst h
    have hl := sub _ _ e
    rw [List.zip_nil_left] at hl
    obtain ⟨_, hsy, vs, kv, hm⟩ := I.hok _ _ hl
    have kv : KV [] vs := kv
    cases kv
    obtain ⟨ob, es, ep, e1, e2, e3, e4, e5, _⟩ := hm
    have hes : es.toList = [] := by
      revert e5
      generalize es.toList = l
      intro e5
      cases e5
      rfl
    exact .dict e1 e2.1 e3 hes hsy
  | .dit _ _, _, _, _, _, h, _ => by simp [D.py] at h
  | .obj _ _, _, _, _, _, h, _ => by simp [D.py] at h
  | .res, _, _, _, _, h, _ => by simp [D.py] at h
theorem Reps.rd2s (I : Inv X pins σ H s) (hK : c.K = X.K) (sub : Same F H) : ∀ (ds : List D) (vs : List V) (qs : List PyData) (us : List Value), Reps c F vs ds → D.pyL ds = some qs → Vals vs us → (∃ as, ReadsAll s.heap us qs as) ∧ ∀ (i : Nat) (v : Value) (q : PyData), us[i]? = some v → qs[i]? = some q → Rd2 s.heap v q
  | [], _, _, _, .nil, h, .nil => by
    rw [D.pyL] at h
    cases h
    exact ⟨⟨_, .nil⟩, fun i v q h => by simp at h⟩
  | d :: ds, _, _, _, .cons r rs, h, .cons rv rvs => by
    obtain ⟨x, xs, rfl, h1, h2⟩ := pyL_cons h
    have z := Rep.rd2 I hK sub d _ x _ r h1 rv
    obtain ⟨as, ra⟩ := z.reads
    obtain ⟨⟨bs, rb⟩, h5⟩ := Reps.rd2s I hK sub ds _ xs _ rs h2 rvs
    refine ⟨⟨_, .cons ra rb⟩, fun i v q hv hq => ?_⟩
    cases i with
    | zero => simp at hv hq; subst hv; subst hq; exact z
    | succ i => exact h5 i v q (by simpa using hv) (by simpa using hq)
end
end
end PL

/-! PL: repr(x) of data with great ints and empty dicts. -/
namespace PL
open PySem PySem.Spec L2
def showOk2 (q : PyData) : Prop := show2 q = true ∧ q.depth ≤ 62 ∧ q.shown.length ≤ sizeLine
def oRepr2 : OL := fun ds R => match ds with
  | [d] => match d.py with | some q => showOk2 q ∧ R (.str q.shown) | none => False
  | _ => False
section
variable {X : Cx} {e : Expr} {pos pf : Pos} {ta : TPA}
def RdH (X : Cx) (H : Hp) (x : V) (q : PyData) : Prop := ∀ (pins : List (Addr × Obj)) (σ : L2.St) (s : Shared) (u : Value), Inv X pins σ H s → RelV x u → Rd2 s.heap u q
theorem call_repr2 (hu : X.A.units + 64 < cLine) (hgd : X.A.guards = some []) (nd : NoDg X.K) : CallR X (.builtin "repr") (fun xs H Q => ∃ x q, xs = [x] ∧ RdH X H x q ∧ showOk2 q ∧ Q (.str q.shown) H) := by
  intro pins s σ H xs us Q I r h
  obtain ⟨x, q, rfl, hq, ⟨h1, h2, h3⟩, hQ⟩ := h
  obtain ⟨u, rfl, ru⟩ := Vals.one r
  exact repr2 I.kIn nd (hq pins σ s u I ru) h1 hgd (by omega) h3 (fun h' u tk hk => ⟨.str q.shown, H, I.kept (t' := tk) hk, ⟨_, rfl⟩, hQ⟩)
theorem cp_repr2 : CaP X.K (fun xs H Q => ∃ x q, xs = [x] ∧ RdH X H x q ∧ showOk2 q ∧ Q (.str q.shown) H) oRepr2 := fun g n F H σ ρ xs ds R Q hK ok r q k => by
  have q : oRepr2 ds R := q
  unfold oRepr2 at q
  split at q
  · cases r with
    | cons r t =>
      cases t
      split at q
      · rename_i d _ _ _ y hy
        refine ⟨_, y, rfl, fun pins σ' s u I ru => ?_, q.1, k F H _ _ (Same.refl F) ok (.str _) q.2⟩
        rcases r with r | ⟨i, hi, hs⟩
        · exact Rep.rd2 I hK ok.sub _ _ y u r hy ru
        · obtain ⟨F', s', ok'⟩ := ok.freeze hi
          obtain ⟨v, e, r⟩ := ok'.cells i _ (set_same (lt_of_get hi))
          rw [hs] at e
          cases e
          exact Rep.rd2 I hK ok'.sub _ _ y u r hy ru
      · exact q.elim
  · exact q.elim
theorem de_repr2 (nd : NoDg X.K) (hm : X.mg "repr" = none) (hg : Gl X "repr") (hu : X.A.units + 64 < cLine) (hgd : X.A.guards = some []) (ha : SA X [e] ta) (he : starEach [e] X.env = (false, eval e X.env) :: starEach [] X.env := by rfl) : DE X (.Call (.Name "repr" pf) [e] [] pos) (pCall oRepr2 ta) :=
  de_callB (call_repr2 hu hgd nd) cp_repr2 hg hm (by decide +kernel) ha (he := he) (hpl := rfl)
end
/-! ### what can be shown -/
mutual
def niceE : D → Bool
  | .non | .bl _ => true
  | .int i => decide (i.natAbs < 2 ^ 12800)
  | .str s => s.cps.toList.all (· < 1114112)
  | .lst ds => niceEs ds
  | .tup ds => niceEs ds
  | .dic [] [] => true
  | _ => false
def niceEs : List D → Bool
  | [] => true
  | d :: ds => niceE d && niceEs ds
end
mutual
def pyE : D → PyData
  | .non => .none
  | .bl b => .bool b
  | .int i => .int i
  | .str s => .str s
  | .lst ds => .list (pyEs ds)
  | .tup ds => .tuple (pyEs ds)
  | .dic _ _ => .dict []
  | _ => .none
def pyEs : List D → List PyData
  | [] => []
  | d :: ds => pyE d :: pyEs ds
end
theorem log2E {i : Int} (h : i.natAbs < 2 ^ 12800) : i.natAbs.log2 < 12900 := by
  have := PySem.Flt.log2_lt_of (n := i.natAbs) (k := 12800) (by decide) h
  omega
mutual
theorem nice_E : ∀ d : D, niceE d = true → d.py = some (pyE d) ∧ show2 (pyE d) = true ∧ (pyE d).depth ≤ depD d ∧ (pyE d).bulk = bulkD d ∧ (pyE d).leavesShort 4301 = true
  | .non, _ => by simp [D.py, pyE, show2, PyData.depth, depD, PyData.bulk, bulkD, PyData.leavesShort]
  | .bl _, _ => by simp [D.py, pyE, show2, PyData.depth, depD, PyData.bulk, bulkD, PyData.leavesShort]
  | .int i, h => by
    have h : i.natAbs < 2 ^ 12800 := by simpa [niceE] using h
    have h2 := log2E h
    have h3 : (PyData.shown (.int i)).length ≤ 4301 := by
      have := int_text_length_le10 (a := i) (k := 4300) (by decide) (Nat.lt_of_lt_of_le (PyProof.Rows.lt_of_log2 h2) PyProof.Rows.pow_lo)
      show (Str.ofString (toString i)).length ≤ 4301
      rw [ofString_length]; omega
    exact ⟨by simp [D.py, pyE], by simp only [pyE, show2]; exact decide_eq_true h2, by simp [pyE, PyData.depth, depD], by simp [pyE, PyData.bulk, bulkD], by simp only [pyE, PyData.leavesShort]; exact decide_eq_true h3⟩
  | .str s, h => by
    have h : s.cps.toList.all (· < 1114112) = true := by rw [niceE] at h; exact h
    refine ⟨by simp [D.py, pyE], by simp [pyE, show2], by simp [pyE, PyData.depth, depD], by simp [pyE, PyData.bulk, bulkD], ?_⟩
    simp only [pyE, PyData.leavesShort]
    rw [List.all_eq_true] at h ⊢
    intro c hc
    have := of_decide_eq_true (h c hc)
    exact decide_eq_true (by omega)
  | .lst ds, h => by
    have h : niceEs ds = true := by simpa only [niceE] using h
    obtain ⟨h1, h2, h4, h5, h6⟩ := nice_Es ds h
    exact ⟨by rw [D.py, h1, pyE], by rw [pyE, show2]; exact h2, by rw [pyE, PyData.depth, depD]; omega, by rw [pyE, PyData.bulk, bulkD]; exact h5, by rw [pyE, PyData.leavesShort]; exact h6⟩
  | .tup ds, h => by
    have h : niceEs ds = true := by simpa only [niceE] using h
    obtain ⟨h1, h2, h4, h5, h6⟩ := nice_Es ds h
    exact ⟨by rw [D.py, h1, pyE], by rw [pyE, show2]; exact h2, by rw [pyE, PyData.depth, depD]; omega, by rw [pyE, PyData.bulk, bulkD]; exact h5, by rw [pyE, PyData.leavesShort]; exact h6⟩
  | .dic [] [], h => by simp [D.py, pyE, show2, PyData.depth, depD, PyData.bulk, bulkD, PyData.leavesShort, PyData.depthKv, PyData.bulkKv, PyData.leavesShortKv]
  | .dic (_ :: _) _, h => by simp [niceE] at h
  | .dic [] (_ :: _), h => by simp [niceE] at h
  | .dit _ _, h => by simp [niceE] at h
  | .obj _ _, h => by simp [niceE] at h
  | .res, h => by simp [niceE] at h
theorem nice_Es : ∀ ds : List D, niceEs ds = true → D.pyL ds = some (pyEs ds) ∧ show2s (pyEs ds) = true ∧ PyData.depthAll (pyEs ds) ≤ depL ds ∧ PyData.bulkAll (pyEs ds) = bulkL ds ∧ PyData.leavesShortAll 4301 (pyEs ds) = true
  | [], _ => by simp [D.pyL, pyEs, show2s, PyData.depthAll, depL, PyData.bulkAll, bulkL, PyData.leavesShortAll]
  | d :: ds, h => by
    have h : niceE d = true ∧ niceEs ds = true := by simpa [niceEs] using h
    obtain ⟨a1, a2, a4, a5, a6⟩ := nice_E d h.1
    obtain ⟨b1, b2, b4, b5, b6⟩ := nice_Es ds h.2
    exact ⟨by rw [D.pyL, a1, b1, pyEs], by rw [pyEs, show2s, a2, b2]; rfl, by rw [pyEs, PyData.depthAll, depL]; omega, by rw [pyEs, PyData.bulkAll, bulkL, a5, b5], by rw [pyEs, PyData.leavesShortAll, a6, b6]; rfl⟩
end
/-- may be shown -/
def okE (d : D) : Prop := niceE d = true ∧ depD d ≤ 60 ∧ bulkD d ≤ 3500
theorem oRepr2_ok {d : D} (h : okE d) {R : D → Prop} (q : R (.str (pyE d).shown)) : oRepr2 [d] R := by
  obtain ⟨h1, h2, h3, h4, h5⟩ := nice_E d h.1
  simp only [oRepr2, h1]
  refine ⟨⟨h2, by have := h.2.1; omega, ?_⟩, q⟩
  have := PyData.shown_le_bulk 4301 (by decide) (pyE d) h5
  rw [h4] at this
  have := h.2.2
  rw [sizeLine_val]
  omega
end PL

/-! An error of the program: class C(S), S over Exception; __init__ says super().__init__(f), self.f = f. -/
namespace PySem
namespace SerX
open PySem.W PySem.Calls PyProof.Rows PySem.HandSPX PySem.ESX
abbrev exTail2 (S : Addr) : List Value := [.ref S, .type "Exception", .type "BaseException", .type "object"]
theorem cont2 (S : Addr) (X : String) : (exTail2 S).contains (.type X) = exTail.contains (.type X) := by
  rw [show exTail2 S = .ref S :: exTail from rfl, List.contains_cons]
  simp
section
open Builtin Builtin.ObjectAttr
variable {prog : Program} {w : World} {A : Around} {E : Value → Shared → Prop} {R : Result → Shared → Prop} {hp : Heap} {g : Array GenState} {d : Drawn} {t : Nat} {os : OsState}
theorem mro_has2 {K : W.Frag} {C S : Addr} {cd : ClassData} (hcd : W.clsIn K C = some cd) (hm : cd.mro = .ref C :: exTail2 S) {b : Value} (hb : (Value.ref C :: exTail2 S).contains b = true) : W.mroIn K C b = some true := by
  unfold W.mroIn
  rw [hcd, Option.bind_some, hm, if_neg (show ¬ (List.isEmpty (Value.ref C :: exTail2 S) = true) from Bool.false_ne_true), hb]
theorem osa_exc2 {K : W.Frag} {name : Str} {tk : Tok} {v : Value} {x C S : Addr} {ox : Obj} {od : Option Obj} {cd : ClassData}
    (X : K.In hp) (I : W.InstAt hp x ox C od) (hcd : W.clsIn K C = some cd) (hm : cd.mro = .ref C :: exTail2 S) (ha : W.findIn K (.ref C) name = some none)
    (hq : wpAny (model prog w) A.in1 (storeInOwnDict (.ref x) (.ref C) (.str name tk) name v false)
      (fun fin s' => match fin with | .done f => R (.ok f) s' | .again c' => c'.quiet = true ∧ codeAny (model prog w) A c' R s') (fun e s' => R (.error e) s') ⟨hp, g, d, t, os⟩) :
    codeAny (model prog w) A (.call (.builtin "object.__setattr__") ⟨[.ref x, .str name tk, v], []⟩) R ⟨hp, g, d, t, os⟩ := by
  have SF := F.store_object
  have sub : W.Looks (model prog w) hp (isInstance (.ref x) (.type "object")) true := I.type.andThen (W.looks_mroIn X (mro_has2 hcd hm (by rw [List.contains_cons, cont2, show exTail.contains (.type "object") = true by decide +kernel, Bool.or_true])))
  refine codeAny_call_builtin SF.slot.plain SF.entry (@W.check_slot (model prog w) _ _ ⟨hp, g, d, t, os⟩ "object.__setattr__" "object" "__setattr__" (.ref x) [.str name tk, v] [] _ SF.kind SF.split sub (SF.args (.ref x) (.str name tk) v) ?_)
  have hmr : W.Looks (model prog w) hp (mroOf (.ref C)) cd.mro := (W.looks_clsIn X hcd).andThen .now
  have L3 : W.Looks (model prog w) hp (storeTaker? none) none := .now
  have hpass : refuseLoop (.ref x) "__setattr__" cd.mro = pure () := by
    rw [hm, refuseLoop_ref, refuseLoop_ref]
    exact F.store_Exception.passes _
  rw [W.osa_eq, refuse_eq]
  refine wpAny_bind (wpAny_bind (I.type.at (wpAny_bind (hmr.at ?_))))
  rw [hpass]
  refine wpAny_pure (wpAny_bind (I.type.at (wpAny_bind ((W.looks_findIn X ha).at (wpAny_bind (L3.at ?_))))))
  exact hq
theorem osa_new2 {K : W.Frag} {name : Str} {tk : Tok} {v : Value} {x C S : Addr} {fv : Array Value} {cd : ClassData}
    (X : K.In hp) (hx : hp.get? x = some { cls := .ref C, data := .fields fv }) (hcd : W.clsIn K C = some cd) (hm : cd.mro = .ref C :: exTail2 S) (hh : cd.hasDict = true) (ha : W.findIn K (.ref C) name = some none)
    (hq : ∀ h' tk' dx, (∀ b o, b ≠ x → hp.get? b = some o → h'.get? b = some o) → hp.objs.size ≤ dx → dx ≠ x → h'.get? x = some { cls := .ref C, dict := some dx, data := .fields fv } →
      h'.Ns1 dx (fun y => if y = name then some v else none) → R (.ok (.ret .none)) ⟨h', g, d, tk', os⟩) :
    codeAny (model prog w) A (.call (.builtin "object.__setattr__") ⟨[.ref x, .str name tk, v], []⟩) R ⟨hp, g, d, t, os⟩ := by
  have I : W.InstAt hp x { cls := .ref C, data := .fields fv } C none := ⟨hx, rfl, rfl, trivial⟩
  have hxs : x ≠ hp.objs.size := Nat.ne_of_lt (Heap.lt_size hx)
  refine osa_exc2 X I hcd hm ha ?_
  have hcls : W.Looks (model prog w) hp (classData C) cd := W.looks_clsIn X hcd
  obtain ⟨nm, bs, mro, ns, qn, hd, sn, sb, ab, col, del⟩ := cd
  dsimp only at hh
  subst hh
  unfold storeInOwnDict ownDictForStores
  repeat (first | with_reducible refine HandSPX.store_in_new ?_ ?_ | with_reducible refine wpAny_loadPart_at hx ?_ | with_reducible refine hcls.at ?_ | wp_step)
  · exact ⟨_, #[], _, (Heap.get?_update_ne _ _ _ _ hxs.symm).trans (Heap.get?_push_at rfl rfl), rfl, fun e he => absurd he (by simp), fun _ => rfl⟩
  · intro h' tk' hn' hs
    have hx₁ : (hp.push { cls := .type "dict", data := .dict #[] }).get? x = some { cls := .ref C, data := .fields fv } := Heap.get?_push_of_some _ hx
    refine hq h' tk' hp.objs.size (fun b o hb ho => ?_) (Nat.le_refl _) hxs.symm ?_ hn'
    · exact (hs.2 b (Nat.ne_of_lt (Heap.lt_size ho))).trans ((Heap.get?_update_ne _ _ _ _ hb).trans (Heap.get?_push_of_some _ ho))
    · exact (hs.2 x hxs).trans (Heap.get?_update_self _ hx₁ rfl)
end
/-! ### the text of __init__, by the field's name -/
def iA (f : Str) (p1 p2 : Pos) : Arguments := { posonlyargs := [], args := [{ arg := "self", annotation := none, pos := p1 }, { arg := f, annotation := none, pos := p2 }], vararg := none, kwonlyargs := [], kw_defaults := [], kwarg := none, defaults := [] }
def iB (f : Str) (q1 q2 q3 q4 q5 q6 q7 q8 q9 q10 : Pos) : List Stmt := [.Expr (.Call (.Attribute (.Call (.Name "super" q1) [] [] q2) "__init__" q3) [.Name f q4] [] q5) q6, .Assign [.Attribute (.Name "self" q7) f q8] (.Name f q9) q10]
def iS (f : Str) : Scope := { kind := .function, names := [("self", .local), (f, .local), ("__class__", .free), ("super", .globalImplicit)], isGenerator := false, isCoroutine := false, more := [] }
/-- what the written part says of the class x(S), at C, with the field f, and of its __init__, at fI -/
structure ErrT (K : Frag) (mg : Str → Option Value) (file x f : Str) (C S : Addr) : Prop where
  gC : mg x = some (.ref C)
  gS : nsIn K mainGlobals "super" = some none
  op : nsIn K cStatics "thirdparty.any" = some none
  cls : ∃ nm q N bs sn sub ab col dd k0 k1 k2 k3 k5, K.lookup C = some (excClassObj nm q C N bs (exTail2 S) true sn sub ab col dd k0 k1 k2 k3 k5 "Exception.__new__")
  alS : alongIn K "__init__" (exTail2 S) = some (some (.builtin "Exception.__init__"))
  sa : findIn K (.ref C) "__setattr__" = some (some (.builtin "object.__setattr__"))
  noN : findIn K (.ref C) f = some none
  kC : keepIn K (.ref C) = true
  exC : subIn K (.ref C) (.type "BaseException") = some true
  tyC : typeIn K (.ref C) = some (.type "type")
  init : ∃ (fI cc cda : Addr) (oc ccl cl : Value) (od cdd cld : Option Addr) (osl ccs csl : Array (Option Value)) (kV doc pm : Value) (an : Option Addr) (ct : Value) (vs : Array Value) (tf : Tok) (q : Str) (p1 p2 q1 q2 q3 q4 q5 q6 q7 q8 q9 q10 : Pos),
    findIn K (.ref C) "__init__" = some (some (.ref fI)) ∧ typeIn K (.ref fI) = some (.type "function") ∧
    K.lookup fI = some ⟨oc, od, .func { name := "__init__", qualname := q, params := iA f p1 p2, body := .stmts (iB f q1 q2 q3 q4 q5 q6 q7 q8 q9 q10), scope := iS f, globals := mainGlobals, closure := [("__class__", cc)], defaults := .none, kwdefaults := kV, doc := doc, pyModule := pm, annotations := an, code := .ref cda, closureTuple := ct, builtins := builtinsNs }, osl⟩ ∧
    codeIn K (.ref cda) q = true ∧ K.lookup cda = some ⟨ccl, cdd, .fields vs, ccs⟩ ∧ vs[2]? = some (.str file tf) ∧ K.lookup cc = some ⟨cl, cld, .cell (some (.ref C)), csl⟩ ∧ (q3.endLine == q5.line) = true
/-- what may be a field's name -/
def NameOk (f : Str) : Prop := (f == ("self" : Str)) = false ∧ (f == ("__class__" : Str)) = false ∧ (f == ("super" : Str)) = false ∧ (f == ("__debug__" : Str)) = false
/-- its __init__ binds -/
def BindOk (f : Str) : Prop := ∀ (q : Str) (p1 p2 : Pos) (b : List Stmt) (cc : Addr) (kV doc pm : Value) (an : Option Addr) (cd ct a v : Value),
  bindArgs { name := "__init__", qualname := q, params := iA f p1 p2, body := .stmts b, scope := iS f, globals := mainGlobals, closure := [("__class__", cc)], defaults := .none, kwdefaults := kV, doc := doc, pyModule := pm, annotations := an, code := cd, closureTuple := ct, builtins := builtinsNs } ⟨[a, v], []⟩ = pure [(("self" : Str), a), (f, v)]
example : BindOk "length" := fun _ _ _ _ _ _ _ _ _ _ _ _ _ => by first | rfl | with_unfolding_all rfl
example : NameOk "length" := ⟨by decide, by decide, by decide, by decide⟩
/-- what __init__ leaves of a fresh exception at x -/
structure InitEnd (h h' : Heap) (f : Str) (x C dx : Addr) (v : Value) : Prop where
  keep : ∀ b o, b ≠ x → h.get? b = some o → h'.get? b = some o
  obj : ∃ t1 : Addr, h'.get? x = some { cls := .ref C, dict := some dx, data := .fields #[.ref t1, .none, .none, .none, .bool false, .none] }
  dbig : h.objs.size ≤ dx
  dne : dx ≠ x
  ns : h'.Ns1 dx (fun y => if y = f then some v else none)
/-- a made error -/
structure OwnMade (h h' : Heap) (f : Str) (e C d : Addr) (v : Value) : Prop where
  keep : ∀ b o, h.get? b = some o → h'.get? b = some o
  new : h.objs.size ≤ e
  obj : ∃ oe vs, h'.get? e = some oe ∧ oe.cls = .ref C ∧ oe.dict = some d ∧ oe.data = .fields vs ∧ vs[1]? = some .none
  dbig : h.objs.size ≤ d
  dne : d ≠ e
  ns : h'.Ns1 d (fun y => if y = f then some v else none)
theorem one_size (v : Value) : [v].length ≤ sizeLine := by
  rw [sizeLine_eq]
  exact (by decide : 1 ≤ 16777216)
theorem look_self {f : Str} (hf : NameOk f) {α : Type} (a b : α) : List.lookup ("self" : Str) [(f, a), ("self", b)] = some b := by
  have : (("self" : Str) == f) = false := by
    rw [Bool.eq_false_iff]; intro z
    have := hf.1
    rw [show f = "self" from (by simpa using z : ("self" : Str) = f).symm] at this
    simp at this
  simp [List.lookup, this]
theorem kind_f {f : Str} (hf : NameOk f) : (iS f).names.lookup f = some .local := by
  unfold iS
  simp [List.lookup, hf.1]
theorem kind_ne {f g : Str} (h : (f == g) = false) : (g == f) = false := by
  rw [Bool.eq_false_iff] at h ⊢
  intro z; apply h
  rw [show g = f by simpa using z]; simp
theorem kind_c {f : Str} (hf : NameOk f) : (iS f).names.lookup ("__class__" : Str) = some .free := by
  unfold iS
  have h1 : (("__class__" : Str) == ("self" : Str)) = false := by decide
  simp [List.lookup, kind_ne hf.2.1, h1]
theorem kind_s {f : Str} (hf : NameOk f) : (iS f).names.lookup ("super" : Str) = some .globalImplicit := by
  unfold iS
  have h1 : (("super" : Str) == ("self" : Str)) = false := by decide
  have h2 : (("super" : Str) == ("__class__" : Str)) = false := by decide
  simp [List.lookup, kind_ne hf.2.2.1, h1, h2]
theorem kept_but {K : Frag} {h h' : Heap} {x : Addr} (X : K.In h) (hx : K.lookup x = none) (k : ∀ b o, b ≠ x → h.get? b = some o → h'.get? b = some o) : K.In h' := fun a o e =>
  k a o (fun z => by rw [z, hx] at e; cases e) (X a o e)
theorem mcall {o e : Expr} {name : Str} {apos pos : Pos} {env : Env} (h : (apos.endLine == pos.line) = true) (he : starEach [e] env = [(false, eval e env)] := by rfl) : eval (.Call (.Attribute o name apos) [e] [] pos) env = (do
      let ov ← attributeBase o name env (eval o env)
      standAt apos.atName
      let (f, first) ← holding [ov] (getMethod ov name (do return (← importBound o env).getD true))
      callWith pos f first (backTo pos (starEach [e] env)) []) := by
  have hp : methodCallPos true o env apos pos = pure pos := by
    unfold methodCallPos
    rw [h]; rfl
  rw [arm_eval_Call]
  unfold methodCall
  rw [he]
  show (do
    let ov ← attributeBase o name env (eval o env)
    standAt apos.atName
    let (f, first) ← holding [ov] (calleeOf true o env ov name)
    let callPos ← methodCallPos true o env apos pos
    callWith callPos f first (backTo pos [(false, eval e env)]) []) = _
  simp only [hp, pure_bind]
  rfl
theorem ldN {M : Model} {A : Around} {E : Value → Shared → Prop} {s : Shared} {env : Env} {m : Str → Option Value} {x : Str} {pos : Pos} {v : Value} {Q : Value → Shared → Prop} (hn : s.heap.Ns env.locals m) (hv : m x = some v) (hl : env.kindOf x = some .local) (hd : (x == ("__debug__" : Str)) = false) (h : Q v s)
    (hk : env.scope.kind = .function := by rfl) : wpAny M A (eval (.Name x pos) env) Q E s := wpAny_Name (wpAny_loadName_local hk hl hn hv h) hd
section
variable {prog : Program} {w : World} {A : Around} {E : Value → Shared → Prop} {R : Result → Shared → Prop} {s : Shared} {K : Frag} {mg : Str → Option Value} {C S : Addr} {x f : Str} {base : Heap}
theorem err_init (T : ErrT K mg prog.main.file x f C S) (hf : NameOk f) (hbd : BindOk f) (MO : L2.Mod K mg base) (kb : ∀ b o, base.get? b = some o → s.heap.get? b = some o) (htop : (prog.main.scope.names.lookup ("super" : Str)).isSome = false) {e t0 : Addr} {v : Value} (hx : s.heap.get? e = some (excO C t0)) (hnx : K.lookup e = none) (hroom : A.depth < recursionLimit) {fI : Addr} (hfI : findIn K (.ref C) "__init__" = some (some (.ref fI)))
    (hq : ∀ h' tk dx, InitEnd s.heap h' f e C dx v → R (.ok (.ret .none)) { s with heap := h', toks := tk }) :
    codeAny (model prog w) A (.call (.ref fI) ⟨[.ref e, v], []⟩) R s := by
  obtain ⟨fI', cc, cda, oc, ccl, cl, od, cdd, cld, osl, ccs, csl, kV, doc, pm, an, ct, vs, tf, q, p1, p2, q1, q2, q3, q4, q5, q6, q7, q8, q9, q10, hi, ti, lf, hcd, lcd, hvs, lcc, hpos⟩ := T.init
  rw [hfI] at hi
  cases hi
  obtain ⟨nm, qn, N, bs, sn, sub, ab, col, dd, k0, k1, k2, k3, k5, hC⟩ := T.cls
  have X : K.In s.heap := MO.kin.keeps kb
  have hlim : s.heap.NoLimit := MO.nolimit.keeps kb
  have hcl : clsIn K C = some { name := nm, bases := bs, mro := .ref C :: exTail2 S, ns := N, qualname := qn, hasDict := true, slotNames := sn, subclasses := sub, abstract := ab, collection := col, hasDel := false } := by unfold clsIn; rw [hC] <;> rfl
  refine ks_codeAny_call_defAt (binds := [("self", .ref e), (f, v)]) (body := iB f q1 q2 q3 q4 q5 q6 q7 q8 q9 q10) hroom (X _ _ lf) rfl hlim (codeRec_of X hcd) rfl (BindsTo.of_eq (hbd _ _ _ _ _ _ _ _ _ _ _ _ _)) ?_ ?_ (fun h₁ hn k => ?_) rfl rfl rfl
  · intro y hy
    simp only [iS, List.mem_cons, List.not_mem_nil, or_false] at hy
    rcases hy with rfl | rfl | rfl | rfl <;> exact fun z => nomatch z
  · intro y hy
    simp only [List.mem_cons, List.not_mem_nil, or_false] at hy
    rcases hy with rfl | rfl
    · rfl
    · exact kind_f hf
  · have X₁ : K.In h₁ := X.keeps k
    have hx₁ := k _ _ hx
    have hnf : h₁.Ns s.heap.objs.size (fun y => List.lookup y [(f, v), ("self", Value.ref e)]) := hn
    have hne : e ≠ C := fun z => by rw [z, hC] at hnx; cases hnx
    obtain ⟨oD, hD1, hD2⟩ : ∃ oD, h₁.get? C = some oD ∧ oD.data = .cls _ := ⟨_, X₁ _ _ hC, rfl⟩
    have hmro : mroIn K C (.ref C) = some true := mro_has2 hcl rfl (by simp)
    have hsubE : mroIn K C (.type "Exception") = some true := mro_has2 hcl rfl (by rw [List.contains_cons, cont2]; simp)
    obtain ⟨mb, nb, hmb⟩ := MO.blt
    refine ks_wpAt_execs_cons (ks_wpAt_Expr_any (ks_wpAt_MethodCall (pl := (do return (← importBound (.Call (.Name "super" q1) [] [] q2) (callEnv _ s.heap.objs.size fI)).getD true)) ?_ (mcall hpos)))
    · refine ks_wpAt_super_base (env := callEnv _ s.heap.objs.size fI) (kind_s hf) (kind_c hf) (by decide) rfl (X₁ _ _ lf) rfl rfl rfl (X₁ _ _ lcd) rfl hvs (by simp) htop ?_
      have hk2 : h₁.Ns mainGlobals mg := MO.glob.keeps fun b o e => k b o (kb b o e)
      have hb2 : h₁.Ns builtinsNs mb := nb.keeps fun b o e => k b o (kb b o e)
      refine ks_loadName_global rfl (kind_s hf) (loadGlobal_builtin hk2 (mg_none_of MO.kin MO.glob T.gS) hb2 ((hmb _ (by decide +kernel)).trans (by first | rfl | decide +kernel)) ⟨rfl, ?_⟩)
      refine wpAny_loadName_free rfl (kind_c hf) rfl ⟨_, X₁ _ _ lcc, rfl⟩ ?_
      refine wpAny_loadName_local rfl (by rfl) hnf (look_self hf _ _) ?_
      refine ks_wpAny_isType_cls hD1 hD2 ⟨rfl, ?_⟩
      refine ks_wpAny_call_super hD1 hD2 hx₁ rfl (fun c e => nomatch e) (looks_mroIn X₁ hmro) (fun h₂ e2 k2 => ?_)
      have sz2 : h₁.objs.size < h₂.objs.size := Heap.lt_size e2
      have X₂ : K.In h₂ := X₁.keeps k2
      have hx₂ := k2 _ _ hx₁
      have I2 : W.InstAt h₂ e (excO C t0) C none := ⟨hx₂, rfl, rfl, trivial⟩
      refine getMethod_super e2 (looks_opaque X₂ T.op) (l₀ := .ref C :: exTail2 S) (l := exTail2 S) ?_ ?_ X₂ T.alS hne (by decide) (I2.type.andThen (W.looks_mroIn X₂ hsubE)) ?_
      · exact fun A Q E s k q => wpAny_bind ((looks_clsIn X₂ hcl) A _ E s k (wpAny_pure q))
      · exact drop_own C _
      · have kp : ∀ b o, h₂.get? b = some o → (h₂.push (bw e)).get? b = some o := fun b o z => Heap.get?_push_of_some _ z
        have hbw : (h₂.push (bw e)).get? h₂.objs.size = some (bw e) := Heap.get?_push_at rfl rfl
        have k3 : ∀ b o, h₁.get? b = some o → (h₂.push (bw e)).get? b = some o := fun b o z => kp b o (k2 b o z)
        have hnf3 : (h₂.push (bw e)).Ns s.heap.objs.size (fun y => List.lookup y [(f, v), ("self", Value.ref e)]) := hnf.keeps k3
        refine callWith_bound (x := e) (wpAny_items_cons (ldN (v := v) hnf3 (by simp [List.lookup]) (kind_f hf) hf.2.2.2 (wpAny_items_nil ⟨hbw, ?_⟩)) rfl) rfl rfl
        have hC3 := kp _ _ (X₂ _ _ hC)
        refine call_bw hC3 (kp _ _ hx₂) hbw (one_size v) (fun h₄ t1 k4 hx4 => ?_)
        have hLe : s.heap.objs.size ≠ e := Nat.ne_of_gt (Heap.lt_size hx)
        have hnx4 : ∀ b o, K.lookup b = some o → b ≠ e := fun b o z q => by rw [q, hnx] at z; cases z
        have X₄ : K.In h₄ := fun a o z => k4 a o (hnx4 a o z) (kp a o (X₂ a o z))
        have hnf4 : h₄.Ns s.heap.objs.size (fun y => List.lookup y [(f, v), ("self", Value.ref e)]) := hnf3.at fun o z => k4 _ _ hLe z
        refine wpAt_of_wpAny (wpAny_execs_cons (plainObj_wpAny_Assign_Attribute ?_))
        refine ldN (v := v) hnf4 (by simp [List.lookup]) (kind_f hf) hf.2.2.2 (ldN (v := .ref e) hnf4 (look_self hf _ _) (by rfl) (by decide) ?_)
        refine set_plain X₄ (ox := excO C t1) (od := none) ⟨hx4, rfl, rfl, trivial⟩ T.sa ?_
        refine osa_new2 X₄ hx4 hcl rfl rfl T.noN (fun h₅ tk₅ dx k₅ dn dne hx₅ hn₅ => ?_)
        show wpAny _ _ (execs _ _) _ _ _
        have old : ∀ b o, b ≠ e → s.heap.get? b = some o → h₄.get? b = some o := fun b o hb z => k4 b o hb (k3 b o (k b o z))
        have z1 : s.heap.objs.size < h₁.objs.size := hnf.lt
        have z3 : h₂.objs.size < h₄.objs.size := Heap.lt_size (k4 h₂.objs.size _ (Nat.ne_of_gt (Heap.lt_size hx₂)) hbw)
        exact wpAny_execs_nil (hq h₅ tk₅ dx ⟨fun b o hb z => k₅ b o hb (old b o hb z), ⟨t1, hx₅⟩, Nat.le_trans (Nat.le_of_lt (Nat.lt_trans z1 (Nat.lt_trans sz2 z3))) dn, dne, hn₅⟩)
end
end SerX
end PySem

/-! An error of the program is made, and raised. -/
namespace PySem
namespace SerX
open PySem.W PySem.Calls PyProof.Rows PySem.HandSPX PySem.ESX
section
variable {prog : Program} {w : World} {A : Around} {E : Value → Shared → Prop} {R : Result → Shared → Prop} {s : Shared} {K : Frag} {mg : Str → Option Value} {C S : Addr} {x f : Str} {base : Heap}
theorem err_made (T : ErrT K mg prog.main.file x f C S) (hf : NameOk f) (hbd : BindOk f) (MO : L2.Mod K mg base) (kb : ∀ b o, base.get? b = some o → s.heap.get? b = some o) (htop : (prog.main.scope.names.lookup ("super" : Str)).isSome = false) {v : Value} (hroom : A.depth + 1 < recursionLimit)
    (hq : ∀ h' tk e d, OwnMade s.heap h' f e C d v → R (.ok (.ret (.ref e))) { s with heap := h', toks := tk }) :
    codeAny (model prog w) A (.call (.ref C) ⟨[v], []⟩) R s := by
  obtain ⟨nm, q, N, bs, sn, sub, ab, col, dd, k0, k1, k2, k3, k5, hC⟩ := T.cls
  have X : K.In s.heap := MO.kin.keeps kb
  obtain ⟨fI, hi, ti⟩ : ∃ fI, findIn K (.ref C) "__init__" = some (some (.ref fI)) ∧ typeIn K (.ref fI) = some (.type "function") := by
    obtain ⟨fI, _, _, _, _, _, _, _, _, _, _, _, _, _, _, _, _, _, _, _, _, _, _, _, _, _, _, _, _, _, _, _, hi, ti, _⟩ := T.init
    exact ⟨fI, hi, ti⟩
  obtain ⟨hp, g, dr, tk, os⟩ := s
  have k : ∀ b o, hp.get? b = some o → ((hp.push (kdv_tup [v])).push (excO C hp.objs.size)).get? b = some o := fun b o e => Heap.get?_push_of_some _ (Heap.get?_push_of_some _ e)
  have hget : ((hp.push (kdv_tup [v])).push (excO C hp.objs.size)).get? (hp.objs.size + 1) = some (excO C hp.objs.size) := by heap_get
  have hnx : K.lookup (hp.objs.size + 1) = none := by
    cases e : K.lookup (hp.objs.size + 1) with
    | none => rfl
    | some o =>
      have z : hp.get? (hp.objs.size + 1) = some o := X _ _ e
      exact absurd (Nat.lt_of_succ_lt (Heap.lt_size z)) (Nat.lt_irrefl _)
  refine call_own F.excBase_Exception (fun X => cont2 S X) (X _ _ hC) (looks_findIn X hi) (fun self => bind_fn X self ti) (one_size v) ?_
  refine err_init (s := ⟨(hp.push (kdv_tup [v])).push (excO C hp.objs.size), g, dr, tk, os⟩) T hf hbd MO (fun b o e => k b o (kb b o e)) htop hget hnx ?_ hi fun h' tk' dx ⟨k', hx, dn, dne, hns⟩ => ?_
  · show A.depth + 1 < recursionLimit
    exact hroom
  · have old : ∀ b o, hp.get? b = some o → h'.get? b = some o := fun b o e => k' b o (Nat.ne_of_lt (Nat.lt_succ_of_lt (Heap.lt_size e))) (k b o e)
    have z : hp.objs.size + 1 + 1 ≤ dx := by
      first
        | (simpa only [Heap.size_push] using dn)
        | exact dn
        | (have q := dn; rw [Heap.size_push, Heap.size_push] at q; exact q)
    obtain ⟨t1, hx⟩ := hx
    exact ⟨rfl, hq h' tk' (hp.objs.size + 1) dx ⟨old, Nat.le_succ _, ⟨_, _, hx, rfl, rfl, rfl, rfl⟩, Nat.le_trans (Nat.le_trans (Nat.le_succ _) (Nat.le_succ _)) z, dne, hns⟩⟩
end
end SerX
end PySem
namespace L2
open PySem PySem.Spec PyProof.Rows
theorem relO_err {f : Str} {v : V} {v' : Value} (r : RelV v v') (y : Str) : RelO (List.lookup y [(f, v)]) (if y = f then some v' else none) := by
  by_cases hw : y = f
  · subst hw
    rw [if_pos rfl]
    have q : List.lookup y [(y, v)] = some v := by simp [List.lookup]
    rw [q]
    exact r
  · rw [if_neg hw]
    have qw : (y == f) = false := by simpa using hw
    have q2 : List.lookup y [(f, v)] = none := by simp [List.lookup, qw]
    rw [q2]
    trivial
section
variable {X : Cx} {C S : Addr} {x f : Str}
/-- C(e) -/
def tMkErr (C : Addr) (f : Str) (ta : TA) : St → Hp → XK → Prop := fun σ H Q => ta σ H fun vs H1 => ∃ v, vs = [v] ∧ ∀ d, H1 d = none → Q (.ref C) (some d) (upd H1 d (.xd [(f, v)]))
theorem pmk_err {a : Expr} {ta : TA} {p pos : Pos} {k : Nat} (T : PySem.SerX.ErrT X.K X.mg X.prog.main.file x f C S) (hf : PySem.SerX.NameOk f) (hbd : PySem.SerX.BindOk f) (htop : (X.prog.main.scope.names.lookup ("super" : Str)).isSome = false) (hr : Room k X.A) (ha : PA X [a] ta) (hg : Gl X x := by rfl)
    (hdb : (x == ("__debug__" : Str)) = false := by decide)
    (he : starEach (a :: []) X.env = (false, eval a X.env) :: starEach [] X.env := by rfl) (hpl : (backTo pos (starEach [] X.env)).any (·.1) = false := by rfl) :
    PMk X (.Call (.Name x p) [a] [] pos) (tMkErr C f ta) := by
  intro pins s σ H Q I h
  refine wpAny_Call_Name_kw (ld_glob I hg T.gC ?_ hdb)
  refine PySem.W.callWith_K (h₀ := X.base) I.ok.mod.kin T.kC (thn (ha.run pos pins s σ H _ I h) fun us s1 hh => ?_) he hpl
  obtain ⟨vs, H1, I1, r1, v, ev, q1⟩ := hh
  subst ev
  refine ⟨I1.kIn, ?_⟩
  cases r1 with
  | cons rv rn =>
    rename_i v' us'
    cases rn
    show wpAny _ _ (call (.ref C) [v']) _ _ _
    have hbk := I1.bk
    obtain ⟨hp, g, dr, tk, os⟩ := s1
    refine wpAny_call (PySem.SerX.err_made T hf hbd I1.mod hbk htop (by have := hr.dp; omega) fun h' tk' e d M => ?_)
    show MkP X pins σ Q (.ref e) ⟨h', g, dr, tk', os⟩
    obtain ⟨oe, fv, hoe, hc, hd, hdat, h1⟩ := M.obj
    have hns := M.ns
    obtain ⟨G', g1, g2⟩ := restrict h' fun b => decide (b ≠ e)
    have gk : ∀ b, b ≠ e → G'.get? b = h'.get? b := fun b hb => g1 b (decide_eq_true hb)
    have ge : G'.get? e = none := g2 e (by simp)
    have old : ∀ b o, hp.get? b = some o → G'.get? b = some o := fun b o q => (gk b (Nat.ne_of_lt (Nat.lt_of_lt_of_le (Heap.lt_size q) M.new))).trans (M.keep b o q)
    have ob : ObjOk X.prog X.w (upd H1 d (.xd [(f, v)])) G' d (.xd [(f, v)]) :=
      ⟨_, hns.at (fun o q => (gk d M.dne).trans q), fun y => relO_err rv y⟩
    have J : Inv X pins σ (upd H1 d (.xd [(f, v)])) ⟨G', g, dr, tk', os⟩ := I1.laid (t' := tk') old M.dbig ob
    refine ⟨e, oe, fv, ⟨G', g, dr, tk', os⟩, _, .ref C, some d, rfl, J, fun b o q => ?_, ge, hoe, ⟨hc, hd⟩, hdat, h1, ?_, rfl, I1.bare, raises_own T.exC T.tyC, q1 d (I1.hok.fresh M.dbig)⟩
    · by_cases hb : b = e
      · have q' : G'.get? b = some o := q
        rw [hb, ge] at q'; cases q'
      · exact (gk b hb).symm.trans q
    · rw [upd_ne (Ne.symm M.dne)]
      exact I1.hok.fresh M.new
end
end L2

/-! PL: errors: defs that raise, calls of them, try .. except X as e. -/
namespace PL
open PySem PySem.Spec L2
open PyProof.Rows (envOfC)
/-- an error in the air -/
def XRep (c : Cfg) (F : Hp) (k : Nat) (d : D) (cls : Value) (ad : Option Addr) : Prop := ∃ (C da : Addr) (v : V), cls = .ref C ∧ clsX c.K k = some C ∧ ad = some da ∧ F da = some (.xd [((ERN k).2, v)]) ∧ Rep c F v d
theorem XRep.mono {c : Cfg} {F F' : Hp} {k : Nat} {d : D} {cls : Value} {ad : Option Addr} (s : Same F F') (h : XRep c F k d cls ad) : XRep c F' k d cls ad := by
  obtain ⟨C, da, v, h1, h2, h3, h4, h5⟩ := h
  exact ⟨C, da, v, h1, h2, h3, s _ _ h4, h5.mono s⟩
/-- what is wanted of an error: its number, what it bears, at the slots -/
abbrev EW := Nat → D → PEnv → Nat → Prop
def LX (g : G) (ew : EW) : WX := fun cls ad σ H => ∃ n F ρ k d, Ok g n F H σ ρ ∧ XRep g.c F k d cls ad ∧ ew k d ρ n
/-- a promise of a def that may raise -/
abbrev SpecX := List D → Nat → (D → Nat → Prop) → (Nat → D → Nat → Prop) → Prop
def spX (K : PySem.W.Frag) (S : SpecX) : Sp := fun vs H Q E => ∃ (c : Cfg) (n : Nat) (F : Hp) (ds : List D) (R : D → Nat → Prop) (RE : Nat → D → Nat → Prop), c.K = K ∧ Same F H ∧ (∀ b, c.fp b → F b = none) ∧ DeckAt c n H ∧ Reps c F vs ds ∧ S ds n R RE ∧
  (∀ n' F' H' v d, Same F F' → (∀ b x, H b = some x → ¬ c.fp b → H' b = some x) → Same F' H' → (∀ b, c.fp b → F' b = none) → (∀ b, H b ≠ none → F b = none → F' b = none) → DeckAt c n' H' → Rep c F' v d → R d n' → Q v H') ∧
  (∀ n' F' H' k d cls ad, Same F F' → (∀ b x, H b = some x → ¬ c.fp b → H' b = some x) → Same F' H' → (∀ b, c.fp b → F' b = none) → (∀ b, H b ≠ none → F b = none → F' b = none) → DeckAt c n' H' → XRep c F' k d cls ad → RE k d n' → E cls ad H')
/-- the def at f keeps its promise wherever no repr is under way; it may raise -/
structure FnY (P : Program) (w : World) (K : PySem.W.Frag) (mg : Str → Option Value) (base : Heap) (k : Nat) (f : Addr) (fd : FuncData) (ps : List Str) (sp : Sp) : Prop where
  len : ∀ vs H Q E, sp vs H Q E → vs.length = ps.length
  run : ∀ (A : Around) (outer : List Env) (s : Shared) (H : Hp) (args : Args) (us : List Value) (vs : List V) (Q : VK) (E : XK), A.guards = some [] → Room k A →
    Env0 P w K mg base A outer s H → BindsTo s fd args (ps.zip us) → Vals vs us → sp vs H Q E → codeAny (model P w) A (.call (.ref f) args) (CR (L2.CX P w) outer P w H s Q E) s
theorem FnY.mono {P : Program} {w : World} {K : PySem.W.Frag} {mg : Str → Option Value} {base : Heap} {j k : Nat} {f : Addr} {fd : FuncData} {ps : List Str} {sp : Sp} (F : FnY P w K mg base j f fd ps sp) (h : j ≤ k) : FnY P w K mg base k f fd ps sp :=
  ⟨F.len, fun A outer s H args us vs Q E hg hr => F.run A outer s H args us vs Q E hg (hr.mono h)⟩
section
variable {X : Cx} {k : Nat} {f : Addr} {fd : FuncData} {ps : List Str} {sp : Sp} {W : WX}
theorem run_y {pins : List (Addr × Obj)} {σ : L2.St} {H : Hp} {s : Shared} {Q : VK} {us zs : List Value} {vs : List V} {kw : List (Str × Value)} (F : FnY X.prog X.w X.K X.mg X.base k f fd ps sp) (hg : X.A.guards = some []) (hr : Room k X.A) (tk : Takes X W)
    (I : Inv X pins σ H s) (hb : BindsTo s fd ⟨us, kw⟩ (ps.zip zs)) (r : Vals vs zs) (h : sp vs H Q (fun cls ad H' => W cls ad σ H')) : wpAny (model X.prog X.w) X.A (call (.ref f) us kw) (EP X pins σ Q) X.xe s := by
  refine wpAny_call (codeAny_mono (F.run X.A X.stack s H ⟨us, kw⟩ zs vs Q _ hg hr I.env0 hb r h) ?_)
  intro r s' hq
  match r, hq with
  | .ok (.ret u), h => exact I.after h
  | .ok .next, h => exact False.elim h
  | .ok .brk, h => exact False.elim h
  | .ok .cont, h => exact False.elim h
  | .error e, h => exact tk e s' (XE.of_call I (fun cls d H' q => q) h)
theorem pe_callY {x : Str} {pf pos : Pos} {e : Expr} {es : List Expr} {t : TA} (F : FnY X.prog X.w X.K X.mg X.base k f fd ps sp) (hgd : X.A.guards = some []) (hr : Room k X.A) (tk : Takes X W) (hg : Gl X x) (hm : X.mg x = some (.ref f)) (hk : PySem.W.keepIn X.K (.ref f) = true)
    (hb : Binds X.K fd ps []) (ha : PA X (e :: es) t) (hdb : (x == ("__debug__" : Str)) = false := by decide) (he : starEach (e :: es) X.env = (false, eval e X.env) :: starEach es X.env := by rfl) (hpl : (backTo pos (starEach es X.env)).any (·.1) = false := by rfl) :
    PE X (.Call (.Name x pf) (e :: es) [] pos) (fun σ H Q => t σ H fun vs H1 => sp vs H1 Q (fun cls ad H' => W cls ad σ H')) := by
  constructor
  intro pins s σ H Q I h
  refine wpAny_Call_Name_kw (ld_glob I hg hm ?_ hdb)
  refine PySem.W.callWith_K (h₀ := X.base) I.ok.mod.kin hk (thn (ha.run pos pins s σ H _ I h) ?_) he hpl
  rintro us s1 ⟨vs, H1, I1, r, q⟩
  have hl : (us ++ []).length = ps.length := by rw [List.append_nil, ← r.length]; exact F.len _ _ _ _ q
  have b := hb s1 us I1.kIn hl
  rw [List.append_nil] at b
  exact ⟨I1.kIn, run_y F hgd hr tk I1 b r q⟩
theorem pe_callYK0 {x : Str} {pf pos : Pos} {kws : List Keyword} {ks : List Str} {ix : List Nat} {t : TA} (F : FnY X.prog X.w X.K X.mg X.base k f fd ps sp) (hgd : X.A.guards = some []) (hr : Room k X.A) (tk : Takes X W) (hg : Gl X x) (hm : X.mg x = some (.ref f)) (hk : PySem.W.keepIn X.K (.ref f) = true)
    (hb : NBinds X.K fd ps ks ix) (hkw : PK X kws t) (hall : (backToKw pos (keywordEach kws X.env)).all (·.1.isSome) = true := by rfl) (hks : (backToKw pos (keywordEach kws X.env)).filterMap (·.1) = ks := by rfl)
    (hdb : (x == ("__debug__" : Str)) = false := by decide)
    (hpl : ((backTo pos (starEach [] X.env)).any (·.1) || (backToKw pos (keywordEach kws X.env)).any (·.1.isNone)) = false := by rfl) :
    PE X (.Call (.Name x pf) [] kws pos) (fun σ H Q => t σ H fun zs H2 => zs.length = ks.length ∧ sp (picks ix zs) H2 Q (fun cls ad H' => W cls ad σ H')) := by
  constructor
  intro pins s σ H Q I h
  refine wpAny_Call_Name_kw (ld_glob I hg hm ?_ hdb)
  refine PySem.W.callWith_KW0 (h₀ := X.base) I.ok.mod.kin hk hall (thn (hkw.run pos pins s σ H _ I h) ?_) hpl
  rintro ws s2 ⟨zs, H2, I2, rz, hl, q2⟩
  rw [hks]
  exact ⟨I2.kIn, run_y F hgd hr tk I2 (hb s2 ws I2.kIn (by rw [← rz.length]; exact hl)) (vals_picks rz ix) q2⟩
end
/-! ### the rule for a def that may raise -/
section
variable {P : Program} {w : World} {K : PySem.W.Frag} {mg : Str → Option Value} {base : Heap}
theorem _root_.L2.Fun.okY {x qual : Str} {st : Stmt} {f : Addr} {fd : FuncData} {N ps : List Str} {k : Nat} {sp : Sp} (Fu : Fun K x qual st f fd) (S : FnScope N ps (defScope st)) (len : ∀ vs H Q E, sp vs H Q E → vs.length = ps.length)
    (hbody : ∀ (cdv : Value) (A : Around) (outer : List Env) (s : Shared) (H : Hp) (vs : List V) (Q : VK) (E : XK), A.guards = some [] → Room k (A.deeper (envOfC qual (defScope st) s.heap.objs.size f cdv)) → sp vs H Q E →
      ∃ t, PSs (cxOf (L2.CX P w) P w K mg base N qual (defScope st) f cdv A outer s H E) (defBody st) t ∧ t { nx := fun _ H' => Q .non H', rt := Q } (L2.start N vs) H) : FnY P w K mg base (k + 1) f fd ps sp := by
  obtain ⟨oc, od, kV, doc, pm, an, cdv, ct, osl, rfl, lk, hcd⟩ := Fu.ex
  refine ⟨len, ?_⟩
  intro A outer s H args us vs Q E hgd hr e0 hb r hsp
  have KX : K.In s.heap := e0.mod.kin.keeps fun b o e => (e0.bs b o e).1
  have lim : s.heap.NoLimit := e0.mod.nolimit.keeps fun b o e => (e0.bs b o e).1
  have hkind : ∀ y ∈ ps.zip us, (defScope st).names.lookup y.1 = some .local ∨ ((defScope st).names.lookup y.1 = some .cell ∧ ((cellsFrom (s.heap.objs.size + 1) (defScope st).names []).lookup y.1).isSome = true) := by
    rintro ⟨m, v⟩ hy
    exact (S.par m (List.of_mem_zip hy).1).elim .inl fun q => .inr ⟨q, PySem.W.cellsFrom_some _ _ _ (.inl q)⟩
  refine codeAny_call_function hr.depth (KX _ _ lk) rfl S.co S.gen rfl (PySem.W.codeRec_of KX hcd) (hb _ _ _ _ ?_)
  refine wpAny_newFunctionEnv_cells S.kind hkind ?_
  rintro env rfl s1 x
  refine ⟨lim.keeps x.toInCall.keep, codeAny_func ?_⟩
  obtain ⟨t, ht, hq⟩ := hbody cdv A outer s H vs Q E hgd (hr.deeper _) hsp
  have I : Inv (cxOf (L2.CX P w) P w K mg base N qual (defScope st) f cdv A outer s H E) [] (L2.start N vs) H s1 := inv_start S hr.hd e0 (len _ _ _ _ hsp) r x
  refine wpAny_mono (ht.run [] s1 (L2.start N vs) H _ I hq) ?_ fun e s' hs => hs
  intro fl s' hs
  match fl, hs with
  | .ret u, ⟨v, σ', H', J, rv, q⟩ => exact ⟨v, H', J.os, J.bare, J.base, J.hok, rv, q⟩
  | .next, ⟨σ', H', J, q⟩ => exact ⟨V.non, H', J.os, J.bare, J.base, J.hok, rfl, q⟩
  | .brk, ⟨_, _, _, q⟩ => exact q.elim
  | .cont, ⟨_, _, _, q⟩ => exact q.elim
theorem _root_.L2.Fun.okPY {x qual : Str} {st : Stmt} {f : Addr} {fd : FuncData} {N ps : List Str} {k : Nat} {S : SpecX} (Fu : Fun K x qual st f fd) (sc : FnScope N ps (defScope st)) (len : ∀ ds n R RE, S ds n R RE → ds.length = ps.length)
    (hbody : ∀ (cdv : Value) (A : Around) (outer : List Env) (s : Shared) (H : Hp) (E : XK) (g : G) (RE : Nat → D → Nat → Prop), A.guards = some [] → Room k (A.deeper (envOfC qual (defScope st) s.heap.objs.size f cdv)) →
      g.c.K = K → Takes (cxOf (L2.CX P w) P w K mg base N qual (defScope st) f cdv A outer s H E) (LX g fun k d _ n => RE k d n) →
      ∃ q, PSs (cxOf (L2.CX P w) P w K mg base N qual (defScope st) f cdv A outer s H E) (defBody st) (LS g q) ∧ ∀ ds n R, S ds n R RE → q { nx := fun _ m => R .non m, rt := R } (env0 N.length ds) n) : FnY P w K mg base (k + 1) f fd ps (spX K S) := by
  have hpl : ps.length ≤ N.length := by have := congrArg List.length sc.pre; rw [List.length_take] at this; omega
  refine Fu.okY sc (fun vs H Q E h => ?_) (fun cdv A outer s H vs Q E hgd hr h => ?_)
  · obtain ⟨c, n, F, ds, R, RE, hK, h1, h2, h3, r, hS, _⟩ := h
    rw [r.length]
    exact len ds n R RE hS
  · obtain ⟨c, n, F, ds, R, RE, hK, h1, h2, h3, r, hS, hq, hE⟩ := h
    have tk : Takes (cxOf (L2.CX P w) P w K mg base N qual (defScope st) f cdv A outer s H E) (LX ⟨c, H, F, fun _ => none⟩ fun k d _ n => RE k d n) :=
      (takes_of rfl rfl rfl rfl).imp fun cls ad σ' H' ⟨n', F', ρ', k, d, ok, xr, hR⟩ => hE n' F' H' k d cls ad ok.mon ok.keep ok.sub ok.ffp ok.new ok.dk xr hR
    obtain ⟨q, hd, hb⟩ := hbody cdv A outer s H E ⟨c, H, F, fun _ => none⟩ RE hgd hr hK tk
    refine ⟨LS ⟨c, H, F, fun _ => none⟩ q, hd, n, F, env0 N.length ds, _, Ok.start h1 h2 h3 r ?_, hb ds n R hS, ?_⟩
    · rw [r.length, len ds n R RE hS]; exact hpl
    · have fin : ∀ n' F' H' σ' ρ' v d, Same F F' → Ok ⟨c, H, F, fun _ => none⟩ n' F' H' σ' ρ' → Rep c F' v d → R d n' → Q v H' := fun n' F' H' σ' ρ' v d s ok r hR => hq n' F' H' v d s ok.keep ok.sub ok.ffp ok.new ok.dk r hR
      exact ⟨fun n' F' H' σ' ρ' s ok h => fin n' F' H' σ' ρ' _ _ s ok .non h, fun n' F' H' σ' ρ' v d s ok r h => fin n' F' H' σ' ρ' v d s ok r h, fun _ _ _ _ _ _ _ h => h.elim, fun _ _ _ _ _ _ _ h => h.elim⟩
/-- a def that may raise, known by name -/
def FnCX (P : Program) (w : World) (K : PySem.W.Frag) (mg : Str → Option Value) (base : Heap) (k : Nat) (x : Str) (ps : List Str) (nbs : List (List Str × List Nat)) (S : SpecX) : Prop :=
  ∃ (f : Addr) (fd : FuncData), FnY P w K mg base k f fd ps (spX K S) ∧ mg x = some (.ref f) ∧ PySem.W.keepIn K (.ref f) = true ∧ Binds K fd ps [] ∧ ∀ q ∈ nbs, NBinds K fd ps q.1 q.2
theorem fncX {x : Str} {st : Stmt} {f : Addr} {fd : FuncData} {N ps : List Str} {k : Nat} {nbs : List (List Str × List Nat)} {S : SpecX} (Fu : Fun K x x st f fd) (hm : mg x = some (.ref f)) (sc : FnScope N ps (defScope st)) (hb : Binds K fd ps []) (hnb : ∀ q ∈ nbs, NBinds K fd ps q.1 q.2) (len : ∀ ds n R RE, S ds n R RE → ds.length = ps.length)
    (hbody : ∀ (cdv : Value) (A : Around) (outer : List Env) (s : Shared) (H : Hp) (E : XK) (g : G) (RE : Nat → D → Nat → Prop), A.guards = some [] → Room k (A.deeper (envOfC x (defScope st) s.heap.objs.size f cdv)) →
      g.c.K = K → Takes (cxOf (L2.CX P w) P w K mg base N x (defScope st) f cdv A outer s H E) (LX g fun k d _ n => RE k d n) →
      ∃ q, PSs (cxOf (L2.CX P w) P w K mg base N x (defScope st) f cdv A outer s H E) (defBody st) (LS g q) ∧ ∀ ds n R, S ds n R RE → q { nx := fun _ m => R .non m, rt := R } (env0 N.length ds) n) : FnCX P w K mg base (k + 1) x ps nbs S :=
  ⟨f, fd, Fu.okPY sc len hbody, hm, Fu.kp, hb, hnb⟩
end
end PL

/-! PL: errors: rules at one g (where something may be raised), raise, calls. -/
namespace PL
open PySem PySem.Spec L2
/-- an error class of the program is as the text says -/
structure ErrC (P : Program) (K : PySem.W.Frag) (mg : Str → Option Value) (k : Nat) : Prop where
  ex : ∃ C S : Addr, PySem.SerX.ErrT K mg P.main.file (ERN k).1 (ERN k).2 C S ∧ clsX K k = some C
  nm : PySem.SerX.NameOk (ERN k).2
  bd : PySem.SerX.BindOk (ERN k).2
  top : (P.main.scope.names.lookup ("super" : Str)).isSome = false
section
variable {X : Cx} {g : G} {ew : EW} {e a b c : Expr} {es : List Expr} {p pa pb : TPE} {ta : TPA} {pos pf p2 : Pos} {q q2 : TPS} {st : Stmt} {rest : List Stmt} {qa : TPT}
/-! ### at one g -/
theorem lq_of (h : PE X e (LE g p)) : PE X e (LQ g p) := h.imp fun σ H Q ⟨n, F, ρ, R, ok, hp, k⟩ => ⟨n, F, ρ, R, ok, hp, fun n' F' H' v d s ok' r => k n' F' H' v d s ok' (.inl r)⟩
theorem la_nil : PA X [] (LA g pNil) := pa_nil.imp fun σ H Q ⟨n, F, ρ, R, ok, hq, k⟩ => k n F H _ _ (Same.refl F) ok .nil hq
theorem la_cons (h : PE X e (LE g p)) (hr : PA X es (LA g ta)) (hs : starEach (e :: es) X.env = (false, eval e X.env) :: starEach es X.env := by rfl) : PA X (e :: es) (LA g (pCons p ta)) := (pa_cons h hr hs).imp fun σ H Q ⟨n, F, ρ, R, ok, hq, k⟩ =>
  ⟨n, F, ρ, _, ok, hq, fun n1 F1 H1 x d s1 ok1 r1 h1 => ⟨n1, F1, ρ, _, ok1, h1, fun n2 F2 H2 vs ds s2 ok2 r2 h2 => k n2 F2 H2 _ _ (s1.trans s2) ok2 (.cons (r1.mono s2) r2) h2⟩⟩
theorem le_ife (hc : DT X c qa) (hK : g.c.K = X.K) (ha : PE X a (LE g pa)) (hb : PE X b (LE g pb)) : PE X (.IfExp c a b pos) (LE g (pIf qa pa pb)) := (pe_ifExp (hc g hK) ha hb).imp fun σ H Q ⟨n, F, ρ, R, ok, hq, k⟩ => by
  refine ⟨n, F, ρ, _, ok, hq, fun n1 F1 H1 c s1 ok1 h1 => ?_⟩
  cases c with
  | true => exact ⟨n1, F1, ρ, R, ok1, h1, fun n2 F2 H2 v d s2 ok2 r2 h2 => k n2 F2 H2 v d (s1.trans s2) ok2 r2 h2⟩
  | false => exact ⟨n1, F1, ρ, R, ok1, h1, fun n2 F2 H2 v d s2 ok2 r2 h2 => k n2 F2 H2 v d (s1.trans s2) ok2 r2 h2⟩
theorem lss_nil : PSs X [] (LS g pNext) := pss_nil.imp fun D σ H ⟨n, F, ρ, P, ok, h, k⟩ => k.nx n F H σ ρ (Same.refl F) ok h
theorem lss_cons (h1 : PS X st (LS g q)) (h2 : PSs X rest (LS g q2)) : PSs X (st :: rest) (LS g (pSeq q q2)) := (pss_cons h1 h2).imp fun D σ H ⟨n, F, ρ, P, ok, h, k⟩ =>
  ⟨n, F, ρ, _, ok, h, ⟨fun n1 F1 H1 σ1 ρ1 s1 ok1 h1 => ⟨n1, F1, ρ1, P, ok1, h1, k.mono s1⟩, k.rt, k.bk, k.ct⟩⟩
theorem lss_one (h1 : PS X st (LS g q)) : PSs X [st] (LS g q) := pss_one h1
theorem ls_ret (h : PE X e (LE g p)) : PS X (.Return (some e) pos) (LS g (pRet p)) := (ps_ret h).imp fun D σ H ⟨n, F, ρ, P, ok, h, k⟩ =>
  ⟨n, F, ρ, _, ok, h, fun n1 F1 H1 v d s1 ok1 r1 h1 => k.rt n1 F1 H1 σ ρ v d s1 ok1 r1 h1⟩
theorem ls_if {as bs : List Stmt} {qc : TPT} (hc : DT X c qc) (hK : g.c.K = X.K) (ha : PSs X as (LS g q)) (hb : PSs X bs (LS g q2)) : PS X (.If c as bs pos) (LS g (pIfS qc q q2)) := (ps_if (hc g hK) ha hb).imp fun D σ H ⟨n, F, ρ, P, ok, h, k⟩ =>
  ⟨n, F, ρ, _, ok, h, fun n1 F1 H1 b s1 ok1 h1 => by
    cases b with
    | true => exact ⟨n1, F1, ρ, P, ok1, h1, k.mono s1⟩
    | false => exact ⟨n1, F1, ρ, P, ok1, h1, k.mono s1⟩⟩
theorem ls_expr (h : PE X e (LE g p)) (hs : swapsWith e none pos.line X.env = pure false := by rfl) : PS X (.Expr e pos) (LS g (pDrop p)) := (ps_expr h hs).imp fun D σ H ⟨n, F, ρ, P, ok, h, k⟩ =>
  ⟨n, F, ρ, _, ok, h, fun n1 F1 H1 v d s1 ok1 r1 h1 => k.nx n1 F1 H1 σ ρ s1 ok1 h1⟩
theorem ls_asg {tg : Expr} {t : TPG} {is : List Nat} (hK : g.c.K = X.K) (h : PE X e (LE g p)) (hg : DG X tg t is) (hs : swapsWithSole [tg] e pos.line X.env = pure false := by rfl) (hw : swappedStores [tg] e X.env = pure none := by rfl) (h1 : (assignEach [tg] X.env).map (·.2) = [assign tg X.env] := by rfl) : PS X (.Assign [tg] e pos) (LS g (pAsg p t)) := (ps_asg h (hg g hK) hs hw h1).imp fun D σ H ⟨n, F, ρ, P, ok, h, k⟩ =>
  ⟨n, F, ρ, _, ok, h, fun n1 F1 H1 v d s1 ok1 r1 h1 => ⟨n1, F1, ρ, d, _, ok1, r1, h1, fun n2 F2 H2 σ2 ρ2 s2 ok2 _ h2 => k.nx n2 F2 H2 σ2 ρ2 (s1.trans s2) ok2 h2⟩⟩
/-! ### operators with an operand that may raise -/
theorem op_ixP {K : PySem.W.Frag} : OpP K (rIx K) oIx := fun g n F H σ ρ x y d e R Q hK ok r1 r2 q k => by
  have q : oIx d e R := q
  unfold oIx at q
  split at q
  · obtain ⟨a, xs, rfl, h1, s1⟩ := r1.lst ok
    split at q
    · rename_i z hz
      obtain ⟨v, hv, r⟩ := s1.atI hz
      exact .inl ⟨a, xs, _, v, rfl, r2.int ok, SqL.of h1, hv, k F H v z (Same.refl F) ok r q⟩
    · exact q.elim
  · obtain ⟨a, xs, rfl, h1, s1, _⟩ := r1.tup ok
    rw [hK] at h1
    split at q
    · rename_i z hz
      obtain ⟨v, hv, r⟩ := s1.atI hz
      exact .inr (.inl ⟨a, xs, _, v, rfl, r2.int ok, h1, hv, k F H v z (Same.refl F) ok r q⟩)
    · exact q.elim
  · obtain ⟨hz, q⟩ := q
    split at q
    · rename_i c hc
      exact .inr (.inr ⟨_, _, c, r1.str ok, r2.int ok, hz, hc, k F H _ _ (Same.refl F) ok (.str _) q⟩)
    · exact q.elim
  · exact q.elim
theorem le_ix (hK : g.c.K = X.K) (ha : PE X a (LQ g pa)) (hb : PE X b (LQ g pb)) (hs : PlainIx b := by intro _ _; rfl) : PE X (.Subscript a b pos) (LE g (pBin oIx pa pb)) :=
  (pe_ix ix_seq ha hb hs).imp fun σ H Q h => LQ.two (by rw [hK]; exact op_ixP) h
/-! ### calls -/
variable {k : Nat} {x : Str} {ps : List Str} {nbs : List (List Str × List Nat)} {kws : List Keyword}
theorem le_fnC {S : Spec} (Fn : FnC X.prog X.w X.K X.mg X.base k x ps nbs S) (hK : g.c.K = X.K) (hgd : X.A.guards = some []) (hr : Room k X.A) (ha : PA X (e :: es) (LA g ta)) (hg : Gl X x := by rfl) (hdb : (x == ("__debug__" : Str)) = false := by decide)
    (he : starEach (e :: es) X.env = (false, eval e X.env) :: starEach es X.env := by rfl) (hpl : (backTo pos (starEach es X.env)).any (·.1) = false := by rfl) : PE X (.Call (.Name x pf) (e :: es) [] pos) (LE g (pFn S ta)) := by
  obtain ⟨f, fd, h1, h2, h3, h4, h5⟩ := Fn
  exact (pe_callG (E := fun _ _ _ => False) h1 hgd hr hg h2 h3 h4 ha hdb he hpl).imp fun σ H Q ⟨n, F, ρ, R, ok, hq, k⟩ =>
    ⟨n, F, ρ, _, ok, hq, fun n1 F1 H1 vs ds s1 ok1 r1 h1 => by
      rw [← hK]
      exact LA.fn (t := ta) ok1 r1 h1 fun n' F' H' v d s2 ok2 r2 h2 => k n' F' H' v d (s1.trans s2) ok2 r2 h2⟩
/-- a call's wish, sealed -/
def callY (S : SpecX) (ds : List D) (n : Nat) (R : D → Nat → Prop) (RE : Nat → D → Nat → Prop) (_ : Shut R) : Prop := S ds n R RE
def pFnX (S : SpecX) (ew : EW) (t : TPA) : TPE := fun ρ n R => t ρ n fun ds m => callY S ds m R (fun k d n' => ew k d ρ n') (shut R)
def pFnXK (S : SpecX) (ew : EW) (m : Nat) (ix : List Nat) (t : TPA) : TPE := fun ρ n R => t ρ n fun ds n1 => ds.length = m ∧ callY S (PL.picks ix ds) n1 R (fun k d n' => ew k d ρ n') (shut R)
theorem LA.fnX {S : SpecX} {σ : L2.St} {H : Hp} {Q : VK} {vs : List V} {ds : List D} {n : Nat} {F : Hp} {ρ : PEnv} {R : D → Nat → Prop} (ok : Ok g n F H σ ρ) (r : Reps g.c F vs ds) (h : S ds n R (fun k d n' => ew k d ρ n'))
    (k : ∀ n' F' H' v d, Same F F' → Ok g n' F' H' σ ρ → Rep g.c F' v d → R d n' → Q v H') : spX g.c.K S vs H Q (fun cls ad H' => LX g ew cls ad σ H') :=
  ⟨g.c, n, F, ds, R, _, rfl, ok.sub, ok.ffp, ok.dk, r, h, fun n' F' H' v d h1 h2 h3 h4 h5 h6 r' hR => k n' F' H' v d h1 (ok.after h1 h2 h3 h4 h5 h6) r' hR,
    fun n' F' H' k' d cls ad h1 h2 h3 h4 h5 h6 xr hR => ⟨n', F', ρ, k', d, ok.after h1 h2 h3 h4 h5 h6, xr, hR⟩⟩
theorem le_fnX {S : SpecX} (Fn : FnCX X.prog X.w X.K X.mg X.base k x ps nbs S) (hK : g.c.K = X.K) (tk : Takes X (LX g ew)) (hgd : X.A.guards = some []) (hr : Room k X.A) (ha : PA X (e :: es) (LA g ta)) (hg : Gl X x := by rfl) (hdb : (x == ("__debug__" : Str)) = false := by decide)
    (he : starEach (e :: es) X.env = (false, eval e X.env) :: starEach es X.env := by rfl) (hpl : (backTo pos (starEach es X.env)).any (·.1) = false := by rfl) : PE X (.Call (.Name x pf) (e :: es) [] pos) (LE g (pFnX S ew ta)) := by
  obtain ⟨f, fd, h1, h2, h3, h4, h5⟩ := Fn
  exact (pe_callY h1 hgd hr tk hg h2 h3 h4 ha hdb he hpl).imp fun σ H Q ⟨n, F, ρ, R, ok, hq, k⟩ =>
    ⟨n, F, ρ, _, ok, hq, fun n1 F1 H1 vs ds s1 ok1 r1 h1 => by
      rw [← hK]
      exact LA.fnX ok1 r1 h1 fun n' F' H' v d s2 ok2 r2 h2 => k n' F' H' v d (s1.trans s2) ok2 r2 h2⟩
theorem le_fnXK {S : SpecX} {ks : List Str} {ix : List Nat} (Fn : FnCX X.prog X.w X.K X.mg X.base k x ps nbs S) (hq : (ks, ix) ∈ nbs) (hK : g.c.K = X.K) (tk : Takes X (LX g ew)) (hgd : X.A.guards = some []) (hr : Room k X.A) (ha : PK X kws (LA g ta)) (hg : Gl X x := by rfl)
    (hall : (backToKw pos (keywordEach kws X.env)).all (·.1.isSome) = true := by rfl) (hks : (backToKw pos (keywordEach kws X.env)).filterMap (·.1) = ks := by rfl)
    (hdb : (x == ("__debug__" : Str)) = false := by decide) (hpl : ((backTo pos (starEach [] X.env)).any (·.1) || (backToKw pos (keywordEach kws X.env)).any (·.1.isNone)) = false := by rfl) : PE X (.Call (.Name x pf) [] kws pos) (LE g (pFnXK S ew ks.length ix ta)) := by
  obtain ⟨f, fd, h1, h2, h3, h4, h5⟩ := Fn
  exact (pe_callYK0 h1 hgd hr tk hg h2 h3 (h5 _ hq) ha hall hks hdb hpl).imp fun σ H Q ⟨n, F, ρ, R, ok, hq, k⟩ =>
    ⟨n, F, ρ, _, ok, hq, fun n1 F1 H1 vs ds s1 ok1 r1 h1 => by
      refine ⟨by rw [r1.length]; exact h1.1, ?_⟩
      rw [← hK]
      exact LA.fnX ok1 (r1.picks ix) h1.2 fun n' F' H' v d s2 ok2 r2 h2 => k n' F' H' v d (s1.trans s2) ok2 r2 h2⟩
/-- where nothing is raised -/
def quiet (S : SpecX) : Spec := fun ds n R => S ds n R (fun _ _ _ => False)
/-! ### raise C(e) -/
def pRaise (ew : EW) (k : Nat) (p : TPE) : TPS := fun _ ρ n => p ρ n fun d m => ew k d ρ m
theorem ls_raise {j : Nat} (T : ErrC X.prog X.K X.mg k) (hK : g.c.K = X.K) (hc : X.calm = true) (tk : Takes X (LX g ew)) (hr : Room j X.A) (h : PE X a (LE g p)) (hx : (ERN k).1 = x := by rfl) (hg : Gl X x := by rfl) (hdb : (x == ("__debug__" : Str)) = false := by decide)
    (he : starEach (a :: []) X.env = (false, eval a X.env) :: starEach [] X.env := by rfl) (hpl : (backTo pos (starEach [] X.env)).any (·.1) = false := by rfl) : PS X (.Raise (some (.Call (.Name x pf) [a] [] pos)) none p2) (LS g (pRaise ew k p)) := by
  obtain ⟨C, S, E, hC⟩ := T.ex
  subst hx
  refine (ps_raise hc tk (pmk_err E T.nm T.bd T.top hr (la_cons (ta := pNil) h la_nil he) hg hdb he hpl)).imp fun DD σ H ⟨n, F, ρ, P, ok, hq, kk⟩ => ?_
  refine ⟨n, F, ρ, fun ds m => ∃ d, ds = [d] ∧ ew k d ρ m, ok, ?_, fun n1 F1 H1 vs ds s1 ok1 r1 h1 => ?_⟩
  · have hq : p ρ n fun d m => ew k d ρ m := hq
    show p ρ n fun d m => ∃ d', [d] = [d'] ∧ ew k d' ρ m
    have : (fun (d : D) (m : Nat) => ∃ d', [d] = [d'] ∧ ew k d' ρ m) = fun d m => ew k d ρ m := by
      funext d m
      refine propext ⟨fun ⟨d', e, h⟩ => by cases e; exact h, fun h => ⟨d, rfl, h⟩⟩
    rw [this]
    exact hq
  · obtain ⟨d, rfl, hd⟩ := h1
    cases r1 with
    | cons rv rn =>
      cases rn
      refine ⟨_, rfl, fun da hn => ⟨n1, upd F1 da _, ρ, k, d, ok1.alloc _ hn, ⟨C, da, _, rfl, ?_, rfl, upd_same, rv.mono (ok1.sameF _ hn)⟩, hd⟩⟩
      rw [hK]; exact hC
end
theorem FnCX.quiet {P : Program} {w : World} {K : PySem.W.Frag} {mg : Str → Option Value} {base : Heap} {k : Nat} {x : Str} {ps : List Str} {nbs : List (List Str × List Nat)} {S : SpecX} (h : FnCX P w K mg base k x ps nbs S) : FnC P w K mg base k x ps nbs (PL.quiet S) := by
  obtain ⟨f, fd, h1, h2, h3, h4, h5⟩ := h
  refine ⟨f, fd, ⟨fun vs H Q E q => ?_, fun A outer s H args us vs Q E hg hr e0 hb r q => ?_⟩, h2, h3, h4, h5⟩
  · obtain ⟨c, n, F, ds, R, hK, q1, q2, q3, q4, q5, q6⟩ := q
    exact h1.len vs H Q (fun _ _ _ => True) ⟨c, n, F, ds, R, _, hK, q1, q2, q3, q4, q5, q6, fun _ _ _ _ _ _ _ _ _ _ _ _ _ _ h => h.elim⟩
  · obtain ⟨c, n, F, ds, R, hK, q1, q2, q3, q4, q5, q6⟩ := q
    refine codeAny_mono (h1.run A outer s H args us vs Q (fun _ _ _ => False) hg hr e0 hb r ⟨c, n, F, ds, R, _, hK, q1, q2, q3, q4, q5, q6, fun _ _ _ _ _ _ _ _ _ _ _ _ _ _ h => h.elim⟩) fun r s' hq => ?_
    match r, hq with
    | .ok (.ret u), h => exact h
    | .ok .next, h => exact False.elim h
    | .ok .brk, h => exact False.elim h
    | .ok .cont, h => exact False.elim h
    | .error e, ⟨_, _, _, _, _, _, _, _, _, _, _, _, z⟩ => exact z.elim
end PL

/-! PL: errors: try .. except X as e; e.f and isinstance(e, S) in the suite. -/
namespace PL
open PySem PySem.Spec L2
theorem Ok.reF {g : G} {n : Nat} {F H : Hp} {σ : L2.St} {ρ : PEnv} (ok : Ok g n F H σ ρ) : Ok { g with F0 := F } n F H σ ρ := { ok with
  new := fun b q h => h
  mon := Same.refl F
  cells := fun i c e => by
    have h := ok.cells i c e
    cases c <;> exact h }
theorem Ok.unF {g : G} {n n' : Nat} {F F' H H' : Hp} {σ σ' : L2.St} {ρ ρ' : PEnv} (ok : Ok g n F H σ ρ) (ok' : Ok { g with F0 := F } n' F' H' σ' ρ') : Ok g n' F' H' σ' ρ' := { ok' with
  new := fun b q h => ok'.new b q (ok.new b q h)
  mon := ok.mon.trans ok'.mon
  cells := fun i c e => by
    have h := ok'.cells i c e
    cases c <;> exact h }
theorem Conts.unF {g : G} {n : Nat} {F H : Hp} {σ : L2.St} {ρ : PEnv} {P : Post} {DD : Ends} (ok : Ok g n F H σ ρ) (k : Conts g F P DD) : Conts { g with F0 := F } F P DD :=
  ⟨fun n F' H σ ρ s ok' h => k.nx n F' H σ ρ s (ok.unF ok') h, fun n F' H σ ρ v d s ok' r h => k.rt n F' H σ ρ v d s (ok.unF ok') r h, fun n F' H σ ρ s ok' h => k.bk n F' H σ ρ s (ok.unF ok') h, fun n F' H σ ρ s ok' h => k.ct n F' H σ ρ s (ok.unF ok') h⟩
/-- what a caught error's class is -/
structure CatC (K : PySem.W.Frag) (mg : Str → Option Value) (k : Nat) (C : Addr) : Prop where
  gC : mg (ERN k).1 = some (.ref C)
  cC : clsX K k = some C
  te : PySem.W.exmOne K (.ref C) (.ref C) = some true
def pTry (k0 i : Nat) (pb : EW → TPS) (ps : Addr → Addr → TPS) : TPS := fun P ρ n =>
  pb (fun k d ρ' n' => k = k0 ∧ ∀ a da, ps a da { nx := fun ρ2 m => P.nx (ρ2.set i .any) m, rt := P.rt, bk := fun ρ2 m => P.bk (ρ2.set i .any) m, ct := fun ρ2 m => P.ct (ρ2.set i .any) m } (ρ'.set i (.sh (.exc k0 a da d))) n') P ρ n
theorem PSs.exs {X : Cx} {α : Type} {st : List Stmt} {t : α → TS} (h : ∀ x, PSs X st (t x)) : PSs X st (fun DD σ H => ∃ x, t x DD σ H) := ⟨fun pins s σ H DD I ⟨x, q⟩ => (h x).run pins s σ H DD I q⟩
section
variable {X : Cx} {x n : Str} {k0 i : Nat} {C : Addr} {body suite : List Stmt} {b₀ : Stmt} {np pos pos' : Pos} {pb : EW → TPS} {ps : Addr → Addr → TPS}
theorem ds_try (T : CatC X.K X.mg k0 C) (hs : X.stack = X.env :: X.outer) (hf : X.env.frame = some X.env.locals) (hN : X.N.Nodup) (hi : X.N[i]? = some n) (hln : X.env.kindOf n = some .local)
    (hb : ∀ (g : G) (ew : EW) (pn : List (Addr × Obj)) (xe : Value → Shared → Prop), g.c.K = X.K → Takes (X.tr pn xe) (LX g ew) → PassesOwn (model X.prog X.w) X.A X.env xe → PSs (X.tr pn xe) body (LS g (pb ew)))
    (hsu : ∀ (a da : Addr) (oe : Obj) (pn : List (Addr × Obj)), Zc (.ref C) (some da) oe → (∃ vs, oe.data = .fields vs) → DSs (X.suite a ((a, oe) :: pn)) (b₀ :: suite) (ps a da))
    (hx : (ERN k0).1 = x := by rfl) (hg : Gl X x := by rfl) (hdb : (x == ("__debug__" : Str)) = false := by decide) :
    DS X (.Try body [.ExceptHandler (some (.Name x np)) (some n) (b₀ :: suite) pos'] [] [] pos) (pTry k0 i pb ps) := fun g hK => by
  subst hx
  refine (ps_try_as (x := (ERN k0).1) (c := .ref C) (i := i) (Wout := fun _ _ _ _ => False)
    (tb := fun W DD σ H => ∃ (g' : G) (ew : EW), g'.c.K = X.K ∧ (∀ c d σ H, LX g' ew c d σ H → W c d σ H) ∧ LS g' (pb ew) DD σ H)
    (ts := fun a cls ad DD σ H => ∃ (g' : G) (da : Addr), g'.c.K = X.K ∧ cls = .ref C ∧ ad = some da ∧ LS g' (ps a da) DD σ H)
    hs hf hN hi hln ⟨hg, hdb, .inl T.gC⟩ takes0 (fun W pn xe tk hp => ?_) (fun a oe cls ad pn hz hfl => ?_)).imp fun DD σ H ⟨n, F, ρ, P, ok, hq, k⟩ => ?_
  · exact ⟨fun pins s σ H DD I ⟨g', ew, hK', hW, h⟩ => (hb g' ew pn xe hK' (tk.imp hW) hp).run pins s σ H DD I h⟩
  · refine ⟨fun pins s σ H DD I ⟨g', da, hK', e1, e2, h⟩ => ?_⟩
    subst e1; subst e2
    exact (hsu a da oe pn hz hfl g' hK').run pins s σ H DD I h
  · refine ⟨{ g with F0 := F }, _, hK, ?_, n, F, ρ, P, ok.reF, hq, k.unF ok⟩
    rintro cls ad σ' H' ⟨n', F', ρ', k', d', ok', ⟨C', da, v, rfl, hC', rfl, hda, rv⟩, rfl, hsuite⟩
    have hC' : clsX X.K k' = some C' := by rw [← hK]; exact hC'
    have : C' = C := by rw [T.cC] at hC'; cases hC'; rfl
    subst this
    refine ⟨true, T.te, fun _ a ha => ?_, fun z => nomatch z⟩
    refine ⟨{ g with F0 := F }, da, hK, rfl, rfl, n', F', _, _, ok'.set i (.exc hda rv), hsuite a da, ?_⟩
    have sF : Same F F' := ok'.mon
    refine ⟨fun n2 F2 H2 σ2 ρ2 s2 ok2 h2 => k.nx n2 F2 H2 _ _ (sF.trans s2) (ok.unF (ok2.forget i none)) h2, fun n2 F2 H2 σ2 ρ2 v d s2 ok2 r2 h2 => k.rt n2 F2 H2 σ2 ρ2 v d (sF.trans s2) (ok.unF ok2) r2 h2,
      fun n2 F2 H2 σ2 ρ2 s2 ok2 h2 => k.bk n2 F2 H2 _ _ (sF.trans s2) (ok.unF (ok2.forget i none)) h2, fun n2 F2 H2 σ2 ρ2 s2 ok2 h2 => k.ct n2 F2 H2 _ _ (sF.trans s2) (ok.unF (ok2.forget i none)) h2⟩
end
/-! ### in the suite -/
section
variable {X : Cx} {a da C : Addr} {oe : Obj} {pn : List (Addr × Obj)} {e : Expr} {p : TPE} {pos pf p1 p2 : Pos} {f : Str} {k i : Nat}
def pXf (k : Nat) (a da : Addr) (p : TPE) : TPE := fun ρ n R => p ρ n fun d m => match d with | .obj j [.int b, .int c, z] => j = k * 1000 + 999 ∧ b = (a : Nat) ∧ c = (da : Nat) ∧ R z m | _ => False
theorem Rep.excInv {c : Cfg} {F : Hp} {v : V} {k : Nat} {a da : Addr} {d : D} (r : Rep c F v (.exc k a da d)) : v = .ref a ∧ ∃ u, F da = some (.xd [((ERN k).2, u)]) ∧ Rep c F u d := by
  generalize hd : D.exc k a da d = z at r
  cases r with
  | exc h r =>
    rename_i a' da' k' u d'
    injection hd with h1 h2
    injection h2 with h3 h4
    injection h4 with h5 h6
    injection h6 with h7 _
    injection h3 with h3
    injection h5 with h5
    have e1 : k = k' := by omega
    have e2 : a = a' := by exact_mod_cast h3
    have e3 : da = da' := by exact_mod_cast h5
    subst e1; subst e2; subst e3; subst h7
    exact ⟨rfl, u, h, r⟩
  | obj h1 h2 h3 h4 =>
    injection hd with q1 q2
    subst q1; subst q2
    exfalso
    have : CN (k * 1000 + 999) = [] := by unfold CN; rw [show (k * 1000 + 999) % 1000 = 999 by omega]; rfl
    rw [this] at h3
    simp at h3
  | opq => injection hd with q1 q2; cases q2
  | _ => cases hd
theorem de_xf (T : XfC X.K C) (hno : PySem.W.findIn X.K (.ref C) (ERN k).2 = some none) (hz : Zc (.ref C) (some da) oe) (hf : ∃ vs, oe.data = .fields vs) (he : DE (X.suite a ((a, oe) :: pn)) e p) (hx : (ERN k).2 = f := by rfl) (hb : attributeBase e f X.env (eval e X.env) = eval e X.env := by rfl) :
    DE (X.suite a ((a, oe) :: pn)) (.Attribute e f pos) (pXf k a da p) := fun g hK => by
  subst hx
  refine (pe_xf T hno hz hf (he g hK) hb).imp fun σ H Q ⟨n, F, ρ, R, ok, hq, kk⟩ => ?_
  refine ⟨n, F, ρ, _, ok, hq, fun n1 F1 H1 v d s1 ok1 r1 h1 => ?_⟩
  match d, r1, h1 with
  | .obj j [.int b, .int c, z], r1, ⟨h1, h2, h3, h4⟩ =>
    subst h1; subst h2; subst h3
    obtain ⟨rfl, u, hu, ru⟩ := Rep.excInv r1
    exact ⟨rfl, rfl, da, _, u, rfl, ok1.sub _ _ hu, by simp [List.lookup], kk n1 F1 H1 u z s1 ok1 ru h4⟩
end
end PL

/-! PL: errors: isinstance(e, S) in the suite. -/
namespace PL
open PySem PySem.Spec L2
/-- what isinstance asks of a caught error's class C and a class S above it -/
structure SupC (K : PySem.W.Frag) (C S : Addr) : Prop where
  cl : (PySem.W.clsIn K C).isSome = true
  ga : PySem.W.findIn K (.ref C) "__getattribute__" = some (some (.builtin "BaseException.__getattribute__"))
  gg : PySem.W.findIn K (.ref C) "__getattr__" = some none
  sb : PySem.W.subIn K (.ref C) (.type "BaseException") = some true
  gc : PySem.W.findIn K (.ref C) "__class__" = some (some (.builtin "object.__class__"))
  gn : PySem.W.specialIn K (.builtin "object.__class__") "__get__" = some (some (.builtin "getset_descriptor.__get__"))
  tk : PySem.W.takesIn K (.builtin "object.__class__") = some true
  mo : PySem.W.mroIn K C (.type "object") = some true
  is : PySem.W.kitOne K (.ref C) (.ref S) = some true
section
variable {X : Cx} {a da C S : Addr} {oe : Obj} {pn : List (Addr × Obj)} {e : Expr} {p : TPE} {pos pf p1 p2 : Pos} {x : Str} {k i : Nat}
def rIsX (a da S : Addr) : List V → Hp → VK → Prop := fun xs H Q => ∃ fs, xs = [.ref a, .ref S] ∧ H da = some (.xd fs) ∧ Q (.bl true) H
theorem call_isX (T : SupC X.K C S) (hz : Zc (.ref C) (some da) oe) (hf : ∃ vs, oe.data = .fields vs) : CallR (X.suite a ((a, oe) :: pn)) (.builtin "isinstance") (rIsX a da S) := by
  intro pins s σ H xs us Q I r h
  obtain ⟨fs, rfl, hd, hQ⟩ := h
  cases r with
  | cons r1 r2 =>
    cases r2 with
    | cons r2 r3 =>
      cases r3
      cases r1
      cases r2
      obtain ⟨ha, _⟩ := I.pin (a, oe) (List.mem_append_left _ List.mem_cons_self)
      obtain ⟨vs, hdt⟩ := hf
      have hx : ObjOk X.prog X.w H s.heap da (.xd fs) := I.hok da _ hd
      obtain ⟨mA, hns, hr⟩ := hx
      obtain ⟨od, ho, hl⟩ := lookIn_ns hns
      have J : PySem.W.InstAt s.heap a oe C (some od) := ⟨ha, hz.1, by unfold PySem.W.notCls; rw [hdt] <;> rfl, by rw [hz.2]; exact ho⟩
      exact PySem.W.kia_one (PySem.W.kitx_exc T.cl T.ga T.gg T.sb T.gc T.gn T.tk T.mo) I.kIn J T.is (fun z => nomatch z) fun tk => ⟨.bl true, H, I.tok _, rfl, hQ⟩
def pXis (k : Nat) (a da : Addr) (p : TPE) : TPE := fun ρ n R => p ρ n fun d m => match d with | .obj j [.int b, .int c, z] => j = k * 1000 + 999 ∧ b = (a : Nat) ∧ c = (da : Nat) ∧ R (.bl true) m | _ => False
theorem de_xis (T : SupC X.K C S) (mS : X.mg x = some (.ref S)) (mI : X.mg "isinstance" = none) (hz : Zc (.ref C) (some da) oe) (hf : ∃ vs, oe.data = .fields vs) (he : DE (X.suite a ((a, oe) :: pn)) e p)
    (hg : Gl (X.suite a ((a, oe) :: pn)) "isinstance" := by rfl) (hgS : Gl (X.suite a ((a, oe) :: pn)) x := by rfl) (hdb : (x == ("__debug__" : Str)) = false := by decide)
    (hs : starEach [e, .Name x p2] X.env = (false, eval e X.env) :: starEach [.Name x p2] X.env := by rfl) (hs2 : starEach [.Name x p2] X.env = (false, eval (.Name x p2) X.env) :: starEach [] X.env := by rfl) (hpl : (backTo pos (starEach [.Name x p2] X.env)).any (·.1) = false := by rfl) :
    DE (X.suite a ((a, oe) :: pn)) (.Call (.Name "isinstance" pf) [e, .Name x p2] [] pos) (pXis k a da p) := fun g hK => by
  refine (pe_callB (call_isX T hz hf) hg mI (by decide +kernel) (pa_cons (he g hK) (pa_cons (pe_glob (v := .ref S) hgS mS rfl hdb) pa_nil hs2) hs) (by decide) (by decide) hs hpl).imp fun σ H Q ⟨n, F, ρ, R, ok, hq, kk⟩ => ?_
  refine ⟨n, F, ρ, _, ok, hq, fun n1 F1 H1 v d s1 ok1 r1 h1 => ?_⟩
  match d, r1, h1 with
  | .obj j [.int b, .int c, z], r1, ⟨h1, h2, h3, h4⟩ =>
    subst h1; subst h2; subst h3
    obtain ⟨rfl, u, hu, ru⟩ := Rep.excInv r1
    exact ⟨_, rfl, ok1.sub _ _ hu, kk n1 F1 H1 _ _ s1 ok1 (.bl true) h4⟩
end
end PL

/-! PL: displays of dicts from texts to anything. -/
namespace PL
open PySem PySem.Spec L2
def LEa (K : PySem.W.Frag) (p : TPE) : TE := fun σ H Q => ∃ g : G, g.c.K = K ∧ LE g p σ H Q
def trsOf (K : PySem.W.Frag) (l : List (Str × TPE)) : List (TE × TE) := l.map fun q => (tC (.str q.1), LEa K q.2)
def pArgs : List TPE → TPA
  | [] => pNil
  | p :: l => pCons p (pArgs l)
def pDsk (l : List (Str × TPE)) : TPE := fun ρ n R => pArgs (l.map (·.2)) ρ n fun ds m => R (.dic (l.map fun q => .inr q.1) ds) m
theorem pairs_of {g : G} {K : PySem.W.Frag} (hK : g.c.K = K) {σ : L2.St} {ρ : PEnv} : ∀ (l : List (Str × TPE)) (n : Nat) (F H : Hp) (R : List D → Nat → Prop) (Q : List (V × V) → Hp → Prop), Ok g n F H σ ρ → pArgs (l.map (·.2)) ρ n R →
    (∀ n' F' H' vs ds, Same F F' → Ok g n' F' H' σ ρ → Reps g.c F' vs ds → vs.length = l.length → R ds n' → Q ((l.map fun q => V.str q.1).zip vs) H') → tPairs (trsOf K l) σ H Q
  | [], n, F, H, R, Q, ok, h, k => k n F H [] [] (Same.refl F) ok .nil rfl h
  | q :: l, n, F, H, R, Q, ok, h, k => by
    show tC (.str q.1) σ H fun x H1 => LEa K q.2 σ H1 fun y H2 => tPairs (trsOf K l) σ H2 fun ps H3 => Q ((x, y) :: ps) H3
    refine ⟨g, hK, n, F, ρ, _, ok, h, fun n1 F1 H1 v d s1 ok1 r1 h1 => ?_⟩
    refine pairs_of hK l n1 F1 H1 _ _ ok1 h1 fun n2 F2 H2 vs ds s2 ok2 r2 hl h2 => ?_
    exact k n2 F2 H2 (v :: vs) (d :: ds) (s1.trans s2) ok2 (.cons (r1.mono s2) r2) (by rw [List.length_cons, List.length_cons, hl]) h2
section
variable {X : Cx} {pos : Pos} {keys ks : List (Option Expr)} {values vs : List Expr} {j : Nat} {cp : Pos}
theorem pk_nilD : PPs X pos [] [] (trsOf X.K []) := pps_nil
theorem pk_consD {k : Str} {v : Expr} {p : TPE} {l : List (Str × TPE)} (hv : DE X v p) (hr : PPs X pos ks vs (trsOf X.K l)) : PPs X pos (some (.Constant (.str k) j cp) :: ks) (v :: vs) (trsOf X.K ((k, p) :: l)) :=
  pps_cons pe_str ⟨fun pins s σ H Q I ⟨g, hK, h⟩ => (hv g hK).run pins s σ H Q I h⟩ hr
theorem fe_dsk (l : List (Str × TPE)) (h : PPs X pos keys values (trsOf X.K l)) (hall : keys.all (·.isSome) = true := by rfl) (hl : keys.length = values.length := by rfl) (h0 : keys ≠ [] := by exact fun z => nomatch z) (h15 : keys.length ≤ 15 := by decide) (l15 : (l.map (·.1)).length ≤ 15 := by decide) (hnd : (l.map (·.1)).Nodup := by decide +kernel) :
    FE X (.Dict keys values pos) (pDsk l) := fun g hK => (pe_disp h hall hl h0 h15).imp fun σ H Q ⟨n, F, ρ, R, ok, hq, k⟩ => fun p hp => by
  refine pairs_of (g := g.pinned p (.dK [])) hK l n F _ _ _ (ok.pinNew (.dK []) hp) hq fun n1 F1 H1 vs ds s1 ok1 r1 hvl h1 => ?_
  obtain ⟨p1, p2, p3⟩ := ok1.pinAt
  have hlen : (l.map fun q => (.inr q.1 : Key)).length = vs.length := by
    rw [List.length_map, hvl]
  refine ⟨p1, (l.map fun q => (.inr q.1 : Key)).zip vs, ?_, ?_, ?_⟩
  · rw [show (l.map fun q => V.str q.1) = (l.map fun q => (.inr q.1 : Key)).map kV from by rw [List.map_map]; rfl, List.zip_map_left]
    refine List.map_congr_left fun q _ => ?_
    rfl
  · rw [List.length_zip, hlen, Nat.min_self, ← hlen, List.length_map]
    rw [List.length_map] at l15; exact l15
  · have e : mergeK [] ((l.map fun q => (.inr q.1 : Key)).zip vs) = (l.map fun q => (.inr q.1 : Key)).zip vs := by
      rw [merge_new _ _ (fun _ _ q h => absurd h List.not_mem_nil) ?_, List.nil_append]
      rw [List.map_fst_zip (by omega)]
      have : (l.map fun q => (.inr q.1 : Key)) = (l.map (·.1)).map (fun s => (.inr s : Key)) := by rw [List.map_map]; rfl
      rw [this]
      exact List.Pairwise.map _ (fun a b ne z => ne (Sum.inr.inj z)) hnd
    rw [e]
    have := k n1 F1 (erase H1 p) p _ _ s1 (ok1.unpin (ok.freeH0 hp) (ok.freeP hp)) (erase_same H1 p) (.dic hlen r1) h1
    have e2 : ∀ x, upd (erase H1 p) p x = upd H1 p x := fun x => by
      funext b
      by_cases hb : b = p
      · subst hb; rw [upd_same, upd_same]
      · rw [upd_ne hb, upd_ne hb, erase_ne hb]
    rw [e2] at this
    exact this
end
end PL

/-! PL: equations for the walk: errors, displays. -/
namespace PL
open PySem PySem.Spec L2
/-- all that a try .. except X as e asks of the class -/
structure CatT (K : PySem.W.Frag) (mg : Str → Option Value) (k : Nat) (C S : Addr) : Prop where
  cat : CatC K mg k C
  xf : XfC K C
  no : PySem.W.findIn K (.ref C) (ERN k).2 = some none
  sup : SupC K C S
  gS : mg "SerialError" = some (.ref S)
section
variable (ρ : PEnv) (n m k i : Nat) (R : D → Nat → Prop) (P : Post) (p : TPE) (S : SpecX) (ew : EW) (t : TPA) (ix : List Nat) (a da : Addr) (l : List (Str × TPE)) (ps : List TPE) (pb : EW → TPS) (su : Addr → Addr → TPS) (z : D) (Q : D → Prop)
theorem q_fnx : pFnX S ew t ρ n R = t ρ n fun ds m => callY S ds m R (fun k d n' => ew k d ρ n') (shut R) := rfl
theorem q_fnxk : pFnXK S ew m ix t ρ n R = t ρ n fun ds n1 => ds.length = m ∧ callY S (PL.picks ix ds) n1 R (fun k d n' => ew k d ρ n') (shut R) := rfl
theorem q_raise : pRaise ew k p P ρ n = p ρ n fun d m => ew k d ρ m := rfl
theorem q_try : pTry k i pb su P ρ n = pb (fun k' d ρ' n' => k' = k ∧ ∀ a da, su a da { nx := fun ρ2 m => P.nx (ρ2.set i .any) m, rt := P.rt, bk := fun ρ2 m => P.bk (ρ2.set i .any) m, ct := fun ρ2 m => P.ct (ρ2.set i .any) m } (ρ'.set i (.sh (.exc k a da d))) n') P ρ n := rfl
def xfD (k : Nat) (a da : Addr) (d : D) (Q : D → Prop) : Prop := match d with | .obj j [.int b, .int c, z] => j = k * 1000 + 999 ∧ b = (a : Nat) ∧ c = (da : Nat) ∧ Q z | _ => False
theorem q_xf : pXf k a da p ρ n R = p ρ n fun d m => xfD k a da d fun z => R z m := rfl
theorem q_xis : pXis k a da p ρ n R = p ρ n fun d m => xfD k a da d fun _ => R (.bl true) m := rfl
theorem o_xf : xfD k a da (.exc k a da z) Q = Q z := by simp [xfD]
theorem q_dsk : pDsk l ρ n R = pArgs (l.map (·.2)) ρ n fun ds m => R (.dic (l.map fun q => .inr q.1) ds) m := rfl
theorem q_pa0 (Z : List D → Nat → Prop) : pArgs [] ρ n Z = Z [] n := rfl
theorem q_pa (Z : List D → Nat → Prop) : pArgs (p :: ps) ρ n Z = p ρ n fun d m => pArgs ps ρ m fun ds k => Z (d :: ds) k := rfl
theorem callY_of {S : SpecX} {ds : List D} {RE : Nat → D → Nat → Prop} (h : S ds n R RE) {u : Shut R} : callY S ds n R RE u := h
theorem quiet_eq {S : SpecX} {ds : List D} : quiet S ds n R = S ds n R (fun _ _ _ => False) := rfl
end
end PL

/-! PL: [k + (d[k],) for k in d], the keys of d tuples. -/
namespace PL
open PySem PySem.Spec L2
def keyD : Key → D
  | .inl i => .int i
  | .inr s => .str s
theorem rep_key {c : Cfg} {F : Hp} : ∀ k : Key, Rep c F (kV k) (keyD k)
  | .inl i => .int i
  | .inr s => .str s
theorem reps_keys {c : Cfg} {F : Hp} : ∀ k : List Key, Reps c F (k.map kV) (k.map keyD)
  | [] => .nil
  | x :: xs => .cons (rep_key x) (reps_keys xs)
def rowsD (ks : List (List Key)) (ds : List D) : List D := (ks.zip ds).map fun p => .tup (p.1.map keyD ++ [p.2])
def pRowsD (i j : Nat) : TPE := fun ρ n R => match ρ[i]? with
  | some (.sh (.dit ks ds)) => ks.length = ds.length ∧ ks.Nodup ∧ (∀ k ∈ ks, k ≠ [] ∧ k.length ≤ 1000) ∧ ks.length ≤ 1000 ∧ ρ[j]?.isSome = true ∧ R (.lst (rowsD ks ds)) n
  | _ => False
theorem valV_at {κ : Type} [DecidableEq κ] {kvs : List (κ × V)} (nd : (kvs.map (·.1)).Nodup) {i : Nat} {k : κ} {v : V} (h : kvs[i]? = some (k, v)) : valV kvs k = some v := by
  unfold valV
  induction kvs generalizing i with
  | nil => simp at h
  | cons p r ih =>
    rw [List.map_cons, List.nodup_cons] at nd
    cases i with
    | zero =>
      have h : p = (k, v) := by simpa using h
      subst h
      simp [List.find?]
    | succ i =>
      have h : r[i]? = some (k, v) := by simpa using h
      have ne : p.1 ≠ k := fun z => nd.1 (z ▸ List.mem_map_of_mem (f := (·.1)) (List.mem_of_getElem? h))
      simp only [List.find?, decide_eq_false ne]
      exact ih nd.2 h
section
variable {X : Cx} {pos p1 p2 p3 p4 p5 p6 p7 p8 : Pos} {i j x1 : Nat} {y z : Str} {scope : Scope}
theorem fe_rowsD (hN : X.N.Nodup) (ok : BlkOk X.N X.env.scope scope [(z, j)]) (hv : PE X (.Name y p1) (tVar i)) (hij : i ≠ j)
    (hg : ∀ (s : Shared) (H : Hp) (C : Addr) (cl : List (Str × Addr)) (fp : List Addr), PG (X.blk s H scope (compEnvC scope cl C X.env) fp) (.Name z p4) (gName j))
    (hz : ∀ (s : Shared) (H : Hp) (C : Addr) (cl : List (Str × Addr)) (fp : List Addr), PE (X.blk s H scope (compEnvC scope cl C X.env) fp) (.Name z p2) (tVar j))
    (hz2 : ∀ (s : Shared) (H : Hp) (C : Addr) (cl : List (Str × Addr)) (fp : List Addr), PE (X.blk s H scope (compEnvC scope cl C X.env) fp) (.Name z p5) (tVar j))
    (hy : ∀ (s : Shared) (H : Hp) (C : Addr) (cl : List (Str × Addr)) (fp : List Addr), PE (X.blk s H scope (compEnvC scope cl C X.env) fp) (.Name y p3) (tVar i))
    (hu : X.A.units + 64 < cLine) (hc : X.calm = true := by rfl) (hs : ∀ x, foldedSetIterable (.Name y p1) X.env x = pure x := by intro _; rfl) :
    FE X (.ListComp (.BinOp (.Name z p2) .Add (.Tuple [.Subscript (.Name y p3) (.Name z p5) p6] x1 p7) p8) [⟨.Name z p4, .Name y p1, [], 0⟩] scope pos) (pRowsD i j) := fun g hK => by
  refine (pe_lock (pe_lc hc hN (pi_keys hv) ok hg (fun s H C cl fp => pts_nil) (fun s H C cl fp => pe_op (r := rCatA X.K) op_catA (hz s H C cl fp) (pe_tup (pa_cons (pe_dget (by show X.A.units + 1 < cLine; omega) (hy s H C cl fp) (hz2 s H C cl fp) (by intro _ _; rfl)) pa_nil (by rfl)))) hs)).imp fun σ H Q ⟨n, F, ρ, R, okk, hq, k⟩ => ?_
  have hq : pRowsD i j ρ n R := hq
  unfold pRowsD at hq
  split at hq
  · rename_i ks ds hi
    obtain ⟨hl, hnd, hne, hlen, hj, hR⟩ := hq
    obtain ⟨v, hv, r⟩ := okk.cells i _ hi
    cases r with
    | dit hF hlx rs =>
      rename_i d xs
      have hHd : H d = some (.dT (ks.zip xs)) := okk.sub _ _ hF
      refine ⟨d, _, hHd, trivial, fun od => ?_⟩
      refine ⟨.ref d, hv, d, od, rfl, .inr ⟨ks.zip xs, upd_same, fun D hD => ?_⟩⟩
      have Dd : D ≠ d := fun z => by subst z; rw [upd_same] at hD; cases hD
      rw [upd_ne Dd] at hD
      have hkl : (ks.zip xs).length = ks.length := by rw [List.length_zip, hlx, Nat.min_self]
      refine ⟨fun t m Hc => m = ks.length - t ∧ t ≤ ks.length ∧ ∃ Hu F2 acc, Same F F2 ∧ Ok g n F2 Hu σ ρ ∧ Hu D = none ∧ Hu d = some (.dT (ks.zip xs)) ∧ Reps g.c F2 acc ((rowsD ks ds).take t) ∧ Hc = upd (upd Hu d (.frz od (.dT (ks.zip xs)))) D (.lst acc), ⟨_, rfl, Nat.zero_le _, H, F, [], Same.refl F, okk, hD, hHd, .nil, rfl⟩, ?_⟩
      rintro t m Hc ⟨rfl, ht, Hu, F2, acc, s2, ok2, hD2, hd2, ra, rfl⟩
      have hcd : upd (upd Hu d (.frz od (.dT (ks.zip xs)))) D (.lst acc) d = some (.frz od (.dT (ks.zip xs))) := by rw [upd_ne (Ne.symm Dd), upd_same]
      have rl : (rowsD ks ds).length = ks.length := by unfold rowsD; rw [List.length_map, List.length_zip, hl, Nat.min_self]
      by_cases he : t = ks.length
      · refine .inl ⟨⟨hcd, by rw [hkl]; omega⟩, hcd, ?_⟩
        rw [List.take_of_length_le (by omega)] at ra
        have := k n F2 Hu D (.lst acc) _ s2 ok2 hD2 (.lst ra) hR
        have e : upd (upd (upd Hu d (.frz od (.dT (ks.zip xs)))) D (.lst acc)) d (.dT (ks.zip xs)) = upd Hu D (.lst acc) := by
          funext b
          by_cases hb : b = d
          · subst hb; rw [upd_same, upd_ne (Ne.symm Dd), hd2]
          · rw [upd_ne hb]
            by_cases hb2 : b = D
            · subst hb2; rw [upd_same, upd_same]
            · rw [upd_ne hb2, upd_ne hb, upd_ne hb2]
        rw [e]
        exact this
      · refine .inr ⟨⟨hcd, by rw [hkl]; omega⟩, fun H' => ∃ Hu F2 acc, Same F F2 ∧ Ok g n F2 Hu σ ρ ∧ Hu D = none ∧ Hu d = some (.dT (ks.zip xs)) ∧ Reps g.c F2 acc ((rowsD ks ds).take (t + 1)) ∧ H' = upd (upd Hu d (.frz od (.dT (ks.zip xs)))) D (.lst acc), fun H' h => ⟨_, by omega, rfl, by omega, h⟩, ?_⟩
        rintro x H' ⟨rfl, kk, v, q, hkv, rfl, hq⟩
        obtain ⟨hk1, hk2⟩ := List.getElem?_zip_eq_some.mp hkv
        obtain ⟨dv, hdv, rv⟩ := (rs.mono s2).getV hk2
        have hjl : j < σ.length := by
          rw [okk.len]
          cases e : ρ[j]? with
          | none => rw [e] at hj; cases hj
          | some c => exact lt_of_get e
        have wj : (wipe σ [j]).length = σ.length := by show ((σ.set j none)).length = _; rw [List.length_set]
        have sj : ((wipe σ [j]).set j (some (V.ref q)))[j]? = some (some (.ref q)) := set_same (by rw [wj]; exact hjl)
        have si : ((wipe σ [j]).set j (some (V.ref q)))[i]? = some (some (.ref d)) := by
          rw [List.getElem?_set_ne (Ne.symm hij)]
          show (σ.set j none)[i]? = _
          rw [List.getElem?_set_ne (Ne.symm hij)]; exact hv
        refine ⟨?_, ?_⟩
        · show ((wipe σ [j]).set j (some (V.ref q))).set j none = _
          rw [List.set_set]
          show (σ.set j none).set j none = σ.set j none
          rw [List.set_set]
        · unfold tYes
          dsimp only
          rw [if_pos rfl]
          refine ⟨.ref q, sj, ?_⟩
          refine ⟨.ref d, si, .ref q, sj, d, v, rfl, .inr ⟨_, kk, q, .inr ⟨od, hcd⟩, rfl, hq, (valV_at (by rw [List.map_fst_zip (by omega)]; exact hnd) hkv).symm⟩, ?_⟩
          refine ⟨by show 1 ≤ sizeLine; rw [sizeLine_eq]; decide, fun q1 hq1 => ?_⟩
          have hkm : kk ∈ ks := List.mem_of_getElem? hk1
          have q1D : q1 ≠ D := fun z => by subst z; rw [upd_same] at hq1; cases hq1
          have q1d : q1 ≠ d := fun z => by subst z; rw [hcd] at hq1; cases hq1
          have q1q : q ≠ q1 := fun z => by subst z; rw [hq] at hq1; cases hq1
          have hu1 : Hu q1 = none := by rw [upd_ne q1D, upd_ne q1d] at hq1; exact hq1
          refine ⟨q, q1, kk.map kV, [v], rfl, rfl, SqT.of (by rw [upd_ne q1q]; exact hq), SqT.of upd_same, ?_, fun z => absurd (List.map_eq_nil_iff.mp z) (hne kk hkm).1, fun _ z => (nomatch z), fun _ _ q2 hq2 => ?_⟩
          · rw [List.length_map]
            have := (hne kk hkm).2
            show kk.length + 1 ≤ sizeLine
            rw [sizeLine_eq]; omega
          · have q21 : q2 ≠ q1 := fun z => by subst z; rw [upd_same] at hq2; cases hq2
            rw [upd_ne q21] at hq2
            have q2D : q2 ≠ D := fun z => by subst z; rw [upd_same] at hq2; cases hq2
            have q2d : q2 ≠ d := fun z => by subst z; rw [hcd] at hq2; cases hq2
            have hu2 : Hu q2 = none := by rw [upd_ne q2D, upd_ne q2d] at hq2; exact hq2
            have okA := ok2.alloc (.tup [v]) hu1
            have hu2' : upd Hu q1 (.tup [v]) q2 = none := by rw [upd_ne q21]; exact hu2
            have okB := okA.alloc (.tup (kk.map kV ++ [v])) hu2'
            have sA := ok2.sameF (.tup [v]) hu1
            have sB := okA.sameF (.tup (kk.map kV ++ [v])) hu2'
            refine ⟨acc, ?_, ?_, _, _, acc ++ [.ref q2], s2.trans (sA.trans sB), okB, ?_, ?_, ?_, ?_⟩
            · rw [upd_ne (Ne.symm q2D), upd_ne (Ne.symm q1D), upd_same]
            · rw [ra.length, List.length_take, sizeLine_eq]; omega
            · rw [upd_ne (Ne.symm q2D), upd_ne (Ne.symm q1D)]; exact hD2
            · rw [upd_ne (Ne.symm q2d), upd_ne (Ne.symm q1d)]; exact hd2
            · have row : (rowsD ks ds)[t]? = some (.tup (kk.map keyD ++ [dv])) := by
                unfold rowsD
                have hz : (ks.zip ds)[t]? = some (kk, dv) := List.getElem?_zip_eq_some.mpr ⟨hk1, hdv⟩
                rw [List.getElem?_map, hz]; rfl
              rw [List.take_add_one, row]
              refine ((ra.mono sA).mono sB).append (.cons (.tup (SqT.of upd_same) ((reps_keys kk).append (.cons ((rv.mono sA).mono sB) .nil))) .nil)
            · funext b
              by_cases hb : b = D
              · subst hb; rw [upd_same, upd_same]
              · rw [upd_ne hb, upd_ne hb]
                by_cases hb2 : b = d
                · subst hb2; rw [upd_same, upd_ne (Ne.symm q2d), upd_ne (Ne.symm q1d), upd_ne hb, upd_same]
                · rw [upd_ne hb2]
                  by_cases h3 : b = q2
                  · subst h3; rw [upd_same, upd_same]
                  · rw [upd_ne h3, upd_ne h3]
                    by_cases h4 : b = q1
                    · subst h4; rw [upd_same, upd_same]
                    · rw [upd_ne h4, upd_ne h4, upd_ne hb, upd_ne hb2]
  · exact hq.elim
end
end PL

/-! sorted of a list of triples (an int, a text, an int); the texts ordered as a rank tells. -/
namespace SrtO
open PySem PySem.Spec PyProof.Rows L2 Srt
def lexT (p q : Int × Int × Int) : Bool := if p.1 = q.1 then (if p.2.1 = q.2.1 then decide (p.2.2 < q.2.2) else decide (p.2.1 < q.2.1)) else decide (p.1 < q.1)
theorem lexT_iff {p q : Int × Int × Int} : lexT p q = true ↔ p.1 < q.1 ∨ (p.1 = q.1 ∧ (p.2.1 < q.2.1 ∨ (p.2.1 = q.2.1 ∧ p.2.2 < q.2.2))) := by
  unfold lexT
  split
  · split
    · rw [decide_eq_true_eq]; omega
    · rw [decide_eq_true_eq]; omega
  · rw [decide_eq_true_eq]; omega
theorem lexT_no {p q : Int × Int × Int} : lexT p q = false ↔ ¬ (p.1 < q.1 ∨ (p.1 = q.1 ∧ (p.2.1 < q.2.1 ∨ (p.2.1 = q.2.1 ∧ p.2.2 < q.2.2)))) := by
  rw [← lexT_iff]
  cases lexT p q <;> simp
theorem swo_lexT {α : Type} (k : α → Int × Int × Int) : Swo fun v u => lexT (k v) (k u) := by
  refine ⟨fun x y h => ?_, fun x y z h1 h2 => ?_⟩
  · have a := lexT_iff.mp h
    refine lexT_no.mpr ?_
    omega
  · have a := lexT_no.mp h1
    have b := lexT_no.mp h2
    refine lexT_no.mpr ?_
    omega
def IsTri (h : Heap) (v : Value) (x : Int) (y : PySem.Str) (z : Int) : Prop := ∃ a o t u r n, v = .ref a ∧ h.get? a = some o ∧ o.cls = .type "tuple" ∧ o.data = .seq #[.int x t, .str y u, .int z r] n
theorem IsTri.keeps {h h' : Heap} {v : Value} {x z : Int} {y : PySem.Str} (p : IsTri h v x y z) (k : ∀ b o, h.get? b = some o → o.cls = .type "tuple" → h'.get? b = some o) : IsTri h' v x y z := by
  obtain ⟨a, o, t, u, r, n, e, ho, hc, hd⟩ := p
  exact ⟨a, o, t, u, r, n, e, k _ _ ho hc, hc, hd⟩
theorem firsts_tri {h : Heap} : ∀ {vs : List Value}, (∀ v ∈ vs, ∃ x y z, IsTri h v x y z) → ∃ fs : List Value, PySem.W.KatTups h vs fs ∧ fs.length = vs.length ∧ ∀ f ∈ fs, ∃ x t, f = Value.int x t
  | [], _ => ⟨[], PySem.W.KatTups.nil, rfl, fun _ hm => by simp at hm⟩
  | v :: vs, hp => by
    obtain ⟨fs, h1, h2, h3⟩ := firsts_tri (vs := vs) fun v' hm => hp v' (List.mem_cons_of_mem _ hm)
    obtain ⟨x, y, z, a, o, t, u, r, n, e, ho, hc, hd⟩ := hp v (List.mem_cons_self ..)
    subst e
    refine ⟨.int x t :: fs, PySem.W.KatTups.cons ho hc hd rfl h1, by rw [List.length_cons, List.length_cons, h2], fun f hm => ?_⟩
    rcases List.mem_cons.mp hm with rfl | hm
    · exact ⟨x, t, rfl⟩
    · exact h3 f hm
/-- a rank of texts -/
def Rank (rk : PySem.Str → Int) (ss : PySem.Str → Prop) : Prop := ∀ s t, ss s → ss t → (s = t ↔ rk s = rk t) ∧ (s.cps.toList < t.cps.toList ↔ rk s < rk t)
section
variable {prog : Program} {w : World} {A : Around} {E : Value → Shared → Prop} {s : Shared}
theorem tri_cmp {vs : List Value} {k : Value → Int × PySem.Str × Int} {rk : PySem.Str → Int} (hr : Rank rk fun y => ∃ v ∈ vs, (k v).2.1 = y) (hp : ∀ v ∈ vs, IsTri s.heap v (k v).1 (k v).2.1 (k v).2.2) :
    Cmp prog w A s (tuples' true) (fun p => p.1 ∈ vs) (lt2 fun v u => lexT ((k v).1, rk (k v).2.1, (k v).2.2) ((k u).1, rk (k u).2.1, (k u).2.2)) := by
  intro p q hm hm'
  have h1 := hp _ hm
  have h2 := hp _ hm'
  obtain ⟨r1, r2⟩ := hr (k p.1).2.1 (k q.1).2.1 ⟨_, hm, rfl⟩ ⟨_, hm', rfl⟩
  show wpAny (model prog w) A (keyLt' (tuples' true) p.1 q.1) (fun r s' => s' = s ∧ r = lexT ((k p.1).1, rk (k p.1).2.1, (k p.1).2.2) ((k q.1).1, rk (k q.1).2.1, (k q.1).2.2)) (fun _ _ => False) s
  unfold lexT
  dsimp only
  generalize (k p.1).1 = x at h1 ⊢
  generalize (k p.1).2.1 = y at h1 r1 r2 ⊢
  generalize (k p.1).2.2 = z at h1 ⊢
  generalize (k q.1).1 = x' at h2 ⊢
  generalize (k q.1).2.1 = y' at h2 r1 r2 ⊢
  generalize (k q.1).2.2 = z' at h2 ⊢
  obtain ⟨a, o, t, u, r, n, e, ho, hc, hd⟩ := h1
  obtain ⟨a', o', t', u', r', n', e', ho', hc', hd'⟩ := h2
  rw [e, e']
  refine PySem.W.kat_lt ho hd ho' hd' ?_
  show PySem.W.KatLex prog w A true (decide (3 < 3)) _ [(.int x t, .int x' t'), (.str y u, .str y' u'), (.int z r, .int z' r')] 0 s
  refine PySem.W.kat_cons (SeqAt.EqAt.int_int x t x' t' prog w _ _ ?_)
  refine PySem.W.kat_go (fun e1 => ?_) (fun e1 => ?_)
  · have ex : x = x' := by simpa using e1
    refine PySem.W.kat_yes (PySem.W.kat_cons (SeqAt.EqAt.str_str y u y' u' prog w _ _ ?_))
    refine PySem.W.kat_go (fun e2 => ?_) (fun e2 => ?_)
    · have ey : y = y' := by simpa using e2
      refine PySem.W.kat_yes (PySem.W.kat_cons (SeqAt.EqAt.int_int z r z' r' prog w _ _ ?_))
      refine PySem.W.kat_go (fun e3 => ?_) (fun e3 => ?_)
      · have ez : z = z' := by simpa using e3
        refine PySem.W.kat_yes (PySem.W.kat_nil ⟨rfl, ?_⟩)
        rw [if_pos ex, if_pos (r1.mp ey), ez]
        exact (decide_eq_false (Int.lt_irrefl _)).symm
      · refine PySem.W.kat_no (PySem.W.kat_one _ _ (PyProof.Rows.lt_int ?_))
        exact (show s = s ∧ decide (z < z') = _ from ⟨rfl, by rw [if_pos ex, if_pos (r1.mp ey)]⟩)
    · have ey : ¬ y = y' := by simpa using e2
      refine PySem.W.kat_no (PySem.W.kat_one _ _ (PyProof.Rows.lt_str ?_))
      exact (show s = s ∧ decide (y.cps.toList < y'.cps.toList) = _ from ⟨rfl, by rw [if_pos ex, if_neg (fun q => ey (r1.mpr q)), decide_eq_decide.mpr r2]⟩)
  · have ex : ¬ x = x' := by simpa using e1
    exact PySem.W.kat_no (oneLt_int ⟨rfl, by rw [if_neg ex]⟩)
theorem tri_sortable {a : Addr} {vs : List Value} {k : Value → Int × PySem.Str × Int} {rk : PySem.Str → Int} (hr : Rank rk fun y => ∃ v ∈ vs, (k v).2.1 = y) (h0 : 0 < vs.length) (hp : ∀ v ∈ vs, IsTri s.heap v (k v).1 (k v).2.1 (k v).2.2) (ha : ∀ o, s.heap.get? a = some o → o.cls ≠ .type "tuple") : SortableO prog w A s a vs fun v u => lexT ((k v).1, rk (k v).2.1, (k v).2.2) ((k u).1, rk (k u).2.1, (k u).2.2) := by
  intro h' keep
  have hp' : ∀ v ∈ vs, IsTri h' v (k v).1 (k v).2.1 (k v).2.2 := fun v hm => (hp v hm).keeps fun b o e c => keep b o (fun z => by subst z; exact ha o e c) e
  obtain ⟨fs, h1, h2, h3⟩ := firsts_tri fun v hm => ⟨_, _, _, hp' v hm⟩
  refine ⟨tuples' true, fun Q E hq => ?_, tri_cmp hr hp'⟩
  refine PySem.W.kat_kind (T := .type "int") h1 (by omega) (fun f hm => ?_) (by rfl) ?_
  · obtain ⟨x, t, rfl⟩ := h3 f hm
    exact PySem.W.Looks.now
  · have e : (Value.type "int" != Value.type "tuple") = true := by first | decide +kernel | rfl | decide
    rw [e]
    exact hq
theorem sorted_tri {l : Addr} {vs : List Value} {k : Value → Int × PySem.Str × Int} {rk : PySem.Str → Int} {Q : Value → Shared → Prop} (hr : Rank rk fun y => ∃ v ∈ vs, (k v).2.1 = y) (hl : s.heap.IsList l vs.toArray) (hz : vs.length ≤ sizeLine) (hp : ∀ v ∈ vs, IsTri s.heap v (k v).1 (k v).2.1 (k v).2.2)
    (h : ∀ (h' : Heap) (d : Addr) (out : List Value), Srtd (fun v u => lexT ((k v).1, rk (k v).2.1, (k v).2.2) ((k u).1, rk (k u).2.1, (k u).2.2)) out → Stb (fun v u => lexT ((k v).1, rk (k v).2.1, (k v).2.2) ((k u).1, rk (k u).2.1, (k u).2.2)) out vs → (∀ b o, s.heap.get? b = some o → h'.get? b = some o) → s.heap.objs.size ≤ d → (∃ n, h'.get? d = some (seqObj "list" out.toArray n)) → Q (.ref d) { s with heap := h' }) :
    wpAny (model prog w) A (call (.builtin "sorted") [.ref l]) Q E s := by
  refine sorted_ord (swo_lexT (fun v => ((k v).1, rk (k v).2.1, (k v).2.2))) hl hz (fun h2 h₁ a ha kk => ?_) fun out hs hb => ?_
  · refine tri_sortable (s := { s with heap := h₁ }) hr (by omega) (fun v hm => (hp v hm).keeps fun b o e _ => (kk b o e).2) fun o e => ?_
    have e' : some o = some (seqObj "list" vs.toArray 0) := e.symm.trans ha
    cases e'
    intro c
    exact absurd (Value.type.inj c) (by decide)
  · exact h _ _ out hs hb (fun b o e => sortedAll_old e) (Nat.le_succ _) (sortedAll_at s.heap vs out.toArray)
end
end SrtO

/-! PL: sorted of a list of triples. -/
namespace PL
open PySem PySem.Spec L2
abbrev Tri := Int × Str × Int
def triV (m : Tri) : List V := [.int m.1, .str m.2.1, .int m.2.2]
def triD (m : Tri) : D := .tup [.int m.1, .str m.2.1, .int m.2.2]
abbrev triK (rk : Str → Int) (m : Tri) : Int × Int × Int := (m.1, rk m.2.1, m.2.2)
def rSort3 (K : PySem.W.Frag) : List V → Hp → VK → Prop := fun vs H Q => ∃ (a : Addr) (xs : List V) (ms : List Tri) (rk : Str → Int), vs = [.ref a] ∧ SqL K H a xs ∧ xs.length = ms.length ∧
  (∀ (i : Nat) (x : V) (m : Tri), xs[i]? = some x → ms[i]? = some m → ∃ t, x = .ref t ∧ SqT K H t (triV m)) ∧ SrtO.Rank rk (fun y => ∃ m ∈ ms, m.2.1 = y) ∧
  ∀ (l : List (V × Tri)) (p : Addr), l.Perm (xs.zip ms) → (l.map (·.2)).Pairwise (fun a b => SrtO.lexT (triK rk b) (triK rk a) = false) → H p = none → Q (.ref p) (upd H p (.lst (l.map (·.1))))
theorem tri_uniq {h : Heap} {v : Value} {m m' : Tri} (h1 : SrtO.IsTri h v m.1 m.2.1 m.2.2) (h2 : SrtO.IsTri h v m'.1 m'.2.1 m'.2.2) : m = m' := by
  obtain ⟨a, o, t, u, r, n, e, ho, hc, hd⟩ := h1
  obtain ⟨a', o', t', u', r', n', e', ho', hc', hd'⟩ := h2
  subst e
  cases e'
  rw [ho] at ho'
  cases ho'
  rw [hd] at hd'
  obtain ⟨m1, m2, m3⟩ := m
  obtain ⟨m1', m2', m3'⟩ := m'
  simp only [Data.seq.injEq] at hd'
  have := congrArg Array.toList hd'.1
  simp only [List.cons.injEq, Value.int.injEq, Value.str.injEq] at this
  obtain ⟨⟨rfl, _⟩, ⟨rfl, _⟩, ⟨rfl, _⟩, _⟩ := this
  rfl
section
variable {X : Cx}
open Classical in
theorem cr_sort3 : CallR X (.builtin "sorted") (rSort3 X.K) := by
  intro pins s σ H vs us Q I r h
  obtain ⟨a, xs, ms, rk, rfl, hs, hlen, hx, hr, q⟩ := h
  obtain ⟨its, rv, hl, hz⟩ := I.list hs
  obtain ⟨u, rfl, ru⟩ := vals1 r
  obtain rfl : u = Value.ref a := ru
  have hil : its.length = ms.length := by rw [← hlen]; exact rv.length.symm
  have tri : ∀ (i : Nat) (v : Value) (m : Tri), its[i]? = some v → ms[i]? = some m → SrtO.IsTri s.heap v m.1 m.2.1 m.2.2 ∧ ∃ x, xs[i]? = some x ∧ backV v = x ∧ ∃ t, v = .ref t := by
    intro i v m hv hm
    obtain ⟨x, hxi⟩ : ∃ x, xs[i]? = some x := ⟨_, List.getElem?_eq_getElem (by rw [hlen]; exact lt_of_get hm)⟩
    obtain ⟨t, rfl, ht⟩ := hx i x m hxi hm
    obtain ⟨v', hv', rvv⟩ := rv.get hxi
    rw [hv] at hv'
    cases hv'
    cases rvv
    obtain ⟨its2, r2, ⟨o, ho, hc, n, hd⟩, _⟩ := I.tuple ht
    refine ⟨?_, _, hxi, rfl, t, rfl⟩
    unfold triV at r2
    cases r2 with
    | cons a1 r2 =>
      cases r2 with
      | cons a2 r2 =>
        cases r2 with
        | cons a3 r2 =>
          cases r2
          obtain ⟨t1, rfl⟩ := a1
          obtain ⟨t2, rfl⟩ := a2
          obtain ⟨t3, rfl⟩ := a3
          exact ⟨t, o, t1, t2, t3, n, rfl, ho, hc, hd⟩
  let k : Value → Tri := fun v => if hh : ∃ m : Tri, SrtO.IsTri s.heap v m.1 m.2.1 m.2.2 then choose hh else (0, "", 0)
  have kk : ∀ (i : Nat) (v : Value) (m : Tri), its[i]? = some v → ms[i]? = some m → k v = m := by
    intro i v m hv hm
    have h1 := (tri i v m hv hm).1
    have hh : ∃ m : Tri, SrtO.IsTri s.heap v m.1 m.2.1 m.2.2 := ⟨m, h1⟩
    show (if hh : ∃ m : Tri, SrtO.IsTri s.heap v m.1 m.2.1 m.2.2 then choose hh else (0, "", 0)) = m
    rw [dif_pos hh]
    exact tri_uniq (choose_spec hh) h1
  have at_ : ∀ v ∈ its, ∃ i m, its[i]? = some v ∧ ms[i]? = some m := fun v hv => by
    obtain ⟨i, hi, e⟩ := List.getElem_of_mem hv
    exact ⟨i, ms[i]'(by omega), by rw [List.getElem?_eq_getElem hi, e], List.getElem?_eq_getElem _⟩
  have hp : ∀ v ∈ its, SrtO.IsTri s.heap v (k v).1 (k v).2.1 (k v).2.2 := fun v hv => by
    obtain ⟨i, m, h1, h2⟩ := at_ v hv
    rw [kk i v m h1 h2]
    exact (tri i v m h1 h2).1
  have hr' : SrtO.Rank rk fun y => ∃ v ∈ its, (k v).2.1 = y := by
    intro s1 s2 ⟨v1, hv1, e1⟩ ⟨v2, hv2, e2⟩
    obtain ⟨i1, m1, a1, b1⟩ := at_ v1 hv1
    obtain ⟨i2, m2, a2, b2⟩ := at_ v2 hv2
    rw [kk i1 v1 m1 a1 b1] at e1
    rw [kk i2 v2 m2 a2 b2] at e2
    exact hr s1 s2 ⟨m1, List.mem_of_getElem? b1, e1⟩ ⟨m2, List.mem_of_getElem? b2, e2⟩
  have em : its.map (fun v => (backV v, k v)) = xs.zip ms := by
    apply List.ext_getElem?
    intro i
    rw [List.getElem?_map]
    cases hv : its[i]? with
    | none =>
      have : its.length ≤ i := List.getElem?_eq_none_iff.mp hv
      rw [Option.map_none, eq_comm, List.getElem?_eq_none_iff, List.length_zip]
      omega
    | some v =>
      have hi := lt_of_get hv
      obtain ⟨m, hm⟩ : ∃ m, ms[i]? = some m := ⟨_, List.getElem?_eq_getElem (by omega)⟩
      obtain ⟨_, x, hxi, hb, _⟩ := tri i v m hv hm
      rw [Option.map_some, kk i v m hv hm, hb, eq_comm]
      exact List.getElem?_zip_eq_some.mpr ⟨hxi, hm⟩
  refine SrtO.sorted_tri (k := k) (rk := rk) hr' hl.isList (by rw [← rv.length]; exact hz) hp fun h' d out h1 h2 kp hd hn => ?_
  have h3 : ∀ u ∈ out, ∃ a, u = Value.ref a := fun u hu => by
    obtain ⟨i, m, a1, b1⟩ := at_ u (h2.perm.mem_iff.mp hu)
    exact (tri i u m a1 b1).2.choose_spec.2.2
  obtain ⟨n, hn⟩ := hn
  have hlo : out.length = its.length := h2.perm.length_eq
  have e0 : (out.map fun v => (backV v, k v)).map (·.1) = out.map backV := by rw [List.map_map]; rfl
  refine ⟨.ref d, upd H d (.lst (out.map backV)), I.laid (t' := s.toks) kp hd ⟨?_, out, n, L2.vals_back h3, hn⟩, rfl, ?_⟩
  · rw [List.length_map, hlo, ← rv.length]; exact hz
  · rw [← e0]
    refine q _ d (by rw [← em]; exact h2.perm.map _) ?_ (I.hok.fresh hd)
    rw [List.map_map]
    exact List.Pairwise.map _ (fun a b hab => hab) h1
/-- sorted(xs), xs a list of triples -/
def pSrt3 (t : TPA) : TPE := fun ρ n R => t ρ n fun ds m => match ds with
  | [.lst xs] => ∃ (ms : List Tri) (rk : Str → Int), xs = ms.map triD ∧ SrtO.Rank rk (fun y => ∃ m ∈ ms, m.2.1 = y) ∧ ∀ ms' : List Tri, ms'.Perm ms → ms'.Pairwise (fun a b => SrtO.lexT (triK rk b) (triK rk a) = false) → R (.lst (ms'.map triD)) m
  | _ => False
theorem Reps.tri {c : Cfg} {F : Hp} : ∀ {xs : List V} {ms : List Tri}, Reps c F xs (ms.map triD) → ∀ (i : Nat) (x : V) (m : Tri), xs[i]? = some x → ms[i]? = some m → (∃ t, x = .ref t ∧ SqT c.K F t (triV m)) ∧ Rep c F x (triD m) := by
  intro xs ms r i x m hx hm
  have hd : (ms.map triD)[i]? = some (triD m) := by rw [List.getElem?_map, hm]; rfl
  obtain ⟨v, hv, rv⟩ := r.get hd
  rw [hx] at hv
  cases hv
  refine ⟨?_, rv⟩
  unfold triD at rv
  cases rv with
  | tup h rs =>
    cases rs with
    | cons r1 rs =>
      cases rs with
      | cons r2 rs =>
        cases rs with
        | cons r3 rs =>
          cases rs
          cases r1
          cases r2
          cases r3
          exact ⟨_, rfl, h⟩
theorem reps_pairs {c : Cfg} {F : Hp} : ∀ {l : List (V × Tri)}, (∀ p ∈ l, Rep c F p.1 (triD p.2)) → Reps c F (l.map (·.1)) ((l.map (·.2)).map triD)
  | [], _ => .nil
  | p :: l, h => .cons (h p List.mem_cons_self) (reps_pairs fun q hq => h q (List.mem_cons_of_mem _ hq))
variable {e : Expr} {pos pf : Pos} {ta : TPA}
theorem fe_sorted3 (hm : X.mg "sorted" = none) (hg : Gl X "sorted") (ha : SA X [e] ta) (he : starEach [e] X.env = (false, eval e X.env) :: starEach [] X.env := by rfl) : FE X (.Call (.Name "sorted" pf) [e] [] pos) (pSrt3 ta) := fun g hK =>
  (pe_callB cr_sort3 hg hm (by decide +kernel) (ha g hK) (he := he) (hpl := rfl)).imp fun σ H Q ⟨n, F, ρ, R, ok, hq, k⟩ =>
  ⟨n, F, ρ, _, ok, hq, fun n1 F1 H1 vs ds s1 ok1 r1 h1 => by
    match ds, r1, h1 with
    | [.lst zs], .cons r .nil, h1 =>
      obtain ⟨ms, rk, rfl, hr, hR⟩ := h1
      obtain ⟨a, xs, rfl, hH, rs⟩ := r.lst ok1
      have tt := rs.tri
      refine ⟨a, xs, ms, rk, rfl, SqL.of hH, by rw [rs.length, List.length_map], fun i x m hx hm => ?_, hr, fun l p hl hs hp => ?_⟩
      · obtain ⟨⟨t, e, ht⟩, _⟩ := tt i x m hx hm
        exact ⟨t, e, by rw [← hK]; exact Same.seqT ok1.sub ht⟩
      · have hrep : ∀ p ∈ l, Rep g.c F1 p.1 (triD p.2) := fun p hp => by
          obtain ⟨i, hi, e⟩ := List.getElem_of_mem (hl.mem_iff.mp hp)
          have hz : (xs.zip ms)[i]? = some p := by rw [List.getElem?_eq_getElem hi, e]
          obtain ⟨z1, z2⟩ := List.getElem?_zip_eq_some.mp hz
          exact (tt i p.1 p.2 z1 z2).2
        have hpm : (l.map (·.2)).Perm ms := by
          have h2 := hl.map (·.2)
          rwa [List.map_snd_zip (by rw [rs.length, List.length_map]; exact Nat.le_refl _)] at h2
        exact k n1 F1 H1 p _ _ s1 ok1 hp (.lst (reps_pairs hrep)) (hR _ hpm hs)⟩
theorem q_srt3 (ρ : PEnv) (n : Nat) (R : D → Nat → Prop) : pSrt3 ta ρ n R = ta ρ n fun ds m => match ds with
  | [.lst xs] => ∃ (ms : List Tri) (rk : Str → Int), xs = ms.map triD ∧ SrtO.Rank rk (fun y => ∃ m ∈ ms, m.2.1 = y) ∧ ∀ ms' : List Tri, ms'.Perm ms → ms'.Pairwise (fun a b => SrtO.lexT (triK rk b) (triK rk a) = false) → R (.lst (ms'.map triD)) m
  | _ => False := rfl
end
end PL

/-! PL: xs[-2::-1]. -/
namespace PL
open PySem PySem.Spec L2 PySem.W PyProof.Rows PySem.Calls
theorem rv2_bounds (n : Nat) : sliceBounds (some (-2)) none (some (-1)) n = (max ((n : Int) - 2) (-1), -1, -1) := by
  unfold sliceBounds
  simp
  omega
theorem rv2_pick (items : Array Value) : slicePick items (some (-2)) none (some (-1)) = items.toList.dropLast.reverse.toArray := by
  unfold slicePick
  rw [rv2_bounds]
  have em : max ((items.size : Int) - 2) (-1) = ((items.size - 1 : Nat) : Int) - 1 := by omega
  show ((sliceRange (max ((items.size : Int) - 2) (-1)) (-1) (-1)).filterMap (items[·]?)).toArray = _
  rw [em, krv_sliceRange, krv_range, List.filterMap_reverse]
  have h := pick_run items 0 (items.size - 1)
  have e : (List.range (items.size - 1)).map (0 + ·) = List.range (items.size - 1) := by
    rw [show ((0 + ·) : Nat → Nat) = id from funext fun k => Nat.zero_add k, List.map_id]
  rw [e, List.drop_zero] at h
  rw [h, List.dropLast_eq_take, Array.length_toList]
section
variable {X : Cx} {e : Expr} {te : TE} {k k2 : Nat} {p1 p2 p3 p4 p5 pos : Pos} {p : TPE}
def tRev2 (K : PySem.W.Frag) (te : TE) : TE := fun σ H Q => te σ H fun x H1 => ∃ a xs, x = .ref a ∧ SqL K H1 a xs ∧ ∀ p, H1 p = none → Q (.ref p) (upd H1 p (.lst xs.dropLast.reverse))
theorem vals_dropLast {xs : List V} {us : List Value} (r : Vals xs us) : Vals xs.dropLast us.dropLast := by
  induction r with
  | nil => exact .nil
  | @cons x u xs us h t ih =>
    cases t with
    | nil => exact .nil
    | cons h2 t2 => exact .cons h ih
theorem pe_rev2 (he : PE X e te) : PE X (.Subscript e (.Slice (some (.UnaryOp .USub (.Constant (.int 2) k2 p4) p5)) none (some (.UnaryOp .USub (.Constant (.int 1) k p1) p2)) p3) pos) (tRev2 X.K te) := by
  refine ⟨fun pins s σ H Q I h => ?_⟩
  refine Subscript_ (thn (he.run pins s σ H _ I h) fun v s1 ⟨x, H1, I1, r1, q1⟩ => ?_)
  obtain ⟨a, xs, ex, hx, q⟩ := q1
  subst ex
  cases r1
  have hst : PO X (some (.UnaryOp .USub (.Constant (.int 1) k p1) p2)) (tPart (tUn (rU fun i => .int (-i)) (tC (.int 1)))) := po_some (pe_un un_neg pe_int)
  have hlo : PO X (some (.UnaryOp .USub (.Constant (.int 2) k2 p4) p5)) (tPart (tUn (rU fun i => .int (-i)) (tC (.int 2)))) := po_some (pe_un un_neg pe_int)
  refine wpAny_Slice (thn (hlo.run pins s1 σ H1 (fun o H2 => o = some (-2) ∧ H2 = H1) I1 ⟨2, rfl, -2, rfl, rfl, rfl⟩) fun vl s2 ⟨l, H2, I2, pl, el, e2⟩ => ?_)
  subst el e2
  refine thn (po_none.run pins s2 σ H2 (fun o H3 => o = none ∧ H3 = H2) I2 ⟨rfl, rfl⟩) fun vu s3 ⟨u, H3, I3, pu, eu, e3⟩ => ?_
  subst eu e3
  refine thn (hst.run pins s3 σ H3 (fun o H4 => o = some (-1) ∧ H4 = H3) I3 ⟨1, rfl, -1, rfl, rfl, rfl⟩) fun vs s4 ⟨o, H4, I4, ps, eo, e4⟩ => ?_
  subst eo e4
  have I5 : Inv X pins σ H4 { s4 with heap := s4.heap.push { cls := .type "slice", data := .fields #[vl, vu, vs] } } := I4.kept (t' := s4.toks) fun b ob q => Heap.get?_push_of_some _ q
  obtain ⟨its, r, ht, hz⟩ := I5.list hx
  have hlen := r.length
  show wpAny (model X.prog X.w) X.A (subscriptTail e (.Slice (some (.UnaryOp .USub (.Constant (.int 2) k2 p4) p5)) none (some (.UnaryOp .USub (.Constant (.int 1) k p1) p2)) p3) (.ref a) (.ref s4.heap.objs.size)) (EP X pins σ Q) X.xe { s4 with heap := s4.heap.push { cls := .type "slice", data := .fields #[vl, vu, vs] } }
  refine tail_any (ops := [.ref a, .ref s4.heap.objs.size]) ht.isList.typeIs (PySem.slot_list_getitem.lookup) ?_ (by with_unfolding_all rfl)
  refine wpAny_getItem_list_slice ht.isList (Heap.IsSliceOf.new _ vl vu vs) pl pu ps (by decide) ?_ (by rw [List.size_toArray]; omega)
  rw [rv2_pick]
  refine ⟨.ref _, _, I5.laid (t' := s4.toks) (o := .lst xs.dropLast.reverse) (fun b ob q => Heap.get?_push_of_some _ q) (Nat.le_refl _) ?_, rfl, q _ (I5.hok.fresh (Nat.le_refl _))⟩
  exact ⟨by rw [List.length_reverse, List.length_dropLast]; omega, _, 0, (vals_dropLast r).reverse, Heap.get?_push_size _ rfl⟩
def pRev2 (p : TPE) : TPE := fun ρ n R => p ρ n fun d m => match d with | .lst ds => R (.lst ds.dropLast.reverse) m | _ => False
theorem de_rev2 (he : SE X e p) : DE X (.Subscript e (.Slice (some (.UnaryOp .USub (.Constant (.int 2) k2 p4) p5)) none (some (.UnaryOp .USub (.Constant (.int 1) k p1) p2)) p3) pos) (pRev2 p) := fun g hK => (pe_rev2 (he g hK)).imp fun σ H Q ⟨n, F, ρ, R, ok, hq, k⟩ => by
  refine ⟨n, F, ρ, _, ok, hq, fun n1 F1 H1 v d s1 ok1 r1 h1 => ?_⟩
  revert h1 r1
  cases d <;> intro r1 h1 <;> first | exact False.elim h1 | skip
  obtain ⟨l, us, rfl, e1, t1⟩ := r1.lst ok1
  exact ⟨l, us, rfl, SqL.of e1, fun q hn => k n1 (upd F1 q _) _ _ _ (s1.trans (ok1.sameF _ hn)) (ok1.alloc _ hn) (.lst upd_same (t1.dropLast.reverse.mono (ok1.sameF _ hn))) h1⟩
theorem q_rev2 (ρ : PEnv) (n : Nat) (R : D → Nat → Prop) : pRev2 p ρ n R = p ρ n fun d m => match d with | .lst ds => R (.lst ds.dropLast.reverse) m | _ => False := rfl
end
section
variable {X : Cx} {e : Expr} {p : TPE} {pos : Pos}
theorem ds_augSub {i : Nat} {x : Str} {pos' : Pos} (hN : X.N.Nodup) (hx : Loc X.env.scope x) (he : SE X e p) (hi : X.N[i]? = some x := by rfl) (hf : X.fn x = true ∨ X.env.scope.names.lookup x = some .local := by first | exact .inl rfl | exact .inr rfl) :
    DS X (.AugAssign (.Name x pos') .Sub e pos) (pAug i (oI fun i j R => R (.int (i - j))) p) := ds_aug iop_sub (op_rI0 fun _ _ _ _ => .int _) hN hx he hi hf
theorem ds_augFdiv {i : Nat} {x : Str} {pos' : Pos} (hN : X.N.Nodup) (hx : Loc X.env.scope x) (he : SE X e p) (hi : X.N[i]? = some x := by rfl) (hf : X.fn x = true ∨ X.env.scope.names.lookup x = some .local := by first | exact .inl rfl | exact .inr rfl) :
    DS X (.AugAssign (.Name x pos') .FloorDiv e pos) (pAug i (oI fun i j R => CDiv i j ∧ R (.int (i / j))) p) := ds_aug iop_fdiv (op_rI fun _ _ _ _ => .int _) hN hx he hi hf
theorem o_augs_int (i j : Int) (Q : D → Prop) : oI (fun i j R => R (.int (i - j))) (.int i) (.int j) Q = Q (.int (i - j)) := rfl
theorem o_augd_int (i j : Int) (Q : D → Prop) : oI (fun i j R => CDiv i j ∧ R (.int (i / j))) (.int i) (.int j) Q = (CDiv i j ∧ Q (.int (i / j))) := rfl
end
section
variable {X : Cx} {g : G} {st : Stmt} {e : Expr} {es : List Expr} {kws : List Keyword} {q : TPS} {p : TPE} {t : TPA}
theorem ls_q (h : DS X st q) (hK : g.c.K = X.K) : PS X st (LS g q) := h g hK
theorem le_q (h : DE X e p) (hK : g.c.K = X.K) : PE X e (LE g p) := h g hK
theorem lq_q (h : SE X e p) (hK : g.c.K = X.K) : PE X e (LQ g p) := h g hK
theorem lk_q (h : DK X kws t) (hK : g.c.K = X.K) : PK X kws (LA g t) := h g hK
end
theorem q_rowsD (ρ : PEnv) (n : Nat) (R : D → Nat → Prop) (i j : Nat) : pRowsD i j ρ n R = match (ρ[i]? : Option Cell) with
  | some (.sh (.dit ks ds)) => ks.length = ds.length ∧ ks.Nodup ∧ (∀ k ∈ ks, k ≠ [] ∧ k.length ≤ 1000) ∧ ks.length ≤ 1000 ∧ ρ[j]?.isSome = true ∧ R (.lst (rowsD ks ds)) n
  | _ => False := rfl
end PL

/-! What the written part must say of an error, put together. -/
namespace PL
open PySem PySem.W PyProof.Rows
theorem errC_mk {K : Frag} {h : Heap} {mg : Str → Option Value} {P : Program} {k : Nat} {x f : Str} {C S N : Addr}
    {nm q : Str} {bs : List Value} {sn : List Str} {sub : List Value} {ab : Bool} {col : Option Bool} {dd : Option Addr} {k0 k1 k2 k3 k5 : Option Value}
    {oS : Value} {dS : Option Addr} {cdS : ClassData} {slS : Array (Option Value)}
    {fI cc cda : Addr} {oc ccl cl : Value} {od cdd cld : Option Addr} {osl ccs csl : Array (Option Value)} {kV doc pm : Value} {an : Option Addr} {ct : Value} {vs : Array Value} {tf : Tok} {qI : Str} {p1 p2 q1 q2 q3 q4 q5 q6 q7 q8 q9 q10 : Pos}
    (X : K.In h) (G : h.Ns mainGlobals mg) (hx : (ERN k).1 = x) (hf : (ERN k).2 = f) (hn : SerX.NameOk f) (hb : SerX.BindOk f) (top : (P.main.scope.names.lookup ("super" : Str)).isSome = false)
    (aE : nsIn K mainGlobals x = some (some (.ref C))) (su : nsIn K mainGlobals "super" = some none) (op : nsIn K cStatics "thirdparty.any" = some none)
    (lE : K.lookup C = some (excClassObj nm q C N bs (SerX.exTail2 S) true sn sub ab col dd k0 k1 k2 k3 k5 "Exception.__new__"))
    (lS : K.lookup S = some ⟨oS, dS, .cls cdS, slS⟩) (mS : cdS.mro = SerX.exTail2 S) (fS : findIn K (.ref S) "__init__" = some (some (.builtin "Exception.__init__")))
    (sa : findIn K (.ref C) "__setattr__" = some (some (.builtin "object.__setattr__"))) (no : findIn K (.ref C) f = some none) (kC : keepIn K (.ref C) = true) (exC : subIn K (.ref C) (.type "BaseException") = some true) (tyC : typeIn K (.ref C) = some (.type "type"))
    (aI : findIn K (.ref C) "__init__" = some (some (.ref fI))) (tI : typeIn K (.ref fI) = some (.type "function"))
    (lI : K.lookup fI = some ⟨oc, od, .func { name := "__init__", qualname := qI, params := SerX.iA f p1 p2, body := .stmts (SerX.iB f q1 q2 q3 q4 q5 q6 q7 q8 q9 q10), scope := SerX.iS f, globals := mainGlobals, closure := [("__class__", cc)], defaults := .none, kwdefaults := kV, doc := doc, pyModule := pm, annotations := an, code := .ref cda, closureTuple := ct, builtins := builtinsNs }, osl⟩)
    (cI : codeIn K (.ref cda) qI = true) (lcd : K.lookup cda = some ⟨ccl, cdd, .fields vs, ccs⟩) (vf : vs[2]? = some (.str P.main.file tf)) (lcc : K.lookup cc = some ⟨cl, cld, .cell (some (.ref C)), csl⟩) (en : (q3.endLine == q5.line) = true) : ErrC P K mg k := by
  subst hx hf
  have al : alongIn K "__init__" (SerX.exTail2 S) = some (some (.builtin "Exception.__init__")) := by
    have z := fS
    simp only [findIn, lS] at z
    rw [← mS]
    exact z
  refine ⟨⟨C, S, ⟨mg_of X G aE, su, op, ⟨_, _, _, _, _, _, _, _, _, _, _, _, _, _, lE⟩, al, sa, no, kC, exC, tyC, _, _, _, _, _, _, _, _, _, _, _, _, _, _, _, _, _, _, _, _, _, _, _, _, _, _, _, _, _, _, _, _, aI, tI, lI, cI, lcd, vf, lcc, en⟩, ?_⟩, hn, hb, top⟩
  unfold clsX
  rw [aE]
theorem catT_mk {K : Frag} {h : Heap} {mg : Str → Option Value} {k : Nat} {x f : Str} {C S : Addr} (X : K.In h) (G : h.Ns mainGlobals mg) (hx : (ERN k).1 = x) (hf : (ERN k).2 = f)
    (aE : nsIn K mainGlobals x = some (some (.ref C))) (aS : nsIn K mainGlobals "SerialError" = some (some (.ref S))) (no : findIn K (.ref C) f = some none) (exC : subIn K (.ref C) (.type "BaseException") = some true) (tyC : typeIn K (.ref C) = some (.type "type"))
    (cl : isClsIn K C = true) (sC : subIn K (.ref C) (.ref C) = some true) (ga : findIn K (.ref C) "__getattribute__" = some (some (.builtin "BaseException.__getattribute__"))) (gg : findIn K (.ref C) "__getattr__" = some none) (hd : hasDictIn K C = true)
    (gc : findIn K (.ref C) "__class__" = some (some (.builtin "object.__class__"))) (gn : specialIn K (.builtin "object.__class__") "__get__" = some (some (.builtin "getset_descriptor.__get__"))) (tk : takesIn K (.builtin "object.__class__") = some true) (mo : mroIn K C (.type "object") = some true)
    (clS : isClsIn K S = true) (tyS : typeIn K (.ref S) = some (.type "type")) (sS : subIn K (.ref C) (.ref S) = some true) : CatT K mg k C S := by
  subst hx hf
  have cc : clsX K k = some C := by
    unfold clsX
    rw [aE]
  have te : exmOne K (.ref C) (.ref C) = some true := by
    have e1 : (subIn K (.ref C) (.type "BaseException") == some true) = true := by rw [exC]; rfl
    have e2 : ((clsIn K C).isSome && typeIn K (.ref C) == some (.type "type")) = true := by
      have h2' : (clsIn K C).isSome = true := cl
      rw [h2', tyC]; rfl
    show (if (subIn K (.ref C) (.type "BaseException") == some true) = true then (if ((clsIn K C).isSome && typeIn K (.ref C) == some (.type "type")) = true then subIn K (.ref C) (.ref C) else none) else none) = some true
    rw [if_pos e1, if_pos e2]
    exact sC
  have ko : kitOne K (.ref C) (.ref S) = some true := by
    have e2 : ((clsIn K S).isSome && typeIn K (.ref S) == some (.type "type")) = true := by
      have h2' : (clsIn K S).isSome = true := clS
      rw [h2', tyS]; rfl
    unfold kitOne
    split
    · rfl
    · show (if ((clsIn K S).isSome && typeIn K (.ref S) == some (.type "type")) = true then subIn K (.ref C) (.ref S) else none) = some true
      rw [if_pos e2]
      exact sS
  exact ⟨⟨mg_of X G aE, cc, te⟩, ⟨ga, gg, exC, hd⟩, no, ⟨cl, ga, gg, exC, gc, gn, tk, mo, ko⟩, mg_of X G aS⟩
end PL

/-! sorted(set of ints), any number of members. -/
namespace L2
open PySem PySem.Spec PyProof.Rows
section
variable {P : Program} {w : World} {A : Around} {E : Value → Shared → Prop} {s : Shared} {a : Addr}
theorem sorted_setA {S : Int → Bool} {n : Nat} {Q : Value → Shared → Prop} (R : SetR w s.heap a S n) (hh : A.handled = none) (hsl : n ≤ sizeLine)
    (hQ : ∀ s' p (out : Array Value) (c : Nat) (ns : List Int), (∀ b o, s.heap.get? b = some o → s'.heap.get? b = some o) → s'.gens = s.gens → s'.os = s.os → s.heap.objs.size ≤ p →
      s'.heap.get? p = some (seqObj "list" out c) → IntsAre out.toList ns → ns.Pairwise (· < ·) → (∀ k, k ∈ ns ↔ S k = true) → ns.length = n → Q (.ref p) s') :
    wpAny (model P w) A (call (.builtin "sorted") [.ref a]) Q E s := by
  obtain ⟨o, es, ep, t, ho, hex, hd, g, nd, hm, hb, hf, hn, hr, hl⟩ := R
  refine Calls.call_function_entry kind_sorted plain_sorted entry_sorted (args_sorted1 _) ?_
  unfold Builtin.«sorted»
  refine wpAny_bind (m := checkCount "sorted" 1 1 _) (wpAny_pure ?_)
  refine wpAny_bind (collect_set (A := A.in1) hh ⟨o, ho, hex.1, hd⟩ hf hb hr hl fun s1 vs k1 hz g1 o1 pm => ?_)
  have hvl : vs.length = n := by rw [pm.length_eq, List.length_map, Array.length_toList]; exact hn
  have hI : IntsAre vs (vs.map Builtin.Re.reRawOf) := ints_of vs fun v hv => by
    obtain ⟨e, he, q⟩ := List.mem_map.mp (pm.mem_iff.mp hv)
    obtain ⟨k, tk, h1, _⟩ := g e he
    exact ⟨k, tk, by rw [← q]; exact h1⟩
  have pk : (vs.map Builtin.Re.reRawOf).Perm (es.toList.map keyOf) := by
    have q := pm.map Builtin.Re.reRawOf
    rw [List.map_map] at q
    exact q
  refine wpAny_bind (wpAny_newList ?_ (by rw [hvl]; exact hsl))
  have hoL : (s1.heap.push (seqObj "list" vs.toArray 0)).get? s1.heap.objs.size = some (seqObj "list" vs.toArray 0) := Heap.get?_push_size _ rfl
  refine wpAny_bind (wpAny_holding (wpAny_call_entry slot_list_sort ⟨_, hoL, rfl⟩ entry_list_sort
    (SrtO.list_sort_ord SrtO.swo_int hoL (by rw [hvl]; exact hsl) (fun h2 => SrtO.ints_sortable hI h2) fun out0 h1 h2 => ⟨_, rfl, ?_⟩) (args_list_sort _)))
  obtain ⟨a1, a2, a3⟩ := SrtO.ints_out hI h1 h2
  obtain ⟨c, hc⟩ := sortedHeap_at (vs := vs) (out := out0.toArray) hoL
  have pn : (out0.map SrtO.iv).Perm (es.toList.map keyOf) := a2.trans pk
  refine wpAny_pure ⟨_, rfl, hQ _ s1.heap.objs.size out0.toArray c (out0.map SrtO.iv) (fun b u e => ?_) g1 o1 hz hc (by simpa using a1) (lt_of_le_nodup _ a3 (pn.nodup_iff.mpr nd)) (fun k => by rw [pn.mem_iff, ← hm k]) ?_⟩
  · have q := k1 b u e
    have hlt := Heap.lt_size q
    show (sortedHeap (s1.heap.push (seqObj "list" vs.toArray 0)) s1.heap.objs.size vs out0.toArray).get? b = some u
    rw [sortedHeap_old (Nat.ne_of_lt hlt) (by rw [size_push']; exact Nat.lt_succ_of_lt hlt)]
    exact Heap.get?_push_of_some _ q
  · rw [pn.length_eq, List.length_map, Array.length_toList]; exact hn
end
section
variable {X : Cx}
def rSortedSetA (w : World) : List V → Hp → VK → Prop := fun vs H Q => ∃ (a : Addr) (S : Int → Bool) (n : Nat), vs = [V.ref a] ∧ H a = some (SetO w a S n) ∧ n ≤ sizeLine ∧
  ∀ (ns : List Int) (p : Addr), ns.Pairwise (· < ·) → (∀ k : Int, k ∈ ns ↔ S k = true) → ns.length = n → H p = none → Q (.ref p) (upd H p (.lst (ns.map V.int)))
theorem cr_sortedSetA (hc : X.calm = true) : CallR X (.builtin "sorted") (rSortedSetA X.w) := by
  intro pins s σ H vs us Q I r h
  obtain ⟨a, S, n, rfl, ha, h64, q⟩ := h
  have R := setO_get I ha
  rw [Vals.ref1 r]
  refine sorted_setA R (I.ok.hd hc) h64 fun s' p out c ns k g o hp hg hi hs hm hl => ?_
  have hlen : (ns.map V.int).length ≤ sizeLine := by rw [List.length_map, hl]; exact h64
  have hn : H p = none := I.hok.fresh hp
  have J : Inv X pins σ (upd H p (.lst (ns.map V.int))) { s with heap := s'.heap, gens := s'.gens, drawn := s'.drawn, toks := s'.toks } :=
    I.call (ch := []) (Un.laid k hp hn) (I.hok.laid k hp ⟨hlen, out.toList, c, vals_of_ints hi, hg⟩) (by rw [g]; exact I.bare) (fun _ z => nomatch z)
  have e : s' = { s with heap := s'.heap, gens := s'.gens, drawn := s'.drawn, toks := s'.toks } := by
    cases s'
    cases s
    cases o
    rfl
  rw [e]
  exact ⟨.ref p, _, J, rfl, q ns p hs hm hl hn⟩
end
end L2

/-! PL: max of a list of ints. -/
namespace PL
open PySem PySem.Spec L2 PySem.W PyProof.Rows PySem.Calls
section
variable {X : Cx} {e : Expr} {ta : TPA} {pf pos : Pos}
def oMaxL : OL := fun ds R => match ds with | [.lst xs] => (match asInts xs with | some ns => 0 < ns.length ∧ ∀ m, m ∈ ns → (∀ y, y ∈ ns → y ≤ m) → R (.int m) | none => False) | _ => False
theorem de_maxL (hm : X.mg "max" = none) (hg : Gl X "max") (ha : SA X [e] ta) (hc : X.calm = true := by rfl) (he : starEach [e] X.env = (false, eval e X.env) :: starEach [] X.env := by rfl) : DE X (.Call (.Name "max" pf) [e] [] pos) (pCall oMaxL ta) := by
  refine de_callB (cr_max hc) (fun g n F H σ ρ xs ds R Q hK ok r q k => ?_) hg hm (by decide +kernel) ha (he := he) (hpl := rfl)
  match ds, r, q with
  | [.lst zs], .cons r .nil, q =>
    have q : (match asInts zs with | some ns => 0 < ns.length ∧ ∀ m, m ∈ ns → (∀ y, y ∈ ns → y ≤ m) → R (.int m) | none => False) := q
    split at q
    · rename_i ns hz
      obtain ⟨l, xs, rfl, e1, t1⟩ := r.lst ok
      have e2 := t1.intsV hz
      subst e2
      exact ⟨l, ns, rfl, SqL.of e1, q.1, fun m h1 h2 => k F H _ _ (Same.refl F) ok (.int _) (q.2 m h1 h2)⟩
    · exact q.elim
end
end PL

/-! PL: zip(a, b, strict=True) of two tuples of one length. -/
namespace ZS
open PySem
/-- a strict zip, what it last gave -/
abbrev Zs (h : Heap) (z t u : Addr) (f : Value) : Prop := h.get? z = some { cls := .type "zip", dict := none, data := .fields #[f, .bool false, .bool true, .ref t, .ref u], slots := #[] }
section
variable {P : Program} {w : World} {A : Around} {E : Value → Shared → Prop} {s : Shared} {it l : Addr} {i : Nat} {vs : Array Value}
theorem draw_item {x : Value} {Q : Option Value → Shared → Prop} (g1 : s.heap.IsTupleIter it l i) (g2 : s.heap.IsTuple l vs) (g3 : vs[i]? = some x)
    (k : ∀ h', h'.IsTupleIter it l (i + 1) → Heap.SameBut it s.heap h' → Q (some x) { s with heap := h' }) : wpAny (model P w) A (Builtin.SmallTypes.nextOrEnd (.ref it)) Q E s := by
  unfold Builtin.SmallTypes.nextOrEnd
  exact wpAny_bind (wpAny_attempt (RZ.nextOf_tuple_item g1 g2 g3 fun h' a b => wpAny_pure (k h' a b)))
theorem draw_end {Q : Option Value → Shared → Prop} (hh : A.handled = none) (g1 : s.heap.IsTupleIter it l i) (g2 : s.heap.IsTuple l vs) (g3 : vs[i]? = none)
    (k : ∀ h', Heap.ExtBut it s.heap h' → Q none { s with heap := h' }) : wpAny (model P w) A (Builtin.SmallTypes.nextOrEnd (.ref it)) Q E s := by
  unfold Builtin.SmallTypes.nextOrEnd
  refine wpAny_bind (wpAny_attempt (RZ.nextOf_tuple_end hh g1 g2 g3 fun h' e a ⟨o, e1, e2⟩ => ?_))
  exact wpAny_bind (wpAny_isInstance (T := "StopIteration") (b := true) ⟨o, e1, e2⟩ isSubtype_stop (wpAny_pure (k h' a)))
variable {z t u p q l2 : Addr} {m : Nat} {ws : Array Value} {c d : Value}
theorem next_item {x y : Value} {Q : Value → Shared → Prop} (S : ZipApart z t u p q l l2) (gz : Zs s.heap z t u .none) (gt : IsPair s.heap t (.ref p) (.ref q)) (gu : IsPair s.heap u c d)
    (g1 : s.heap.IsTupleIter p l i) (g2 : s.heap.IsTupleIter q l2 m) (e1 : s.heap.IsTuple l vs) (e2 : s.heap.IsTuple l2 ws) (gx : vs[i]? = some x) (gy : ws[m]? = some y)
    (k : ∀ h', Zs h' z t u (rawInt s.heap.objs.size) → IsPair h' u x y → h'.IsTupleIter p l (i + 1) → h'.IsTupleIter q l2 (m + 1) → IsPair h' s.heap.objs.size x y →
      (∀ b o, b ≠ z → b ≠ u → b ≠ p → b ≠ q → s.heap.get? b = some o → h'.get? b = some o) → Q (.ref s.heap.objs.size) { s with heap := h' }) :
    wpAny (model P w) A (Builtin.«zip.__next__» ⟨[.ref z], []⟩) (fun r s' => ∃ v, r = .done (.ret v) ∧ Q v s') E s := by
  show wpAny _ _ (field (.ref z) 2 >>= _) _ E s
  refine wpAny_bind (wpAny_field gz rfl (x := .bool true) rfl ?_)
  show wpAny _ _ (field (.ref z) 3 >>= _) _ E s
  refine wpAny_bind (wpAny_field gz rfl (x := .ref t) rfl ?_)
  refine wpAny_bind (wpAny_seqItems gt rfl ?_)
  show wpAny _ _ (Builtin.SmallTypes.ownedTupleIsFree (.ref z) >>= _) _ E s
  refine wpAny_bind (α := Bool) ?_
  unfold Builtin.SmallTypes.ownedTupleIsFree
  refine wpAny_bind (wpAny_field gz rfl (x := .none) rfl (wpAny_pure ?_))
  simp only [if_true]
  refine wpAny_bind (wpAny_rule (wpAny_bind (wpAny_field gz rfl (x := .ref u) rfl ?_)))
  refine wpAny_bind (wpAny_setField_rec gz (by simp) fun h1 z1 s1 => ?_)
  have z1 : Zs h1 z t u .ellipsis := z1
  refine wpAny_bind ?_
  simp only [List.zipIdx_cons, List.zipIdx_nil, List.forIn_cons, List.forIn_nil]
  refine wpAny_bind (wpAny_bind (wpAny_onRaise ?_))
  show wpAny _ _ (Builtin.SmallTypes.nextOrEnd (.ref p)) _ _ _
  refine draw_item (g1.extBut s1.extBut S.i1z) (e1.extBut s1.extBut S.l1z) gx fun h2 p2 s2 => ?_
  have u2 : IsPair h2 u c d := s2.extBut _ _ S.TOi1 (s1.extBut _ _ S.TOz gu)
  refine wpAny_bind (wpAny_seqItems u2 rfl (wpAny_bind (wpAny_updateSeq_pair u2 fun h3 u3 s3 => ?_)))
  have u3 : IsPair h3 u x d := u3
  refine wpAny_bind (wpAny_letGo (wpAny_pure (wpAny_bind (wpAny_bind (wpAny_onRaise ?_)))))
  show wpAny _ _ (Builtin.SmallTypes.nextOrEnd (.ref q)) _ _ _
  have k3 : ∀ b o, b ≠ z → b ≠ p → b ≠ u → s.heap.get? b = some o → h3.get? b = some o := fun b o b1 b2 b3 e => s3.extBut _ _ b3 (s2.extBut _ _ b2 (s1.extBut _ _ b1 e))
  refine draw_item (g2.at fun o e => k3 q o S.i2z S.i12.symm S.TOi2.symm e) (((e2.extBut s1.extBut S.l2z).extBut s2.extBut S.l2i1).extBut s3.extBut S.l2TO) gy fun h4 q4 s4 => ?_
  have u4 : IsPair h4 u x d := s4.extBut _ _ S.TOi2 u3
  refine wpAny_bind (wpAny_seqItems u4 rfl (wpAny_bind (wpAny_updateSeq_pair u4 fun h5 u5 s5 => ?_)))
  have u5 : IsPair h5 u x y := u5
  refine wpAny_bind (wpAny_letGo (wpAny_pure (wpAny_pure (wpAny_bind (wpAny_seqItems u5 rfl (wpAny_bind (wpAny_newTuple ?_)))))))
  have size5 : h5.objs.size = s.heap.objs.size := by rw [s5.1, s4.1, s3.1, s2.1, s1.1]
  have k5 : ∀ b o, b ≠ z → b ≠ u → b ≠ p → b ≠ q → s.heap.get? b = some o → h5.get? b = some o := fun b o b1 b2 b3 b4 e => s5.extBut _ _ b2 (s4.extBut _ _ b4 (k3 b o b1 b3 b2 e))
  have z5 : Zs h5 z t u .ellipsis := s5.extBut _ _ S.TOz.symm (s4.extBut _ _ S.i2z.symm (s3.extBut _ _ S.TOz.symm (s2.extBut _ _ S.i1z.symm z1)))
  have p5 : h5.IsTupleIter p l (i + 1) := ((p2.extBut s3.extBut S.TOi1.symm).extBut s4.extBut S.i12).extBut s5.extBut S.TOi1.symm
  have q5 : h5.IsTupleIter q l2 (m + 1) := q4.extBut s5.extBut S.TOi2.symm
  have lz : z < h5.objs.size := Heap.lt_size z5
  show wpAny _ _ (Builtin.SmallTypes.ownedTupleHandOut (.ref z) (.ref h5.objs.size) >>= _) _ E _
  refine wpAny_bind ?_
  unfold Builtin.SmallTypes.ownedTupleHandOut
  refine wpAny_bind (wpAny_setField_rec (show Zs (h5.push { cls := .type "tuple", data := .seq #[x, y] }) z t u .ellipsis from Heap.get?_push_of_some _ z5) (by simp) fun h7 z7 s7 => ?_)
  have z7 : Zs h7 z t u (rawInt h5.objs.size) := z7
  refine wpAny_setField_rec z7 (by simp) fun h8 z8 s8 => wpAny_pure ⟨_, rfl, ?_⟩
  have z8 : Zs h8 z t u (rawInt h5.objs.size) := z8
  have up : ∀ b o, b ≠ z → h5.get? b = some o → h8.get? b = some o := fun b o b1 e => s8.extBut _ _ b1 (s7.extBut _ _ b1 (Heap.get?_push_of_some _ e))
  have t8 : IsPair h8 h5.objs.size x y := s8.extBut _ _ (Nat.ne_of_gt lz) (s7.extBut _ _ (Nat.ne_of_gt lz) (Heap.get?_push_size _ rfl))
  rw [size5] at z8 t8
  show Q (.ref h5.objs.size) _
  rw [size5]
  exact k h8 z8 (up _ _ S.TOz u5) (p5.at fun o e => up _ o S.i1z e) (q5.at fun o e => up _ o S.i2z e) t8 fun b o b1 b2 b3 b4 e => up b o b1 (k5 b o b1 b2 b3 b4 e)
theorem next_end {Q : Fin → Shared → Prop} (hh : A.handled = none) (S : ZipApart z t u p q l l2) (gz : Zs s.heap z t u .none) (gt : IsPair s.heap t (.ref p) (.ref q)) (gu : IsPair s.heap u c d)
    (g1 : s.heap.IsTupleIter p l i) (g2 : s.heap.IsTupleIter q l2 m) (e1 : s.heap.IsTuple l vs) (e2 : s.heap.IsTuple l2 ws) (gx : vs[i]? = none) (gy : ws[m]? = none)
    (k : ∀ h' e, (∀ b o, b ≠ z → b ≠ u → b ≠ p → b ≠ q → s.heap.get? b = some o → h'.get? b = some o) → (∃ o, h'.get? e = some o ∧ o.cls = .type "StopIteration") → E (.ref e) { s with heap := h' }) :
    wpAny (model P w) A (Builtin.«zip.__next__» ⟨[.ref z], []⟩) Q E s := by
  show wpAny _ _ (field (.ref z) 2 >>= _) _ E s
  refine wpAny_bind (wpAny_field gz rfl (x := .bool true) rfl ?_)
  show wpAny _ _ (field (.ref z) 3 >>= _) _ E s
  refine wpAny_bind (wpAny_field gz rfl (x := .ref t) rfl ?_)
  refine wpAny_bind (wpAny_seqItems gt rfl ?_)
  show wpAny _ _ (Builtin.SmallTypes.ownedTupleIsFree (.ref z) >>= _) _ E s
  refine wpAny_bind (α := Bool) ?_
  unfold Builtin.SmallTypes.ownedTupleIsFree
  refine wpAny_bind (wpAny_field gz rfl (x := .none) rfl (wpAny_pure ?_))
  simp only [if_true]
  refine wpAny_bind (wpAny_rule (wpAny_bind (wpAny_field gz rfl (x := .ref u) rfl ?_)))
  refine wpAny_bind (wpAny_setField_rec gz (by simp) fun h1 z1 s1 => ?_)
  have z1 : Zs h1 z t u .ellipsis := z1
  refine wpAny_bind ?_
  simp only [List.zipIdx_cons, List.zipIdx_nil, List.forIn_cons, List.forIn_nil]
  refine wpAny_bind (wpAny_bind (wpAny_onRaise ?_))
  show wpAny _ _ (Builtin.SmallTypes.nextOrEnd (.ref p)) _ _ _
  refine draw_end hh (g1.extBut s1.extBut S.i1z) (e1.extBut s1.extBut S.l1z) gx fun h2 s2 => ?_
  have z2 : Zs h2 z t u .ellipsis := s2 _ _ S.i1z.symm z1
  refine wpAny_bind (wpAny_setField_rec z2 (by simp) fun h3 z3 s3 => wpAny_bind ?_)
  have k3 : ∀ b o, b ≠ z → b ≠ p → s.heap.get? b = some o → h3.get? b = some o := fun b o b1 b2 e => s3.extBut _ _ b1 (s2 _ _ b2 (s1.extBut _ _ b1 e))
  show wpAny _ _ (forIn [((Value.ref q), 1)] _ _ >>= _) _ _ _
  refine wpAny_bind ?_
  simp only [List.forIn_cons, List.forIn_nil]
  refine wpAny_bind (wpAny_bind ?_)
  have ql : h3.IsTuple l2 ws := e2.at fun o e => k3 l2 o S.l2z S.l2i1 e
  refine draw_end hh (g2.at fun o e => k3 q o S.i2z S.i12.symm e) ql gy fun h4 s4 => wpAny_pure (wpAny_pure (wpAny_bind (wpAny_rule ?_)))
  show wpAny _ _ (newExc (.type "StopIteration") [] >>= _) _ E _
  refine wpAny_bind ?_
  simp only [newExc, newTuple]
  refine wpAny_bind (wpAny_newObj_type ?_ (by size_fits))
  refine wpAny_bind (m := firstArgMember _ _) (wpAny_of_eq (a := Value.none) (by first | rfl | (simp only [firstArgMember]; rfl)) (wpAny_newObj_type ?_ (by size_fits)))
  simp only [raiseNew]
  refine wpAny_bind (wpAny_handled ?_)
  first | rw [show A.in1.handled = none from hh] | rw [hh]
  refine wpAny_bind (wpAny_pure (wpAny_throw ?_))
  exact k _ _ (fun b o b1 b2 b3 b4 e => Heap.get?_push_of_some _ (Heap.get?_push_of_some _ (s4 _ _ b4 (k3 b o b1 b3 e)))) ⟨_, Heap.get?_push_size _ rfl, rfl⟩
theorem pyNext_item {x y : Value} {Q : Option Value → Shared → Prop} (S : ZipApart z t u p q l l2) (gz : Zs s.heap z t u .none) (gt : IsPair s.heap t (.ref p) (.ref q)) (gu : IsPair s.heap u c d)
    (g1 : s.heap.IsTupleIter p l i) (g2 : s.heap.IsTupleIter q l2 m) (e1 : s.heap.IsTuple l vs) (e2 : s.heap.IsTuple l2 ws) (gx : vs[i]? = some x) (gy : ws[m]? = some y)
    (k : ∀ h', Zs h' z t u (rawInt s.heap.objs.size) → IsPair h' u x y → h'.IsTupleIter p l (i + 1) → h'.IsTupleIter q l2 (m + 1) → IsPair h' s.heap.objs.size x y →
      (∀ b o, b ≠ z → b ≠ u → b ≠ p → b ≠ q → s.heap.get? b = some o → h'.get? b = some o) → Q (some (.ref s.heap.objs.size)) { s with heap := h' }) :
    wpAny (model P w) A (pyNext (.ref z)) Q E s := by
  have T : s.TypeIs (.ref z) "zip" := ⟨_, gz, rfl⟩
  unfold pyNext
  exact wpAny_bind (wpAny_attempt (wpAny_callSpecial?_slot (name := Str.ofString "__next__") T F.slot_zip_next (wpAny_call_entry F.slot_zip_next T F.entry_zip_next
    (next_item S gz gt gu g1 g2 e1 e2 gx gy fun h' a1 a2 a3 a4 a5 a6 => wpAny_pure (k h' a1 a2 a3 a4 a5 a6)) (F.args_zip_next_1 _))))
theorem pyNext_end {Q : Option Value → Shared → Prop} (hh : A.handled = none) (S : ZipApart z t u p q l l2) (gz : Zs s.heap z t u .none) (gt : IsPair s.heap t (.ref p) (.ref q)) (gu : IsPair s.heap u c d)
    (g1 : s.heap.IsTupleIter p l i) (g2 : s.heap.IsTupleIter q l2 m) (e1 : s.heap.IsTuple l vs) (e2 : s.heap.IsTuple l2 ws) (gx : vs[i]? = none) (gy : ws[m]? = none)
    (k : ∀ h', (∀ b o, b ≠ z → b ≠ u → b ≠ p → b ≠ q → s.heap.get? b = some o → h'.get? b = some o) → Q none { s with heap := h' }) :
    wpAny (model P w) A (pyNext (.ref z)) Q E s := by
  have T : s.TypeIs (.ref z) "zip" := ⟨_, gz, rfl⟩
  unfold pyNext
  refine wpAny_bind (wpAny_attempt (wpAny_callSpecial?_slot (name := Str.ofString "__next__") T F.slot_zip_next (wpAny_call_entry F.slot_zip_next T F.entry_zip_next
    (next_end hh S gz gt gu g1 g2 e1 e2 gx gy fun h' e a1 ⟨o, a2, a3⟩ => ?_) (F.args_zip_next_1 _))))
  exact wpAny_bind (wpAny_isInstance (T := "StopIteration") (b := true) ⟨o, a2, a3⟩ isSubtype_stop (wpAny_pure (k h' a1)))
theorem go_tuple {elts : List Expr} {x1 : Nat} {pos : Pos} {T : Addr} {Q : Unit → Shared → Prop} (gz : Zs s.heap z t u (rawInt T)) (k : ∀ h', Zs h' z t u .none → Heap.SameBut z s.heap h' → Q () { s with heap := h' }) :
    wpAny (model P w) A (letOwnedTupleGo (.Tuple elts x1 pos) (.ref z) (.ref T)) Q E s := by
  unfold letOwnedTupleGo
  refine wpAny_bind (wpAny_load gz ?_)
  show wpAny _ _ (if (List.contains _ "zip" && (#[rawInt T, .bool false, .bool true, .ref t, .ref u] : Array Value)[0]? == some (rawInt T)) = true then _ else _) Q E s
  rw [if_pos (by simp)]
  refine wpAny_bind (wpAny_rule ?_)
  show wpAny _ _ (setField (.ref z) 0 .none) Q E s
  exact wpAny_setField_rec gz (by simp) fun h' a b => k h' a b
theorem iter_self {f : Value} {Q : Value → Shared → Prop} (gz : Zs s.heap z t u f) (k : Q (.ref z) s) : wpAny (model P w) A (pyIter (.ref z)) Q E s := by
  have T : s.TypeIs (.ref z) "zip" := ⟨_, gz, rfl⟩
  refine wpAny_pyIter_slot T F.slot_zip_iter (wpAny_call_entry F.slot_zip_iter T F.entry_zip_iter ?_ (F.args_zip_iter_1 _))
  show wpAny _ _ (ret (.ref z)) _ E s
  exact wpAny_pure ⟨_, rfl, "zip", _, T, F.slot_zip_next.lookup, k⟩
end
abbrev kS : Str := Str.ofString "strict"
abbrev H1 (h : Heap) (l : Addr) : Heap := h.push { cls := .type "tuple_iterator", data := .fields #[.ref l, .int 0 0] }
abbrev H3 (h : Heap) (l l2 : Addr) : Heap := (H1 (H1 h l) l2).push { cls := .type "tuple", data := .seq #[.ref h.objs.size, .ref (H1 h l).objs.size] }
abbrev H4 (h : Heap) (l l2 : Addr) : Heap := (H3 h l l2).push { cls := .type "tuple", data := .seq #[.none, .none] }
abbrev H5 (h : Heap) (l l2 : Addr) : Heap := (H4 h l l2).push { cls := .type "zip", data := .fields #[.none, .bool false, .bool true, .ref (H1 (H1 h l) l2).objs.size, .ref (H3 h l l2).objs.size] }
theorem meets_new (l l2 : Addr) (xs ys : Array Value) : Meets (Builtin.«zip.__new__» ⟨[.type "zip", .ref l, .ref l2], [(kS, .bool true)]⟩) (fun _ R s => s.heap.IsTuple l xs ∧ s.heap.IsTuple l2 ys ∧
      R (.ok (.ret (.ref (H4 s.heap l l2).objs.size))) { s with heap := H5 s.heap l l2 }) :=
  .of_wp fun prog w A R s h => by
    obtain ⟨hp, g, d, tk, os⟩ := s
    obtain ⟨a1, a2, h⟩ := h
    have hsub := sub_zip
    have b1 : Heap.IsTuple (Shared.heap ⟨hp, g, d, tk, os⟩) l xs := a1
    have b2 : Heap.IsTuple (Shared.heap ⟨H1 hp l, g, d, tk, os⟩) l2 ys := Heap.IsTuple.push a2 _
    have e1 : (Str.ofString "strict" != ("strict" : Str)) = false := by decide +kernel
    have e2 : (kS != ("strict" : Str)) = false := by decide +kernel
    wp_walk using wpAny_pyIter_tuple b1, wpAny_pyIter_tuple b2
    exact ⟨_, rfl, h⟩
section
variable {P : Program} {w : World} {A : Around} {E : Value → Shared → Prop} {s : Shared}
theorem call_new {l l2 : Addr} {xs ys : Array Value} {Q : Value → Shared → Prop} (a1 : s.heap.IsTuple l xs) (a2 : s.heap.IsTuple l2 ys)
    (k : ∀ h', Zs h' (s.heap.objs.size + 4) (s.heap.objs.size + 2) (s.heap.objs.size + 3) .none → IsPair h' (s.heap.objs.size + 2) (.ref s.heap.objs.size) (.ref (s.heap.objs.size + 1)) → IsPair h' (s.heap.objs.size + 3) .none .none →
      h'.IsTupleIter s.heap.objs.size l 0 → h'.IsTupleIter (s.heap.objs.size + 1) l2 0 → (∀ b o, s.heap.get? b = some o → h'.get? b = some o) → Q (.ref (s.heap.objs.size + 4)) { s with heap := h' }) :
    wpAny (model P w) A (call (.type "zip") [.ref l, .ref l2] [(kS, .bool true)]) Q E s := by
  refine callType_newKw F.called_zip (by decide) (by kernel_rfl) (by kernel_rfl) (fun obj => by unfold argsOk; kernel_rfl) F.entry_zip_new (meets_new l l2 xs ys) ⟨a1, a2, ?_⟩
  have n1 : (H1 s.heap l).objs.size = s.heap.objs.size + 1 := Heap.size_push ..
  have n2 : (H1 (H1 s.heap l) l2).objs.size = s.heap.objs.size + 2 := by rw [Heap.size_push, n1]
  have n3 : (H3 s.heap l l2).objs.size = s.heap.objs.size + 3 := by rw [Heap.size_push, n2]
  have n4 : (H4 s.heap l l2).objs.size = s.heap.objs.size + 4 := by rw [Heap.size_push, n3]
  have c5 : (H5 s.heap l l2).get? (H4 s.heap l l2).objs.size = some _ := Heap.get?_push_size _ rfl
  have c4 : (H5 s.heap l l2).get? (H3 s.heap l l2).objs.size = some _ := Heap.get?_push_of_some _ (Heap.get?_push_size _ rfl)
  have c3 : (H5 s.heap l l2).get? (H1 (H1 s.heap l) l2).objs.size = some _ := Heap.get?_push_of_some _ (Heap.get?_push_of_some _ (Heap.get?_push_size _ rfl))
  have c2 : (H5 s.heap l l2).get? (H1 s.heap l).objs.size = some _ := Heap.get?_push_of_some _ (Heap.get?_push_of_some _ (Heap.get?_push_of_some _ (Heap.get?_push_size _ rfl)))
  have c1 : (H5 s.heap l l2).get? s.heap.objs.size = some _ := Heap.get?_push_of_some _ (Heap.get?_push_of_some _ (Heap.get?_push_of_some _ (Heap.get?_push_of_some _ (Heap.get?_push_size _ rfl))))
  show _ ∧ _
  rw [n2, n3, n4] at c5
  rw [n1, n2] at c3
  rw [n3] at c4
  rw [n1] at c2
  rw [n4]
  exact ⟨⟨_, c5, rfl⟩, k _ c5 c3 c4 ⟨_, c1, rfl, rfl⟩ ⟨_, c2, rfl, rfl⟩ fun b o e => Heap.get?_push_of_some _ (Heap.get?_push_of_some _ (Heap.get?_push_of_some _ (Heap.get?_push_of_some _ (Heap.get?_push_of_some _ e))))⟩
end
end ZS
namespace PL
open PySem PySem.Spec L2 ZS
/-- the pairs of two tuples of one length -/
def ItS (K : PySem.W.Frag) (a b : Addr) : It :=
  ⟨(RZ.ItzT K a b).go, (RZ.ItzT K a b).yld, fun i H => ∃ xs ys : List V, SqT K H a xs ∧ SqT K H b ys ∧ xs.length ≤ i ∧ ys.length ≤ i⟩
theorem five {c z t u p q : Addr} (h : c ∈ [z, t, u, p, q]) : c = z ∨ c = t ∨ c = u ∨ c = p ∨ c = q := by simpa using h
theorem turn_zipS {P : Program} {w : World} {K : PySem.W.Frag} {elts : List Expr} {kk : Nat} {tpos : Pos} {a b z t u p q : Addr} (D : ZipApart z t u p q a b) :
    Turn P w K (.Tuple elts kk tpos) (ItS K a b) [z, t, u, p, q] z (fun i h => Zs h z t u .none ∧ IsPair h t (.ref p) (.ref q) ∧ (∃ x y, IsPair h u x y) ∧ h.IsTupleIter p a i ∧ h.IsTupleIter q b i) := by
  refine ⟨by simp, fun i h st c hc => ?_, fun i h h' st k => ?_, ?_, ?_, fun A i s Q E st h => ZS.iter_self st.1 h⟩
  · obtain ⟨h1, h2, ⟨x, y, h3⟩, ⟨o1, f1, _, d1⟩, ⟨o2, f2, _, d2⟩⟩ := st
    rcases five hc with rfl | rfl | rfl | rfl | rfl
    · exact ⟨_, h1, fun v e => nomatch e⟩
    · exact ⟨_, h2, fun v e => nomatch e⟩
    · exact ⟨_, h3, fun v e => nomatch e⟩
    · exact ⟨o1, f1, fun v e => by rw [d1] at e; cases e⟩
    · exact ⟨o2, f2, fun v e => by rw [d2] at e; cases e⟩
  · obtain ⟨h1, h2, ⟨x, y, h3⟩, h4, h5⟩ := st
    exact ⟨k z (by simp) _ h1, k t (by simp) _ h2, ⟨x, y, k u (by simp) _ h3⟩, h4.at fun o e => k p (by simp) o e, h5.at fun o e => k q (by simp) o e⟩
  · intro X hP hw hK hc i pins s σ H E I hf st hg
    subst hP hw hK
    obtain ⟨h1, h2, ⟨x0, y0, h3⟩, h4, h5⟩ := st
    obtain ⟨xs, ys, x, y, sx, sy, hx, hy⟩ := hg
    obtain ⟨us, rv, tp, _⟩ := I.tuple sx
    obtain ⟨us2, rv2, tp2, _⟩ := I.tuple sy
    obtain ⟨v1, hv1, r1⟩ := rv.get hx
    obtain ⟨v2, hv2, r2⟩ := rv2.get hy
    have lz : z < s.heap.objs.size := Heap.lt_size h1
    refine ZS.pyNext_item D h1 h2 h3 h4 h5 tp tp2 (x := v1) (y := v2) (by simpa using hv1) (by simpa using hv2) fun h' a1 a2 a3 a4 a5 hk => ⟨_, rfl, ?_⟩
    refine ZS.go_tuple (s := { s with heap := h' }) a1 fun h'' b1 sb => ?_
    have mv : ∀ c o, c ∉ [z, t, u, p, q] → s.heap.get? c = some o → h''.get? c = some o := fun c o hn e => by
      simp only [List.mem_cons, List.not_mem_nil, or_false, not_or] at hn
      exact (sb.2 c hn.1).trans (hk c o hn.1 hn.2.2.1 hn.2.2.2.1 hn.2.2.2.2 e)
    have new : ObjOk X.prog X.w (upd H s.heap.objs.size (.tup [x, y])) h'' s.heap.objs.size (.tup [x, y]) :=
      ⟨by show 2 ≤ sizeLine; decide, [v1, v2], .cons r1 (.cons r2 .nil), ⟨_, (sb.2 _ (Nat.ne_of_gt lz)).trans a5, rfl, _, rfl⟩⟩
    have J := I.turnedNew (t' := s.toks) (ch := [z, t, u, p, q]) mv hf (Nat.le_refl _) new
    refine ⟨.ref s.heap.objs.size, _, J, rfl, ⟨_, x, y, rfl, I.hok.fresh (Nat.le_refl _), rfl, fun l hl => by rw [I.tuple_inj hl sx]; exact hx, fun l hl => by rw [I.tuple_inj hl sy]; exact hy⟩, ⟨b1, ?_, ⟨v1, v2, (sb.2 _ D.TOz).trans a2⟩, a3.at fun o e => (sb.2 _ D.i1z).trans e, a4.at fun o e => (sb.2 _ D.i2z).trans e⟩, fun c hcm => ?_⟩
    · exact (sb.2 _ D.TIz).trans (hk _ _ D.TIz D.TITO D.TIi1 D.TIi2 h2)
    · have hlt : c < s.heap.objs.size := by
        rcases five hcm with rfl | rfl | rfl | rfl | rfl
        · exact lz
        · exact Heap.lt_size h2
        · exact Heap.lt_size h3
        · obtain ⟨_, e, _⟩ := h4; exact Heap.lt_size e
        · obtain ⟨_, e, _⟩ := h5; exact Heap.lt_size e
      rw [upd_ne (Nat.ne_of_lt hlt)]
      exact (hf c hcm).1
  · intro X hP hw hK hc i pins s σ H E I hf st hg
    subst hP hw hK
    obtain ⟨h1, h2, ⟨x0, y0, h3⟩, h4, h5⟩ := st
    obtain ⟨xs, ys, sx, sy, l1, l2⟩ := hg
    obtain ⟨us, rv, tp, _⟩ := I.tuple sx
    obtain ⟨us2, rv2, tp2, _⟩ := I.tuple sy
    have m1 := rv.length
    have m2 := rv2.length
    refine ZS.pyNext_end (I.ok.hd hc) D h1 h2 h3 h4 h5 tp tp2 (by simp; omega) (by simp; omega) fun h' hk => ⟨rfl, I.turnedL (t' := s.toks) (ch := [z, t, u, p, q]) (fun c o hn e => ?_) hf⟩
    simp only [List.mem_cons, List.not_mem_nil, or_false, not_or] at hn
    exact hk c o hn.1 hn.2.2.1 hn.2.2.2.1 hn.2.2.2.2 e
section
variable {X : Cx} {e e2 : Expr} {p pos tpos : Pos} {elts : List Expr} {kk : Nat} {kws : List Keyword} {ta tk : TA}
def iZipS (K : PySem.W.Frag) (ta tk : TA) : TI := fun σ H R => ta σ H fun vs H1 => tk σ H1 fun ks H2 => ∃ a b xs ys, vs = [.ref a, .ref b] ∧ ks = [.bl true] ∧ SqT K H2 a xs ∧ SqT K H2 b ys ∧ R (ItS K a b) H2
theorem pi_zipS (hg : Gl X "zip") (hm : X.mg "zip" = none) (ha : PA X [e, e2] ta) (hk : PK X kws tk) (hs : starEach [e, e2] X.env = (false, eval e X.env) :: starEach [e2] X.env := by rfl)
    (hall : (backToKw pos (keywordEach kws X.env)).all (·.1.isSome) = true := by rfl) (hks : (backToKw pos (keywordEach kws X.env)).filterMap (·.1) = [ZS.kS] := by rfl)
    (hpl : ((backTo pos (starEach [e, e2] X.env)).any (·.1) || (backToKw pos (keywordEach kws X.env)).any (·.1.isNone)) = false := by rfl) :
    PI X (.Tuple elts kk tpos) (.Call (.Name "zip" p) [e, e2] kws pos) (iZipS X.K ta tk) := by
  constructor
  intro pins s σ H R I h
  refine wpAny_Call_Name_kw (ld_blt I hg hm PyProof.Rows.boot_zip (callWith_tyK hall (thn (ha.run pos pins s σ H _ I h) fun us s1 ⟨vs, H1, I1, r1, q1⟩ => thn (hk.run pos pins s1 σ H1 _ I1 q1) fun ws s2 ⟨zs, H2, I2, r2, q2⟩ => ⟨trivial, ?_⟩) hpl hs))
  obtain ⟨a, b, xs, ys, rfl, rfl, sx, sy, q⟩ := q2
  rw [hks]
  cases r1 with
  | cons ra rr =>
  cases rr with
  | cons rb rr =>
  cases rr
  cases r2 with
  | cons rc rr =>
  cases rr
  cases ra
  cases rb
  cases (show _ = Value.bool true from rc)
  obtain ⟨us, rv, tp, _⟩ := I2.tuple sx
  obtain ⟨us2, rv2, tp2, _⟩ := I2.tuple sy
  obtain ⟨o1, ho1, _⟩ := id tp
  obtain ⟨o2, ho2, _⟩ := id tp2
  refine ZS.call_new (show s2.heap.IsTuple a us.toArray from tp) (show s2.heap.IsTuple b us2.toArray from tp2) fun h' a1 a2 a3 a4 a5 hk => ZS.iter_self a1 ?_
  refine ⟨s2.heap.objs.size + 4, [s2.heap.objs.size + 4, s2.heap.objs.size + 2, s2.heap.objs.size + 3, s2.heap.objs.size, s2.heap.objs.size + 1], _, _, H2, rfl, I2.kept (t' := s2.toks) hk, turn_zipS (PySem.W.ktu_apart s2.heap.objs.size a b (Heap.lt_size ho1) (Heap.lt_size ho2)), ⟨a1, a2, ⟨_, _, a3⟩, a4, a5⟩, fun c hc => ?_, q⟩
  have hle : s2.heap.objs.size ≤ c := by
    rcases five hc with rfl | rfl | rfl | rfl | rfl
    · exact Nat.le_add_right _ _
    · exact Nat.le_add_right _ _
    · exact Nat.le_add_right _ _
    · exact Nat.le_refl _
    · exact Nat.le_add_right _ _
  exact I2.fpOk hle (I2.hok.fresh hle)
end
section
variable {X : Cx} {e e2 : Expr} {pos : Pos} {ta tk : TPA}
def pZipS (t u : TPA) : TPA := fun ρ n S => t ρ n fun ds m => u ρ m fun ks m2 => match ds, ks with
  | [.tup xs, .tup ys], [.bl true] => xs.length = ys.length ∧ S (pairs xs ys) m2
  | _, _ => False
theorem di_zipS {pf tpos : Pos} {elts : List Expr} {kk : Nat} {kws : List Keyword} (hm : X.mg "zip" = none) (hg : Gl X "zip") (ha : DA X [e, e2] ta) (hk : DK X kws tk) (hs : starEach [e, e2] X.env = (false, eval e X.env) :: starEach [e2] X.env := by rfl)
    (hall : (backToKw pos (keywordEach kws X.env)).all (·.1.isSome) = true := by rfl) (hks : (backToKw pos (keywordEach kws X.env)).filterMap (·.1) = [ZS.kS] := by rfl)
    (hpl : ((backTo pos (starEach [e, e2] X.env)).any (·.1) || (backToKw pos (keywordEach kws X.env)).any (·.1.isNone)) = false := by rfl) : DI X (.Tuple elts kk tpos) (.Call (.Name "zip" pf) [e, e2] kws pos) (pZipS ta tk) := fun g hK => (pi_zipS hg hm (ha g hK) (hk g hK) hs hall hks hpl).imp fun σ H R ⟨n, F, ρ, S, ok, h, k⟩ =>
  ⟨n, F, ρ, _, ok, h, fun n1 F1 H1 vs ds s1 ok1 r1 h1 => ⟨n1, F1, ρ, _, ok1, h1, fun n2 F2 H2 zs ks s2 ok2 r2 h2 => by
    match ds, r1, ks, r2, h2 with
    | [.tup xs, .tup ys], .cons (.tup (a := p) (xs := us) e1 t1) (.cons (.tup (a := q) (xs := ws) e2 t2) .nil), [.bl true], .cons (.bl _) .nil, h2 =>
      rw [hK] at e1 e2
      have e1 := Same.seqT s2 e1
      have e2 := Same.seqT s2 e2
      have t1 := t1.mono s2
      have t2 := t2.mono s2
      refine ⟨p, q, us, ws, rfl, rfl, Same.seqT ok2.sub e1, Same.seqT ok2.sub e2, k n2 F2 H2 _ _ (s1.trans s2) ok2 h2.2 ?_⟩
      intro g' m F3 H3 σ3 ρ3 hc s3 ok3
      have q1 : SqT X.K H3 p us := Same.seqT ok3.sub (Same.seqT s3 e1)
      have q2 : SqT X.K H3 q ws := Same.seqT ok3.sub (Same.seqT s3 e2)
      refine ⟨⟨us, ws, q1, q2, ?_, ?_⟩, fun i d hd => ?_⟩
      · rw [pairs_len, t1.length]; omega
      · rw [pairs_len, t2.length]; omega
      · obtain ⟨x, y, hx, hy, rfl⟩ := pairs_get _ _ i hd
        obtain ⟨u, hu, ru⟩ := t1.get hx
        obtain ⟨w, hw, rw⟩ := t2.get hy
        refine ⟨⟨us, ws, u, w, q1, q2, hu, hw⟩, fun v H4 hv => ?_⟩
        obtain ⟨T, u', w', rfl, hT, rfl, f1, f2⟩ := hv
        have z1 := f1 us q1
        have z2 := f2 ws q2
        rw [hu] at z1
        rw [hw] at z2
        cases z1
        cases z2
        exact ⟨upd F3 T _, ok3.sameF _ hT, ok3.alloc _ hT, .tup (SqT.of upd_same) (.cons ((ru.mono s3).mono (ok3.sameF _ hT)) (.cons ((rw.mono s3).mono (ok3.sameF _ hT)) .nil))⟩⟩⟩
end
end PL

/-! PL: sorted({e for .. in .. if ..}), e whole numbers. -/
namespace PL
open PySem PySem.Spec L2
/-- a number goes into a set of numbers -/
theorem setI_add {X : Cx} {pins : List (Addr × Obj)} {σ : L2.St} {H : Hp} {s : Shared} {E : Value → Shared → Prop} {D : Addr} {S : Int → Bool} {n : Nat} {k : Int} {tk : Tok} {Q : Value → Shared → Prop} (I : Inv X pins σ H s) (hD : H D = some (SetO X.w D S n)) (hn : n + 1 < scanBound)
    (h : ∀ s', Inv X pins σ (upd H D (SetO X.w D (fun j => S j || decide (j = k)) (if S k = true then n else n + 1))) s' → Q .none s') : wpAny (model X.prog X.w) X.A (call (.builtin "set.add") [.ref D, .int k tk]) Q E s := by
  refine setR_add (setO_get I hD) hn fun h' sb nw => h _ ?_
  have ex : ∃ u, h'.get? D = some u := let ⟨o, _, _, _, q, _⟩ := nw; ⟨o, q⟩
  exact I.write (e := D) (t' := s.toks + 1) (by rw [hD]; exact True.intro) (Or.inl rfl) (fun b u z q => (sb.2 b z).trans q) ex (setO_new nw)
/-- as a dict comprehension, the new set at D -/
def tScI (w : World) (wi : TI) (g : TG) (tt : TT) (te : TE) (vs : List Nat) : TE := fun σ H Q => wi σ H fun J H1 => ∀ D, H1 D = none → ∃ W : Nat → Nat → Hp → Prop, (∃ m, W 0 m (upd H1 D (SetO w D (fun _ => false) 0))) ∧ ∀ i m H, W i m H →
  (J.stop i H ∧ Q (.ref D) H) ∨ (J.go i H ∧ ∃ Nx : Hp → Prop, (∀ H', Nx H' → ∃ m', m' < m ∧ W (i + 1) m' H') ∧ ∀ x H', J.yld i H x H' → g x (wipe σ vs) H' fun σ2 H2 => wipe σ2 vs = wipe σ vs ∧ tt σ2 H2 fun b H3 =>
    if b = true then te σ2 H3 fun y H4 => ∃ (k : Int) (S : Int → Bool) (n : Nat), y = .int k ∧ H4 D = some (SetO w D S n) ∧ n + 1 < scanBound ∧ Nx (upd H4 D (SetO w D (fun j => S j || decide (j = k)) (if S k = true then n else n + 1))) else Nx H3)
section
variable {X : Cx} {elt tg iter : Expr} {ifs : List Expr} {scope : Scope} {own : List (Str × Nat)} {pos : Pos} {wi : TI} {g : TG} {tt : TT} {te : TE}
theorem scI_run {pins : List (Addr × Obj)} {s : Shared} {σ : L2.St} {H : Hp} {Q : VK} (hc : X.calm = true) (hN : X.N.Nodup) (I : Inv X pins σ H s) (hi : PI X tg iter wi) (bk : BlkOk X.N X.env.scope scope own)
    (hg : AtBlk X scope fun Y => PG Y tg g) (ht : AtBlk X scope fun Y => PTs Y ifs tt) (hv : AtBlk X scope fun Y => PE Y elt te) (hs : ∀ x, foldedSetIterable iter X.env x = pure x)
    (h : tScI X.w wi g tt te (own.map (·.2)) σ H Q) :
    wpAny (model X.prog X.w) X.A (eval (.SetComp elt [⟨tg, iter, ifs, 0⟩] scope pos) X.env) (EP X pins σ Q) X.xe s := by
  rw [PpSet.eval_SetComp]
  have free : ∀ y ∈ scope.names, y.2 = .free → ∃ c, X.env.cells.lookup y.1 = some c := fun y hy e => (bk.free y hy e).elim (fun z => I.ok.has _ (.inl z)) fun z => I.ok.has _ (.inr z)
  refine wpAny_comprehension_free rfl hs (closure_ok free) bk.kind (fun y hy e => by rw [bk.uniq y hy, e]) (thn (hi.run pins s σ H _ I h) fun xv s1 hx => thn hx fun itv s2 h2 => ?_)
  obtain ⟨it, fp, tn, J, H2, rfl, I2, T, st2, f2, q⟩ := h2
  refine PpSet.newSet_ok (newEnv_comp ?_)
  obtain ⟨D, hD⟩ : ∃ D : Addr, s2.heap.objs.size = D := ⟨_, rfl⟩
  obtain ⟨W, ⟨m0, w0⟩, turn⟩ := q D (I2.hok.fresh (Nat.le_of_eq hD))
  obtain ⟨s3, h3⟩ : ∃ s3 : Shared, ({ s2 with heap := s2.heap.push { cls := .type "set", dict := none, data := .set #[] 0 (.fresh 0 0 (!X.w.params.followText "set-order")) } } : Shared) = s3 := ⟨_, rfl⟩
  have hp3 : s3.heap = s2.heap.push { cls := .type "set", dict := none, data := .set #[] 0 (.fresh 0 0 (!X.w.params.followText "set-order")) } := by rw [← h3]
  have I3 : Inv X pins σ (upd H2 D (SetO X.w D (fun _ => false) 0)) s3 := by
    rw [← h3, ← hD]
    exact I2.laid (t' := s2.toks) (fun b o e => Heap.get?_push_of_some _ e) (Nat.le_refl _) (setO_new (setR_fresh X.w))
  have lt : ∀ b ∈ fp, b < s2.heap.objs.size := fun b hb => (fun ⟨o, e, _⟩ => Heap.lt_size e) (T.obj _ _ st2 b hb)
  have f3 : ∀ b ∈ fp, FpOk X pins (upd H2 D (SetO X.w D (fun _ => false) 0)) b ∧ b < s3.heap.objs.size := fun b hb => by
    have l := lt b hb
    have ne : b ≠ D := by rw [← hD]; exact Nat.ne_of_lt l
    exact ⟨⟨(upd_ne ne).trans (f2 b hb).1, (f2 b hb).2⟩, by rw [hp3, Heap.size_push]; exact Nat.lt_succ_of_lt l⟩
  have st3 : tn 0 s3.heap := T.keep _ _ _ st2 fun b _ o e => by rw [hp3]; exact Heap.get?_push_of_some _ e
  have I4 := block_start I3 bk hN f3
  have nfp : ∀ b ∈ fp, (upd H2 D (SetO X.w D (fun _ => false) 0)) b = none := fun b hb => (f3 b hb).1.1
  obtain ⟨H3, eH⟩ : ∃ H3 : Hp, upd H2 D (SetO X.w D (fun _ => false) 0) = H3 := ⟨_, rfl⟩
  rw [eH] at I3 I4 w0 nfp f3
  obtain ⟨cl, ecl⟩ : ∃ cl, cellsFrom (s3.heap.objs.size + 1) scope.names (cloFrom X.env.cells scope.names []) = cl := ⟨_, rfl⟩
  rw [ecl] at I4
  have pg := hg s3 H3 s3.heap.objs.size cl fp
  have pt := ht s3 H3 s3.heap.objs.size cl fp
  have pv := hv s3 H3 s3.heap.objs.size cl fp
  obtain ⟨ce, ece⟩ : ∃ ce : Env, compEnvC scope cl s3.heap.objs.size X.env = ce := ⟨_, rfl⟩
  rw [ece] at I4 pg pt pv
  have loc : ce.locals = s3.heap.objs.size := by rw [← ece]; rfl
  obtain ⟨s4, h4⟩ : ∃ s4 : Shared, ({ s3 with heap := pushCells (s3.heap.push { cls := .type "dict", data := .dict #[] }) scope.names } : Shared) = s4 := ⟨_, rfl⟩
  rw [h4] at I4
  refine (fun (z : codeAny (model X.prog X.w) X.A (.compStart (.SetComp elt [⟨tg, iter, ifs, 0⟩] scope pos) 0 (.ref it) (.ref D) (compEnvC scope cl s3.heap.objs.size X.env)) (compPost (model X.prog X.w) X.A X.xe none (EP X pins σ Q) (.ref D) s3.heap.objs.size) { s3 with heap := pushCells (s3.heap.push { cls := .type "dict", data := .dict #[] }) scope.names }) => by
    subst hD h3 ecl
    exact z) ?_
  rw [ece, h4]
  have st4 : tn 0 s4.heap := T.keep _ _ _ st3 fun b _ o e => by rw [← h4]; exact pushCells_keeps _ _ _ _ (Heap.get?_push_of_some _ e)
  have stand : ∀ {σ' : L2.St} {H' : Hp} {s' : Shared}, Inv (X.blk s3 H3 scope ce fp) [] σ' H' s' → (∀ b ∈ fp, H' b = none) → ∀ b ∈ fp, FpOk (X.blk s3 H3 scope ce fp) [] H' b := fun {σ' H' s'} I' hn b hb =>
    ⟨hn b hb, (I'.ok.exf b hb).1, I'.ok.exfs b hb, .inl hb, (I'.ok.exf b hb).2, fun p hp => absurd (show p ∈ ([] : List (Addr × Obj)) ++ [] from hp) (by simp)⟩
  have loop : codeAny (model X.prog X.w) X.A (.compLoop (.SetComp elt [⟨tg, iter, ifs, 0⟩] scope pos) 0 (.ref it) (.ref D) ce) (compPost (model X.prog X.w) X.A X.xe none (EP X pins σ Q) (.ref D) s3.heap.objs.size) s4 := by
    refine PpSet.compLoopS_any (fun n s' => ∃ i H', Inv (X.blk s3 H3 scope ce fp) [] (wipe σ (own.map (·.2))) H' s' ∧ tn i s'.heap ∧ (∀ b ∈ fp, H' b = none) ∧ W i n H') ?_ m0 ⟨0, H3, I4, st4, nfp, w0⟩
    rintro n s5 ⟨i, H5, I5, st5, n5, w5⟩
    rcases turn i n H5 w5 with ⟨stop, fin⟩ | ⟨go, Nx, hNx, step⟩
    · refine thnF (T.done (X.blk s3 H3 scope ce fp) rfl rfl rfl hc i [] s5 _ H5 (fun _ _ => False) I5 (stand I5 n5) st5 stop) ?_
      rintro r s6 ⟨rfl, I6⟩
      have I7 : Inv X pins σ H5 s6 := I3.call' (ch := fp) I6.os I6.base I6.hok I6.bare fun b hb => ⟨(f3 b hb).1.2.2.2.1, (f3 b hb).1.2.1, (f3 b hb).1.2.2.2.2.1, (f3 b hb).1.2.2.2.2.2⟩
      obtain ⟨m, hn, _⟩ := I6.loc
      have hn : s6.heap.Ns s3.heap.objs.size m := by rw [← loc]; exact hn
      have nC : H5 s3.heap.objs.size = none := by rw [← loc]; exact I6.free
      obtain ⟨g0, g1, g2, g3, g4, g5⟩ := I3.fpOk (Nat.le_refl _) nC
      exact ⟨m, hn, fun h'' sb => ⟨.ref D, H5, I7.turned (t' := s6.toks) (fun b o hb e => (sb.2 b hb).trans e) g0 g1 g3 g4 g5, rfl, fin⟩⟩
    · refine thnF (T.item (X.blk s3 H3 scope ce fp) rfl rfl rfl hc i [] s5 _ H5 (fun _ _ => False) I5 (stand I5 n5) st5 go) ?_
      rintro r s6 ⟨u, rfl, h6⟩
      refine thnF h6 ?_
      rintro _ s7 ⟨x, H7, I7, r7, y7, st7, n7⟩
      refine thnF (pg.run _ s7 _ H7 x u _ (I7.pinned (stand I7 n7) (T.obj _ _ st7)) r7 (step x H7 y7)) ?_
      rintro _ s8 ⟨σ8, H8, I8, hw8, q8⟩
      refine thnF (pt.run _ s8 σ8 H8 _ I8 q8) ?_
      rintro b s9 ⟨H9, I9, q9⟩
      have back : ∀ {s' : Shared} {H' : Hp}, Inv (X.blk s3 H3 scope ce fp) ([] ++ pinsAt fp s7.heap) σ8 H' s' → Nx H' → ∃ m, m < n ∧ ∃ i H', Inv (X.blk s3 H3 scope ce fp) [] (wipe σ (own.map (·.2))) H' s' ∧ tn i s'.heap ∧ (∀ b ∈ fp, H' b = none) ∧ W i m H' := fun {s' H'} I' nx => by
        obtain ⟨m', hm, w'⟩ := hNx H' nx
        have pin : ∀ b ∈ fp, ∀ o, s7.heap.get? b = some o → s'.heap.get? b = some o ∧ H' b = none := fun b hb o e =>
          (fun z => ⟨z.1, z.2.1⟩) (I'.pin (b, o) (List.mem_append_right _ (List.mem_append_right _ (mem_pinsAt hb e))))
        refine ⟨m', hm, i + 1, H', (I'.unpinned (pins := [])).weak (by rw [← hw8, wipe_length]) (fun j v e => ?_), T.keep _ _ _ st7 fun b hb o e => (pin b hb o e).1, fun b hb => ?_, w'⟩
        · exact (wipe_some (by rw [hw8]; exact e)).1
        · obtain ⟨o, e, _⟩ := T.obj _ _ st7 b hb
          exact (pin b hb o e).2
      by_cases hb : b = true
      · subst hb
        simp only [if_true] at q9 ⊢
        refine thnF (pv.run _ s9 σ8 H9 _ I9 q9) ?_
        rintro z s10 ⟨yk, H10, I10, r10, k, S, nn, rfl, hD10, hz10, nx⟩
        obtain ⟨tk, rfl⟩ := r10
        exact setI_add (X := X.blk s3 H3 scope ce fp) I10 hD10 hz10 fun s11 I11 => back I11 nx
      · have hb : b = false := by simpa using hb
        subst hb
        simp only [Bool.false_eq_true, if_false] at q9 ⊢
        exact back I9 q9
  exact PpSet.codeAny_compStart_set loop (T.self X.A 0 _ _ _ st4 loop)
theorem pe_scI (hc : X.calm = true) (hN : X.N.Nodup) (hi : PI X tg iter wi) (bk : BlkOk X.N X.env.scope scope own) (hg : AtBlk X scope fun Y => PG Y tg g) (ht : AtBlk X scope fun Y => PTs Y ifs tt) (hv : AtBlk X scope fun Y => PE Y elt te)
    (hs : ∀ x, foldedSetIterable iter X.env x = pure x := by intro _; rfl) : PE X (.SetComp elt [⟨tg, iter, ifs, 0⟩] scope pos) (tScI X.w wi g tt te (own.map (·.2))) := ⟨fun pins s σ H Q I h => scI_run hc hN I hi bk hg ht hv hs h⟩
end
/-! ### the lifted reading -/
def scW (t : TPG) (tt : TPT) (te : TPE) : List D → List Int → PEnv → Nat → (List Int → Nat → Prop) → Prop
  | [], acc, _, n, R => R acc n
  | d :: ds, acc, ρ, n, R => t d ρ n fun ρ1 n1 => tt ρ1 n1 fun b n2 => if b = true then te ρ1 n2 fun y n3 => (match y with | .int i => scW t tt te ds (acc ++ [i]) ρ n3 R | _ => False) else scW t tt te ds acc ρ n2 R
/-- sorted of the set -/
def pSrtSc (pi : TPA) (t : TPG) (tt : TPT) (te : TPE) (vs : List Nat) : TPE := fun ρ n R => pi ρ n fun ds m => ds.length < 4000 ∧ noOwn ρ vs = true ∧ scW t tt te ds [] (wipeC ρ vs) m fun acc k => ∀ ns : List Int, ns.Pairwise (· < ·) → (∀ x, x ∈ ns ↔ x ∈ acc) → R (.lst (ns.map D.int)) k
theorem srtSc_sound {g : G} {w : World} {pi : TPA} {t : TPG} {is : List Nat} {tt : TPT} {te : TPE} {vs : List Nat} (his : ∀ j ∈ is, j ∈ vs) {σ : L2.St} {H : Hp} {Q : VK} (h : LF g (pSrtSc pi t tt te vs) σ H Q) :
    tScI w (LI g pi) (XG g.c.K t is) (XT g.c.K tt) (XE g.c.K te) vs σ H fun x H1 => rSortedSetA w [x] H1 Q := by
  obtain ⟨n, F, ρ, R, ok, h, k⟩ := h
  refine ⟨n, F, ρ, _, ok, h, fun n1 F1 H1 ds J s1 ok1 h1 hJ a ha => ?_⟩
  obtain ⟨hz, hno, h1⟩ := h1
  have h0 := ok1.freeH0 ha
  have hp := ok1.freeP ha
  refine ⟨fun i m H => m = ds.length - i ∧ i ≤ ds.length ∧ ∃ n F2 S z acc, Same F1 F2 ∧ Ok (g.pinned a (SetO w a S z)) n F2 H (L2.wipe σ vs) (wipeC ρ vs) ∧ (∀ j, S j = true ↔ j ∈ acc) ∧ z ≤ i ∧ scW t tt te (ds.drop i) acc (wipeC ρ vs) n (fun acc k => ∀ ns : List Int, ns.Pairwise (· < ·) → (∀ x, x ∈ ns ↔ x ∈ acc) → R (.lst (ns.map D.int)) k),
    ⟨_, rfl, Nat.zero_le _, n1, F1, _, _, [], Same.refl _, (ok1.wipe _).pinNew (SetO w a (fun _ => false) 0) ha, by simp, Nat.le_refl _, h1⟩, ?_⟩
  rintro i m H2 ⟨rfl, hi, n2, F2, S, z, acc, s2, ok2, hS, la, h2⟩
  obtain ⟨st, gg⟩ := hJ _ n2 F2 H2 _ _ (by rfl) s2 ok2
  cases hd : ds.drop i with
  | nil =>
    have hl' : i = ds.length := by
      have := List.drop_eq_nil_iff.mp hd
      omega
    subst hl'
    rw [hd] at h2
    have p1 := ok2.pinAt.1
    refine .inl ⟨st, a, S, z, rfl, p1, ?_, fun ns p hs hm hl hn => ?_⟩
    · have : (4000 : Nat) ≤ sizeLine := by decide
      omega
    · have ok3 := ok1.restore s2 rfl (ok2.unpin h0 hp) hno
      have ok4 := ok3.allocH (SetO w a S z) (erase_same _ _)
      rw [upd_erase p1] at ok4
      exact k n2 F2 H2 p _ _ (s1.trans s2) ok4 hn (.lst Reps.ints) (h2 ns hs fun x => by rw [hm, hS])
  | cons d r =>
    obtain ⟨gd, gr⟩ := drop_get hd
    rw [hd] at h2
    obtain ⟨go, yl⟩ := gg i d gd
    have hlt : i < ds.length := lt_of_get gd
    refine .inr ⟨go, fun H => ∃ n F2 S z acc, Same F1 F2 ∧ Ok (g.pinned a (SetO w a S z)) n F2 H (L2.wipe σ vs) (wipeC ρ vs) ∧ (∀ j, S j = true ↔ j ∈ acc) ∧ z ≤ i + 1 ∧ scW t tt te (ds.drop (i + 1)) acc (wipeC ρ vs) n (fun acc k => ∀ ns : List Int, ns.Pairwise (· < ·) → (∀ x, x ∈ ns ↔ x ∈ acc) → R (.lst (ns.map D.int)) k), fun H' q => ⟨_, by omega, rfl, hlt, q⟩, fun x H3 y => ?_⟩
    obtain ⟨F3, s3, ok3, r3⟩ := yl x H3 y
    refine ⟨g.pinned a (SetO w a S z), rfl, n2, F3, _, d, _, ok3, r3, h2, fun n4 F4 H4 σ4 ρ4 s4 ok4 j4 h4 => ?_⟩
    obtain ⟨w1, w2⟩ := j4 vs his
    rw [wipe_wipe σ vs vs fun j hj => hj] at w1
    rw [wipeC_wipeC ρ vs vs fun j hj => hj] at w2
    have back : ∀ {n' : Nat} {F' H' : Hp}, Ok (g.pinned a (SetO w a S z)) n' F' H' σ4 ρ4 → Ok (g.pinned a (SetO w a S z)) n' F' H' (wipe σ vs) (wipeC ρ vs) := fun {n' F' H'} o => by
      have := o.wipe vs
      rw [w1, w2] at this
      exact this
    refine ⟨w1, g.pinned a (SetO w a S z), rfl, n4, F4, ρ4, _, ok4, h4, fun n5 F5 H5 b s5 ok5 h5 => ?_⟩
    have s15 := s2.trans (s3.trans (s4.trans s5))
    cases b with
    | false => exact ⟨n5, F5, S, z, acc, s15, back ok5, hS, by omega, by rw [gr]; exact h5⟩
    | true =>
      refine ⟨g.pinned a (SetO w a S z), rfl, n5, F5, ρ4, _, ok5, h5, fun n6 F6 H6 y6 d6 s6 ok6 r6 h6 => ?_⟩
      match d6, r6, h6 with
      | .int q, r6, h6 =>
        cases r6
        refine ⟨q, S, z, rfl, ok6.pinAt.1, by have : scanBound = 4096 := rfl; omega, n6, F6, _, _, acc ++ [q], s15.trans s6, (back ok6).pinWrite h0 _, fun j => ?_, ?_, by rw [gr]; exact h6⟩
        · rw [Bool.or_eq_true, hS, decide_eq_true_iff, List.mem_append, List.mem_singleton]
        · split <;> omega
section
variable {X : Cx} {pos : Pos}
theorem fe_srtSc {elt tg iter : Expr} {ifs : List Expr} {scope : Scope} {own : List (Str × Nat)} {pi : TPA} {t : TPG} {is : List Nat} {tt : TPT} {te : TPE} {pf p2 : Pos} (hm : X.mg "sorted" = none) (hgs : Gl X "sorted") (hi : DI X tg iter pi) (hN : X.N.Nodup) (ok : BlkOk X.N X.env.scope scope own) (his : ∀ j ∈ is, j ∈ own.map (·.2))
    (hg : AtBlk X scope fun Y => DG Y tg t is) (ht : AtBlk X scope fun Y => DTs Y ifs tt) (hv : AtBlk X scope fun Y => DE Y elt te) (hc : X.calm = true := by rfl) (hs : ∀ x, foldedSetIterable iter X.env x = pure x := by intro _; rfl)
    (he : starEach [.SetComp elt [⟨tg, iter, ifs, 0⟩] scope p2] X.env = (false, eval (.SetComp elt [⟨tg, iter, ifs, 0⟩] scope p2) X.env) :: starEach [] X.env := by rfl) :
    FE X (.Call (.Name "sorted" pf) [.SetComp elt [⟨tg, iter, ifs, 0⟩] scope p2] [] pos) (pSrtSc pi t tt te (own.map (·.2))) := fun g hK =>
  (pe_callB (cr_sortedSetA hc) hgs hm (by decide +kernel) (pa_cons (pe_scI hc hN (hi g hK) ok (fun s H C cl fp => (⟨fun pins s σ H v u Q I r ⟨g', hK', q⟩ => ((hg _ _ C cl fp) g' (hK'.trans hK)).run pins s σ H v u Q I r q⟩ : PG _ tg (XG g.c.K t is)))
    (fun s H C cl fp => (⟨fun pins s σ H Q I ⟨g', hK', q⟩ => ((ht _ _ C cl fp) g' (hK'.trans hK)).run pins s σ H Q I q⟩ : PTs _ ifs (XT g.c.K tt)))
    (fun s H C cl fp => (⟨fun pins s σ H Q I ⟨g', hK', q⟩ => ((hv _ _ C cl fp) g' (hK'.trans hK)).run pins s σ H Q I q⟩ : PE _ elt (XE g.c.K te))) hs) pa_nil he) (by decide) (by decide) he rfl).imp fun σ H Q h => srtSc_sound his h
end
section
variable (ρ : PEnv) (n : Nat) (R : D → Nat → Prop) (t : TPG) (tt : TPT) (te : TPE) (pi : TPA) (vs : List Nat) (d : D) (ds : List D) (acc : List Int) (Z : List Int → Nat → Prop)
theorem q_srtsc : pSrtSc pi t tt te vs ρ n R = pi ρ n fun ds m => ds.length < 4000 ∧ noOwn ρ vs = true ∧ scW t tt te ds [] (wipeC ρ vs) m fun acc k => ∀ ns : List Int, ns.Pairwise (· < ·) → (∀ x, x ∈ ns ↔ x ∈ acc) → R (.lst (ns.map D.int)) k := rfl
theorem q_sc0 : scW t tt te [] acc ρ n Z = Z acc n := rfl
theorem q_sc : scW t tt te (d :: ds) acc ρ n Z = t d ρ n fun ρ1 n1 => tt ρ1 n1 fun b n2 => if b = true then te ρ1 n2 fun y n3 => (match y with | .int i => scW t tt te ds (acc ++ [i]) ρ n3 Z | _ => False) else scW t tt te ds acc ρ n2 Z := rfl
end
end PL

/-! PL: instances: __init__ that may raise, methods of operators, isinstance. -/
namespace PL
open PySem PySem.Spec L2
open PyProof.Rows (envOfC)
/-! ### __init__ that may raise -/
def spIX (K : PySem.W.Frag) (kc : Nat) (S : SpecX) : Sp := fun vs H Q E => ∃ (x dx C : Addr) (vs' : List V) (Hb : Hp) (c : Cfg) (n : Nat) (F : Hp) (ds : List D) (R : D → Nat → Prop) (RE : Nat → D → Nat → Prop), vs = .ref x :: vs' ∧ H = upd (upd Hb dx (.own x)) x (.ins C dx []) ∧ Hb x = none ∧ Hb dx = none ∧ dx ≠ x ∧ clsOf K kc = some C ∧ c.K = K ∧
  Same F Hb ∧ (∀ b, c.fp b → F b = none) ∧ DeckAt c n Hb ∧ Reps c F vs' ds ∧ S ds n R RE ∧
  (∀ n' F' H' o fs, Same F F' → (∀ b y, Hb b = some y → ¬ c.fp b → H' b = some y) → Same F' H' → (∀ b, c.fp b → F' b = none) → (∀ b, Hb b ≠ none → F b = none → F' b = none) → DeckAt c n' H' →
    H' x = some o → F' x = none → (F'' : Hp) → F'' = upd F' x o → Rep c F'' (.ref x) (.obj kc fs) → R (.obj kc fs) n' → Q .non H') ∧
  (∀ n' F' H' k d cls ad, Same F F' → (∀ b y, Hb b = some y → ¬ c.fp b → H' b = some y) → Same F' H' → (∀ b, c.fp b → F' b = none) → (∀ b, Hb b ≠ none → F b = none → F' b = none) → DeckAt c n' H' → XRep c F' k d cls ad → RE k d n' → E cls ad H')
section
variable {P : Program} {w : World} {K : PySem.W.Frag} {mg : Str → Option Value} {base : Heap}
theorem _root_.L2.Fun.okIX {x qual : Str} {st : Stmt} {f : Addr} {fd : FuncData} {N : List Str} {s0 : Str} {ps : List Str} {k kc : Nat} {S : SpecX} (hkc : kc < 999) (Fu : Fun K x qual st f fd) (sc : FnScope N (s0 :: ps) (defScope st)) (len : ∀ ds n R RE, S ds n R RE → ds.length = ps.length)
    (hbody : ∀ (cdv : Value) (A : Around) (outer : List Env) (s : Shared) (H : Hp) (E : XK) (g : G) (RE : Nat → D → Nat → Prop), A.guards = some [] → Room k (A.deeper (envOfC qual (defScope st) s.heap.objs.size f cdv)) →
      g.c.K = K → Takes (cxOf (L2.CX P w) P w K mg base N qual (defScope st) f cdv A outer s H E) (LX g fun k d _ n => RE k d n) →
      ∃ q, PSs (cxOf (L2.CX P w) P w K mg base N qual (defScope st) f cdv A outer s H E) (defBody st) (LS g q) ∧ ∀ kk, kk % 1000 = kc → ∀ ds n R, S ds n R RE → q { nx := nxI kc kk R, rt := fun _ _ => False } (envI N.length kk ds) n) : FnY P w K mg base (k + 1) f fd (s0 :: ps) (spIX K kc S) := by
  have hpl : ps.length + 1 ≤ N.length := by have := congrArg List.length sc.pre; rw [List.length_take, List.length_cons] at this; omega
  refine Fu.okY sc (fun vs H Q E h => ?_) (fun cdv A outer s H vs Q E hgd hr h => ?_)
  · obtain ⟨x, dx, C, vs', Hb, c, n, F, ds, R, RE, rfl, rfl, _, _, _, _, _, _, _, _, r, hS, _⟩ := h
    rw [List.length_cons, List.length_cons, r.length, len ds n R RE hS]
  · obtain ⟨x, dx, C, vs', Hb, c, n, F, ds, R, RE, rfl, rfl, hx, hd, ne, hC, hK, h1, h2, h3, r, hS, hq, hE⟩ := h
    have km : (kc + 1000 * (x + 1)) % 1000 = kc := by omega
    have kd : (kc + 1000 * (x + 1)) / 1000 = x + 1 := by omega
    have tk : Takes (cxOf (L2.CX P w) P w K mg base N qual (defScope st) f cdv A outer s (upd (upd Hb dx (.own x)) x (.ins C dx [])) E) (LX ⟨c, Hb, F, fun _ => none⟩ fun k d _ n => RE k d n) :=
      (takes_of rfl rfl rfl rfl).imp fun cls ad σ' H' ⟨n', F', ρ', k, d, ok, xr, hR⟩ => hE n' F' H' k d cls ad ok.mon ok.keep ok.sub ok.ffp ok.new ok.dk xr hR
    obtain ⟨q, hd', hb⟩ := hbody cdv A outer s _ E ⟨c, Hb, F, fun _ => none⟩ RE hgd hr hK tk
    refine ⟨LS ⟨c, Hb, F, fun _ => none⟩ q, hd', n, F, envI N.length (kc + 1000 * (x + 1)) ds, _, Ok.startI hx hd ne kd (by rw [hK, cls_mod, km]; exact hC) h1 h2 h3 r ?_, hb _ km ds n R hS, ?_⟩
    · rw [r.length, len ds n R RE hS]; exact hpl
    · refine ⟨fun n' F' H' σ' ρ' s ok h => ?_, fun _ _ _ _ _ _ _ _ _ _ h => h.elim, fun _ _ _ _ _ _ _ h => h.elim, fun _ _ _ _ _ _ _ h => h.elim⟩
      have h : nxI kc (kc + 1000 * (x + 1)) R ρ' n' := h
      unfold nxI at h
      split at h
      · rename_i kk fs hz
        obtain ⟨rfl, hR⟩ := h
        obtain ⟨a, o, e1, e2, e3, e4, e5, cz⟩ := ok.cells 0 _ hz
        have hrep : Rep c (upd F' a o) (.ref a) (.obj (kc + 1000 * (x + 1)) fs) := (cz.mono (same_upd e3)).rep upd_same
        cases cz with
        | obj q0 q1 q2 rs =>
          have : a = x := by
            have z := q0 (by omega)
            rw [kd] at z
            exact (Nat.succ.inj z).symm
          subst this
          refine hq n' F' H' _ fs s ok.keep ok.sub ok.ffp ok.new ok.dk e2 e3 _ rfl ?_ hR
          rw [cls_mod, km] at q1
          have hCN : CN (kc + 1000 * (a + 1)) = CN kc := by rw [CN_mod, km]
          rw [hCN] at q2 ⊢
          exact .obj q1 upd_same q2 (rs.mono (same_upd e3))
      · exact h.elim
end
/-- how __init__ binds keywords behind the instance -/
def IBinds (K : PySem.W.Frag) (fd : FuncData) (ps ks : List Str) (ix : List Nat) : Prop := ∀ (s : Shared) (u : Value) (ws : List Value), K.In s.heap → ws.length = ks.length → BindsTo s fd ⟨[u], ks.zip ws⟩ (ps.zip (u :: picks ix ws))
theorem _root_.L2.Fun.ibinds {K : PySem.W.Frag} {x qual : Str} {st : Stmt} {f : Addr} {fd : FuncData} {ps ks : List Str} {ix : List Nat} (F : Fun K x qual st f fd)
    (h : ∀ (kV doc pm : Value) (an : Option Addr) (cdv ct : Value) (u : Value) (ws : List Value), ws.length = ks.length → bindArgs (PySem.W.fnOf x qual (defArgs st) (defBody st) (defScope st) .none kV doc pm an cdv ct) ⟨[u], ks.zip ws⟩ = pure (ps.zip (u :: picks ix ws))) : IBinds K fd ps ks ix := by
  obtain ⟨oc, od, kV, doc, pm, an, cdv, ct, osl, rfl, lk, hcd⟩ := F.ex
  intro s u ws _ hl
  exact .of_eq (h kV doc pm an cdv ct u ws hl)
/-- a class whose __init__ may raise -/
def MkCX (P : Program) (w : World) (K : PySem.W.Frag) (mg : Str → Option Value) (base : Heap) (k : Nat) (x : Str) (kc : Nat) (s0 : Str) (ps : List Str) (nbs : List (List Str × List Nat)) (S : SpecX) : Prop :=
  ∃ (C f : Addr) (fd : FuncData), FnY P w K mg base k f fd (s0 :: ps) (spIX K kc S) ∧ Mk K C f ∧ mg x = some (.ref C) ∧ clsOf K kc = some C ∧ Binds K fd (s0 :: ps) [] ∧ ∀ q ∈ nbs, IBinds K fd (s0 :: ps) q.1 q.2
theorem MkCX.quiet {P : Program} {w : World} {K : PySem.W.Frag} {mg : Str → Option Value} {base : Heap} {k : Nat} {x : Str} {kc : Nat} {s0 : Str} {ps : List Str} {nbs : List (List Str × List Nat)} {S : SpecX} (h : MkCX P w K mg base k x kc s0 ps nbs S) : MkC P w K mg base k x kc s0 ps (PL.quiet S) := by
  obtain ⟨C, f, fd, h1, h2, h3, h4, h5, _⟩ := h
  have up : ∀ {vs H Q E}, spI K kc (PL.quiet S) vs H Q E → spIX K kc S vs H Q (fun _ _ _ => False) := fun {vs H Q E} q => by
    obtain ⟨x, dx, C, vs', Hb, c, n, F, ds, R, q1, q2, q3, q4, q5, q6, q7, q8, q9, q10, q11, q12, q13⟩ := q
    exact ⟨x, dx, C, vs', Hb, c, n, F, ds, R, _, q1, q2, q3, q4, q5, q6, q7, q8, q9, q10, q11, q12, q13, fun _ _ _ _ _ _ _ _ _ _ _ _ _ _ h => h.elim⟩
  refine ⟨C, f, fd, ⟨fun vs H Q E q => h1.len vs H Q _ (up q), fun A outer s H args us vs Q E hg hr e0 hb r q => ?_⟩, h2, h3, h4, h5⟩
  refine codeAny_mono (h1.run A outer s H args us vs Q (fun _ _ _ => False) hg hr e0 hb r (up q)) fun r s' hq => ?_
  match r, hq with
  | .ok (.ret u), h => exact h
  | .ok .next, h => exact False.elim h
  | .ok .brk, h => exact False.elim h
  | .ok .cont, h => exact False.elim h
  | .error e, ⟨_, _, _, _, _, _, _, _, _, _, _, _, z⟩ => exact z.elim
section
variable {X : Cx} {k kc : Nat} {s0 : Str} {ps : List Str} {S : SpecX} {x : Str} {pf pos : Pos} {e : Expr} {es : List Expr} {ta : TPA} {kws : List Keyword} {g : G} {ew : EW} {nbs : List (List Str × List Nat)} {W : WX}
theorem run_newY {C f : Addr} {fd : FuncData} {pps : List Str} {sp : Sp} {pins : List (Addr × Obj)} {σ : L2.St} {H : Hp} {s : Shared} {Q : VK} {us zs : List Value} {vs : List V} {kw : List (Str × Value)} (M : Mk X.K C f) (F : FnY X.prog X.w X.K X.mg X.base k f fd pps sp) (hgd : X.A.guards = some []) (hr : Room (k + 1) X.A) (tk : Takes X W) (I : Inv X pins σ H s) (r : Vals vs zs)
    (hb : ∀ (s' : Shared) (y : Addr), X.K.In s'.heap → zs.length + 1 = pps.length → BindsTo s' fd ⟨.ref y :: us, kw⟩ (pps.zip (.ref y :: zs)))
    (h : ∀ y dy, H y = none → H dy = none → dy ≠ y → sp (.ref y :: vs) (upd (upd H dy (.own y)) y (.ins C dy [])) (fun v H2 => v = .non ∧ Q (.ref y) H2) (fun cls ad H' => W cls ad σ H')) :
    wpAny (model X.prog X.w) X.A (call (.ref C) us kw) (EP X pins σ Q) X.xe s := by
  have J := Inv.made (C := C) I
  obtain ⟨y, hy⟩ : ∃ y : Addr, s.heap.objs.size + 1 = y := ⟨_, rfl⟩
  rw [hy] at J
  have hq := h y s.heap.objs.size (I.hok.fresh (by rw [← hy]; exact Nat.le_succ _)) (I.hok.fresh (Nat.le_refl _)) (by rw [← hy]; exact Nat.ne_of_lt (Nat.lt_succ_self _))
  have r2 : Vals (V.ref y :: vs) (Value.ref y :: zs) := .cons rfl r
  have b := hb _ y J.kIn (by have := F.len _ _ _ _ hq; rw [← this, List.length_cons, r.length])
  subst hy
  refine wpAny_call (make_map (f := f) I.kIn M.makes M.init (beq_iff_eq.mp M.fn) (codeAny_mono (F.run _ X.stack _ _ ⟨_, kw⟩ _ _ _ _ hgd (hr.make C us kw) (J.env0.make C us kw) b r2 hq) fun res s' hq' => ?_))
  match res, hq' with
  | .ok (.ret u), hq' =>
    obtain ⟨v, H', I3, rv, ev, q3⟩ := J.after hq'
    subst ev
    exact ⟨rv, ⟨V.ref _, H', I3, rfl, q3⟩⟩
  | .ok .next, hq' => exact False.elim hq'
  | .ok .brk, hq' => exact False.elim hq'
  | .ok .cont, hq' => exact False.elim hq'
  | .error e, hq' => exact tk e s' (XE.of_call J (fun cls d H' q => q) hq')
theorem LA.newX {σ : L2.St} {Q : VK} {n1 : Nat} {F F1 H1 : Hp} {ρ : PEnv} {R : D → Nat → Prop} {C : Addr} {vs : List V} {ds : List D} (hK : g.c.K = X.K) (h4 : clsOf X.K kc = some C) (s1 : Same F F1) (ok1 : Ok g n1 F1 H1 σ ρ) (r1 : Reps g.c F1 vs ds) (q1 : S ds n1 R (fun k d n' => ew k d ρ n'))
    (kk : ∀ n' F' H' v d, Same F F' → Ok g n' F' H' σ ρ → Rep g.c F' v d → R d n' → Q v H') {y dy : Addr} (hy : H1 y = none) (hdy : H1 dy = none) (hne : dy ≠ y) :
    spIX X.K kc S (.ref y :: vs) (upd (upd H1 dy (.own y)) y (.ins C dy [])) (fun v H2 => v = .non ∧ Q (.ref y) H2) (fun cls ad H' => LX g ew cls ad σ H') := by
  refine ⟨y, dy, C, vs, H1, g.c, n1, F1, ds, R, _, rfl, rfl, hy, hdy, hne, h4, hK, ok1.sub, ok1.ffp, ok1.dk, r1, q1, fun n' F' H' o fs a1 a2 a3 a4 a5 a6 a7 a8 F'' hF rep hR => ⟨rfl, ?_⟩, fun n' F' H' k' d cls ad a1 a2 a3 a4 a5 a6 xr hR => ⟨n', F', ρ, k', d, ok1.after a1 a2 a3 a4 a5 a6, xr, hR⟩⟩
  subst hF
  have ok2 := ok1.after a1 a2 a3 a4 a5 a6
  have ok3 := ok2.freezeAt a7 a8 (ok1.freeH0 hy) (ok1.nofp hy) (ok1.freeP hy) fun j d hj hz => by
    obtain ⟨b, u, e1, e2, _⟩ := ok1.cells j _ hj
    rw [hz] at e1
    cases e1
    rw [hy] at e2; cases e2
  exact kk n' _ H' _ _ (s1.trans (a1.trans (same_upd a8))) ok3 rep hR
theorem le_makeX (Fn : MkCX X.prog X.w X.K X.mg X.base k x kc s0 ps nbs S) (hK : g.c.K = X.K) (tk : Takes X (LX g ew)) (hgd : X.A.guards = some []) (hr : Room (k + 1) X.A) (ha : PA X (e :: es) (LA g ta)) (hg : Gl X x := by rfl) (hdb : (x == ("__debug__" : Str)) = false := by decide)
    (he : starEach (e :: es) X.env = (false, eval e X.env) :: starEach es X.env := by rfl) (hpl : (backTo pos (starEach es X.env)).any (·.1) = false := by rfl) : PE X (.Call (.Name x pf) (e :: es) [] pos) (LE g (pFnX S ew ta)) := by
  obtain ⟨C, f, fd, h1, h2, h3, h4, h5, _⟩ := Fn
  have step : PE X (.Call (.Name x pf) (e :: es) [] pos) (fun σ H Q => (LA g ta) σ H fun vs H1 => ∀ y dy, H1 y = none → H1 dy = none → dy ≠ y → spIX X.K kc S (.ref y :: vs) (upd (upd H1 dy (.own y)) y (.ins C dy [])) (fun v H2 => v = .non ∧ Q (.ref y) H2) (fun cls ad H' => LX g ew cls ad σ H')) := by
    constructor
    intro pins s σ H Q I h
    refine wpAny_Call_Name_kw (ld_glob I hg h3 ?_ hdb)
    refine PySem.W.callWith_K (h₀ := X.base) I.ok.mod.kin h2.kp (thn (ha.run pos pins s σ H _ I h) ?_) he hpl
    rintro us s1 ⟨vs, H1, I1, r, q⟩
    refine ⟨I1.kIn, run_newY h2 h1 hgd hr tk I1 r (fun s' y hin hl => ?_) q⟩
    have b := h5 s' (.ref y :: us) hin (by rw [List.append_nil, List.length_cons]; exact hl)
    rw [List.append_nil] at b
    exact b
  exact step.imp fun σ H Q ⟨n, F, ρ, R, ok, hq, kk⟩ => ⟨n, F, ρ, _, ok, hq, fun n1 F1 H1 vs ds s1 ok1 r1 q1 y dy hy hdy hne => LA.newX hK h4 s1 ok1 r1 q1 kk hy hdy hne⟩
theorem le_makeXK {ks : List Str} {ix : List Nat} (Fn : MkCX X.prog X.w X.K X.mg X.base k x kc s0 ps nbs S) (hq : (ks, ix) ∈ nbs) (hK : g.c.K = X.K) (tk : Takes X (LX g ew)) (hgd : X.A.guards = some []) (hr : Room (k + 1) X.A) (ha : PK X kws (LA g ta)) (hg : Gl X x := by rfl)
    (hall : (backToKw pos (keywordEach kws X.env)).all (·.1.isSome) = true := by rfl) (hks : (backToKw pos (keywordEach kws X.env)).filterMap (·.1) = ks := by rfl)
    (hdb : (x == ("__debug__" : Str)) = false := by decide) (hpl : ((backTo pos (starEach [] X.env)).any (·.1) || (backToKw pos (keywordEach kws X.env)).any (·.1.isNone)) = false := by rfl) : PE X (.Call (.Name x pf) [] kws pos) (LE g (pFnXK S ew ks.length ix ta)) := by
  obtain ⟨C, f, fd, h1, h2, h3, h4, h5, h6⟩ := Fn
  have hb := h6 _ hq
  have step : PE X (.Call (.Name x pf) [] kws pos) (fun σ H Q => (LA g ta) σ H fun zs H1 => zs.length = ks.length ∧ ∀ y dy, H1 y = none → H1 dy = none → dy ≠ y → spIX X.K kc S (.ref y :: picks ix zs) (upd (upd H1 dy (.own y)) y (.ins C dy [])) (fun v H2 => v = .non ∧ Q (.ref y) H2) (fun cls ad H' => LX g ew cls ad σ H')) := by
    constructor
    intro pins s σ H Q I h
    refine wpAny_Call_Name_kw (ld_glob I hg h3 ?_ hdb)
    refine PySem.W.callWith_KW0 (h₀ := X.base) I.ok.mod.kin h2.kp hall (thn (ha.run pos pins s σ H _ I h) ?_) hpl
    rintro ws s2 ⟨zs, H2, I2, rz, hl, q2⟩
    rw [hks]
    exact ⟨I2.kIn, run_newY h2 h1 hgd hr tk I2 (vals_picks rz ix) (fun s' y hin _ => hb s' (.ref y) ws hin (by rw [← rz.length]; exact hl)) q2⟩
  refine step.imp fun σ H Q ⟨n, F, ρ, R, ok, hq, kk⟩ => ⟨n, F, ρ, _, ok, hq, fun n1 F1 H1 vs ds s1 ok1 r1 q1 => ⟨by rw [r1.length]; exact q1.1, fun y dy hy hdy hne => LA.newX hK h4 s1 ok1 (r1.picks ix) q1.2 kk hy hdy hne⟩⟩
end
/-! ### self.a, self.b = e -/
/-- a target that is the next attribute of one's own instance -/
def gFSet (i k j : Nat) : TPG := fun d ρ n S => match (ρ[i]? : Option Cell) with
  | some (.own (.obj k' ds)) => k' % 1000 = k ∧ ds.length = j ∧ S (ρ.set i (.own (.obj k' (ds ++ [d])))) n
  | _ => False
section
variable {X : Cx} {o : Expr} {pos' : Pos} {f : Str} {i k j : Nat}
theorem fld_room {c : Cfg} {F : Hp} {k' : Nat} {xs : List V} {ds : List D} {y : V} {d : D} (hi : (CN k')[ds.length]? = some f) (hnd : (CN k').Nodup) (rs : Reps c F xs ds) :
    putF f y (((CN k').take ds.length).zip xs) = ((CN k').take (ds ++ [d]).length).zip (xs ++ [y]) := by
  have hj : ds.length < (CN k').length := lt_of_get hi
  have hl : xs.length = ds.length := rs.length
  have ft : f ∉ (CN k').take ds.length := fun m => by
    obtain ⟨jj, hj1⟩ := List.getElem?_of_mem m
    have hlt : jj < ds.length := by
      have := lt_of_get hj1
      rw [List.length_take] at this; omega
    rw [List.getElem?_take_of_lt hlt] at hj1
    have := (List.getElem?_inj (i := jj) (j := ds.length) (by omega) hnd).mp (hj1.trans hi.symm)
    omega
  have nw : ∀ p ∈ ((CN k').take ds.length).zip xs, p.1 ≠ f := fun p hp z => ft (by rw [← z]; exact (List.of_mem_zip hp).1)
  rw [putF_new nw, List.length_append, List.length_singleton, List.take_add_one, hi, Option.toList, List.zip_append (by rw [List.length_take, hl]; omega)]
  rfl
theorem dg_fset (T : ClsT X.K k) (ho : PE X o (tVar i)) (hi : (CN k)[j]? = some f := by rfl) (hk : k ≠ 999 := by decide) (hnd : (CN k).Nodup := by decide) (h1000 : (CN k).length < 1000 := by decide) : DG X (.Attribute o f pos') (gFSet i k j) [i] := fun g hK => ⟨fun pins s σ H v u Q I r h => by
  obtain ⟨n, F, ρ, d, S, ok, rv, h, kk⟩ := h
  have h : gFSet i k j d ρ n S := h
  unfold gFSet at h
  split at h
  · rename_i k' ds z
    obtain ⟨rfl, rfl, h1⟩ := h
    rw [← CN_mod] at hi hnd h1000
    obtain ⟨a, w, e1, e2, e3, e4, e5, cz⟩ := ok.cells i _ z
    cases cz with
    | obj q0 q1 q2 rs =>
      rename_i C dx xs
      obtain ⟨C', c1, c2, c3⟩ := T
      have q1' := q1
      rw [hK, cls_mod, c1] at q1'
      obtain rfl := Option.some.inj q1'
      rw [← CN_mod] at c3
      rw [arm_assign_Attribute]
      have st : tVar i σ H (fun v' H' => v' = V.ref a ∧ H' = H) := ⟨_, e1, rfl, rfl⟩
      refine wpAny_bind (wpAny_holding (thn (ho.run pins s σ H _ I st) ?_))
      rintro ov s1 ⟨v', H', I1, rx, rfl, rfl⟩
      obtain rfl : ov = Value.ref a := rx
      refine wpAny_bind (wpAny_standAt (wpAny_bind (wpAny_holding (setattr_ok I1 e2 c2 (c3 f (List.mem_of_getElem? hi)) ?_ r fun s2 I2 => wpAny_release ⟨σ, _, I2, ?_⟩))))
      · have : ds.length < (CN k').length := lt_of_get hi
        rw [List.length_zip, List.length_take]; omega
      · rw [fld_room hi hnd rs]
        have ok2 := ok.write z e1 (.obj (dx := dx) (ds := ds ++ [d]) q0 q1 (by have : ds.length < (CN k').length := lt_of_get hi; rw [List.length_append, List.length_singleton]; omega) (rs.append (.cons rv .nil)))
        exact kk n F _ _ _ (Same.refl F) ok2 (fun ws hw => ⟨rfl, wipeC_set_out ρ i _ ws (hw i List.mem_cons_self)⟩) h1
  · exact h.elim⟩
end
end PL

/-! PL: methods of operators (in, ==, !=), isinstance of instances and of own classes. -/
namespace PL
open PySem PySem.Spec L2
open PyProof.Rows (envOfC)
/-- a method of a class -/
def MetC (P : Program) (w : World) (K : PySem.W.Frag) (mg : Str → Option Value) (base : Heap) (k : Nat) (m : Str) (kc : Nat) (ps : List Str) (S : Spec) : Prop :=
  ∃ (C f : Addr) (fd : FuncData), FnG P w K mg base k f fd ps (spP K S) ∧ clsOf K kc = some C ∧ PySem.W.findIn K (.ref C) m = some (some (.ref f)) ∧ PySem.W.isFn K (.ref f) = true ∧ Binds K fd ps []
theorem metc {P : Program} {w : World} {K : PySem.W.Frag} {mg : Str → Option Value} {base : Heap} {x qual : Str} {st : Stmt} {C f : Addr} {fd : FuncData} {N ps : List Str} {k kc : Nat} {S : Spec} (Fu : Fun K x qual st f fd) (hc : clsOf K kc = some C) (hf : PySem.W.findIn K (.ref C) x = some (some (.ref f))) (hi : PySem.W.isFn K (.ref f) = true) (sc : FnScope N ps (defScope st)) (hb : Binds K fd ps []) (len : ∀ ds n R, S ds n R → ds.length = ps.length)
    (hbody : ∀ (cdv : Value) (A : Around) (outer : List Env) (s : Shared) (H : Hp) (E : XK), A.guards = some [] → Room k (A.deeper (envOfC qual (defScope st) s.heap.objs.size f cdv)) →
      ∃ q, DSs (cxOf CX0 P w K mg base N qual (defScope st) f cdv A outer s H E).nox (defBody st) q ∧ ∀ ds n R, S ds n R → q { nx := fun _ m => R .non m, rt := R } (env0 N.length ds) n) : MetC P w K mg base (k + 1) x kc ps S :=
  ⟨C, f, fd, Fu.okPG sc len hbody, hc, hf, hi, hb⟩
/-- what isinstance, == and in ask of a class -/
structure InsT (K : PySem.W.Frag) (k : Nat) : Prop where
  ex : ∃ C, clsOf K k = some C ∧ Cls K C ∧ PySem.W.findIn K (.ref C) "__class__" = some (some (.builtin "object.__class__")) ∧ PySem.W.mroIn K C (.type "object") = some true ∧ PySem.W.typeIn K (.ref C) = some (.type "type") ∧ PySem.W.isClsIn K C = true ∧
    (∀ T ∈ (["int", "bool", "tuple", "str", "list"] : List String), PySem.W.subIn K (.ref C) (.type T) = some false) ∧ (∀ T ∈ (["NoneType", "bool", "int", "str", "list", "tuple", "dict"] : List String), PySem.W.subIn K (.type T) (.ref C) = some false) ∧
    PySem.W.subIn K (.ref C) (.type "object") = some true ∧ PySem.W.findIn K (.ref C) "__ne__" = some (some (.builtin "object.__ne__"))
  gn : PySem.W.specialIn K (.builtin "object.__class__") "__get__" = some (some (.builtin "getset_descriptor.__get__"))
  tk : PySem.W.takesIn K (.builtin "object.__class__") = some true
/-- is it an instance of the class k -/
def isK (k : Nat) : D → Bool | .obj k' _ => k' % 1000 == k | _ => false
/-- plain data -/
def plainD (d : D) : Bool := (tyName d).isSome
theorem tyName_in {d : D} {t : String} (h : tyName d = some t) : t ∈ (["NoneType", "bool", "int", "str", "list", "tuple", "dict"] : List String) := by
  cases d <;> simp [tyName] at h <;> subst h <;> decide
theorem isK_inv {k : Nat} {d : D} (h : isK k d = true) : ∃ k' ds, d = .obj k' ds ∧ k' % 1000 = k := by
  cases d <;> simp [isK] at h
  exact ⟨_, _, rfl, h⟩
/-- an instance stands at its place -/
theorem RR.ins {K : PySem.W.Frag} {C : Addr} {g : G} {F : Hp} {σ : L2.St} {ρ : PEnv} {x : V} {k : Nat} {d : D} {n : Nat} {H : Hp} (ok : Ok g n F H σ ρ) (h : RR g F σ ρ x d) (hk : isK k d = true) (hK : g.c.K = K) (hn : k ≠ 999) (hC : clsOf K k = some C) : ∃ a dx fs, x = .ref a ∧ H a = some (.ins C dx fs) := by
  obtain ⟨k', ds, rfl, hm⟩ := isK_inv hk
  obtain ⟨a, C', dx, xs, rfl, hH, hc, _⟩ := h.obj ok (by omega)
  rw [hK, cls_mod, hm, hC] at hc
  cases hc
  exact ⟨a, dx, _, rfl, hH⟩
/-- the type that isinstance sees -/
theorem InsT.ty {K : PySem.W.Frag} {k : Nat} (I : InsT K k) (hn : k ≠ 999) {g : G} {n : Nat} {F H : Hp} {σ : L2.St} {ρ : PEnv} {x : V} {d : D} (ok : Ok g n F H σ ρ) (h : RR g F σ ρ x d) (hK : g.c.K = K) (hd : isK k d = true) {C : Addr} (hC : clsOf K k = some C) : TyX K H x (.ref C) := by
  obtain ⟨a, dx, fs, rfl, hH⟩ := h.ins ok hd hK hn hC
  obtain ⟨C', c1, c2, c3, c4, _⟩ := I.ex
  rw [hC] at c1
  cases c1
  exact .base (.ins hH c2 c3 I.gn I.tk c4)
section
variable {X : Cx} {e a b : Expr} {p pa pb : TPE} {pos pf px : Pos} {x : Str} {k j : Nat} {S : Spec}
/-- isinstance(e, T), T a built-in class, e perhaps an instance of the class k -/
def pIsiA (T : String) (k : Nat) (p : TPE) : TPE := fun ρ n R => p ρ n fun d m => match tyName d with
  | some t => match kitB t T with | some b => R (.bl b) m | none => False
  | none => isK k d = true ∧ R (.bl false) m
theorem de_isiA {T : String} (I : InsT X.K k) (hm : X.mg "isinstance" = none) (hmx : X.mg x = none) (hg : Gl X "isinstance") (hgx : Gl X x) (hv : bootBuiltins x = some (.type T)) (he : SE X e p) (hk : k ≠ 999 := by decide) (hT : T ∈ (["int", "bool", "tuple", "str", "list"] : List String) := by decide) (hmt : PySem.W.kitMeta T = true := by decide +kernel) (hn : x ≠ "__name__" := by decide) (hdb : (x == ("__debug__" : Str)) = false := by decide)
    (hs : starEach (e :: [.Name x px]) X.env = (false, eval e X.env) :: starEach [.Name x px] X.env := by rfl) (hs2 : starEach (.Name x px :: []) X.env = (false, eval (.Name x px) X.env) :: starEach [] X.env := by rfl) (hpl : (backTo pos (starEach [.Name x px] X.env)).any (·.1) = false := by rfl) :
    DE X (.Call (.Name "isinstance" pf) [e, .Name x px] [] pos) (pIsiA T k p) := fun g hK =>
  (pe_callB call_isi hg hm (by decide +kernel) (pa_cons (he g hK) (pa_cons (pe_bltn (v := .ty T) hgx hmx hv rfl hn hdb) pa_nil hs2) hs) (he := hs) (hpl := hpl)).imp fun σ H Q ⟨n, F, ρ, R, ok, hq, kk⟩ =>
  ⟨n, F, ρ, _, ok, hq, fun n1 F1 H1 v d s1 ok1 r1 h1 => by
    have h1 : (match tyName d with | some t => (match kitB t T with | some b => R (.bl b) n1 | none => False) | none => isK k d = true ∧ R (.bl false) n1) := h1
    split at h1
    · rename_i t ht
      split at h1
      · rename_i c hc
        exact ⟨v, .ty T, .type t, .type T, c, rfl, .ty T, by rw [← hK]; exact r1.ty ok1 ht, kit_ty hc, kk n1 F1 H1 _ _ s1 ok1 (.bl _) h1⟩
      · exact h1.elim
    · obtain ⟨C, c1, c2, c3, c4, c5, c6, c7, c8, c9⟩ := I.ex
      refine ⟨v, .ty T, .ref C, .type T, false, rfl, .ty T, I.ty hk ok1 r1 hK h1.1 c1, ?_, kk n1 F1 H1 _ _ s1 ok1 (.bl _) h1.2⟩
      unfold PySem.W.kitOne
      rw [if_neg (by simp)]
      show (if PySem.W.kitMeta T = true then PySem.W.subIn X.K (.ref C) (.type T) else none) = some false
      rw [if_pos hmt]
      exact c7 T hT⟩
/-- isinstance(e, C), C the class k -/
def pIsiC (k : Nat) (p : TPE) : TPE := fun ρ n R => p ρ n fun d m => (plainD d || isK k d) = true ∧ R (.bl (isK k d)) m
theorem de_isiC (I : InsT X.K k) (mC : X.mg x = (clsOf X.K k).map Value.ref) (hm : X.mg "isinstance" = none) (hg : Gl X "isinstance") (hgx : Gl X x) (he : SE X e p) (hk : k ≠ 999 := by decide) (hdb : (x == ("__debug__" : Str)) = false := by decide)
    (hs : starEach (e :: [.Name x px]) X.env = (false, eval e X.env) :: starEach [.Name x px] X.env := by rfl) (hs2 : starEach (.Name x px :: []) X.env = (false, eval (.Name x px) X.env) :: starEach [] X.env := by rfl) (hpl : (backTo pos (starEach [.Name x px] X.env)).any (·.1) = false := by rfl) :
    DE X (.Call (.Name "isinstance" pf) [e, .Name x px] [] pos) (pIsiC k p) := fun g hK => by
  obtain ⟨C, c1, c2, c3, c4, c5, c6, c7, c8, c9⟩ := I.ex
  have mC : X.mg x = some (.ref C) := by rw [mC, c1]; rfl
  have e2 : ((PySem.W.clsIn X.K C).isSome && PySem.W.typeIn X.K (.ref C) == some (.type "type")) = true := by
    have z : (PySem.W.clsIn X.K C).isSome = true := c6
    rw [z, c5]; rfl
  refine (pe_callB call_isi hg hm (by decide +kernel) (pa_cons (he g hK) (pa_cons (pe_glob (v := .ref C) hgx mC rfl hdb) pa_nil hs2) hs) (he := hs) (hpl := hpl)).imp fun σ H Q ⟨n, F, ρ, R, ok, hq, kk⟩ => ?_
  refine ⟨n, F, ρ, _, ok, hq, fun n1 F1 H1 v d s1 ok1 r1 h1 => ?_⟩
  obtain ⟨hd, h1⟩ := h1
  cases hi : isK k d with
  | true =>
    rw [hi] at h1
    refine ⟨v, .ref C, .ref C, .ref C, true, rfl, .own C, I.ty hk ok1 r1 hK hi c1, ?_, kk n1 F1 H1 _ _ s1 ok1 (.bl _) h1⟩
    unfold PySem.W.kitOne
    rw [if_pos (by simp)]
  | false =>
    rw [hi] at h1 hd
    obtain ⟨t, ht⟩ : ∃ t, tyName d = some t := Option.isSome_iff_exists.mp (by simpa [plainD] using hd)
    refine ⟨v, .ref C, .type t, .ref C, false, rfl, .own C, by rw [← hK]; exact r1.ty ok1 ht, ?_, kk n1 F1 H1 _ _ s1 ok1 (.bl _) h1⟩
    unfold PySem.W.kitOne
    rw [if_neg (by simp)]
    show (if ((PySem.W.clsIn X.K C).isSome && PySem.W.typeIn X.K (.ref C) == some (.type "type")) = true then PySem.W.subIn X.K (.type t) (.ref C) else none) = some false
    rw [if_pos e2]
    exact c8 t (tyName_in ht)
end
/-! ### in by __contains__ -/
section
variable {X : Cx} {k : Nat} {C f : Addr} {fd : FuncData} {ps : List Str} {sp : Sp}
def rInM (C : Addr) (sp : Sp) : R2 := fun x y H Q => ∃ a dx fs, y = .ref a ∧ H a = some (.ins C dx fs) ∧ sp [y, x] H (fun v H' => ∃ b, v = .bl b ∧ Q (.bl b) H') (fun _ _ _ => False)
def rNotInM (C : Addr) (sp : Sp) : R2 := fun x y H Q => ∃ a dx fs, y = .ref a ∧ H a = some (.ins C dx fs) ∧ sp [y, x] H (fun v H' => ∃ b, v = .bl b ∧ Q (.bl (!b)) H') (fun _ _ _ => False)
theorem op_inM (F : FnG X.prog X.w X.K X.mg X.base k f fd ps sp) (hgd : X.A.guards = some []) (hr : Room k X.A) (hs : PySem.W.findIn X.K (.ref C) "__contains__" = some (some (.ref f))) (hf : PySem.W.isFn X.K (.ref f) = true) (hb : Binds X.K fd ps []) : OpR X (compareOp .In) (rInM C sp) := by
  intro pins s σ H x y v u Q I rx ry hq
  obtain ⟨a, dx, fs, rfl, ha, hsp⟩ := hq
  cases ry
  obtain ⟨mA, J, _⟩ := ins_get I.hok ha
  obtain ⟨od, J, _⟩ := J.look
  obtain ⟨m, hF⟩ := I.fr
  have hl := F.len _ _ _ _ hsp
  have b := hb s [.ref a, v] I.kIn (by simpa using hl)
  rw [List.append_nil] at b
  refine PySem.W.in_K hF I.ok.mod.kin J hs hf (wpAny_mono (run_g F hgd hr I b (.cons (show RelV (V.ref a) (Value.ref a) from rfl) (.cons rx .nil)) hsp) (fun r s' q => ?_) fun _ _ z => z)
  obtain ⟨z, H', I', rz, c, rfl, q⟩ := q
  cases rz
  exact wpAny_truthy_bool ⟨.bl c, H', I', rfl, q⟩
theorem op_notinM (F : FnG X.prog X.w X.K X.mg X.base k f fd ps sp) (hgd : X.A.guards = some []) (hr : Room k X.A) (hs : PySem.W.findIn X.K (.ref C) "__contains__" = some (some (.ref f))) (hf : PySem.W.isFn X.K (.ref f) = true) (hb : Binds X.K fd ps []) : OpR X (compareOp .NotIn) (rNotInM C sp) := by
  intro pins s σ H x y v u Q I rx ry hq
  obtain ⟨a, dx, fs, rfl, ha, hsp⟩ := hq
  cases ry
  obtain ⟨mA, J, _⟩ := ins_get I.hok ha
  obtain ⟨od, J, _⟩ := J.look
  obtain ⟨m, hF⟩ := I.fr
  have hl := F.len _ _ _ _ hsp
  have b := hb s [.ref a, v] I.kIn (by simpa using hl)
  rw [List.append_nil] at b
  refine PySem.W.notIn_K hF I.ok.mod.kin J hs hf (wpAny_mono (run_g F hgd hr I b (.cons (show RelV (V.ref a) (Value.ref a) from rfl) (.cons rx .nil)) hsp) (fun r s' q => ?_) fun _ _ z => z)
  obtain ⟨z, H', I', rz, c, rfl, q⟩ := q
  cases rz
  exact wpAny_truthy_bool ⟨.bl (!c), H', I', rfl, q⟩
/-! ### == by __eq__ -/
def rEqM (K : PySem.W.Frag) (C : Addr) (sp : Sp) : R2 := fun x y H Q => ∃ a dx fs t, x = .ref a ∧ H a = some (.ins C dx fs) ∧ TyX K H y t ∧ PySem.W.notFirst K C t = true ∧ sp [x, y] H (fun v H' => ∃ b, v = .bl b ∧ Q (.bl b) H') (fun _ _ _ => False)
def rNeM (K : PySem.W.Frag) (C : Addr) (sp : Sp) : R2 := fun x y H Q => ∃ a dx fs t, x = .ref a ∧ H a = some (.ins C dx fs) ∧ TyX K H y t ∧ PySem.W.notFirst K C t = true ∧ sp [x, y] H (fun v H' => ∃ b, v = .bl b ∧ Q (.bl (!b)) H') (fun _ _ _ => False)
theorem op_eqM (F : FnG X.prog X.w X.K X.mg X.base k f fd ps sp) (hgd : X.A.guards = some []) (hr : Room k X.A) (hs : PySem.W.findIn X.K (.ref C) "__eq__" = some (some (.ref f))) (hf : PySem.W.isFn X.K (.ref f) = true) (hb : Binds X.K fd ps []) : OpR X (compareOp .Eq) (rEqM X.K C sp) := by
  intro pins s σ H x y v u Q I rx ry hq
  obtain ⟨a, dx, fs, t, rfl, ha, ty, hn, hsp⟩ := hq
  cases rx
  obtain ⟨mA, J, _⟩ := ins_get I.hok ha
  obtain ⟨od, J, _⟩ := J.look
  obtain ⟨m, hF⟩ := I.fr
  obtain ⟨Pt, Z, p, _⟩ := kit_of I ry ty
  have hl := F.len _ _ _ _ hsp
  have b := hb s [.ref a, u] I.kIn (by simpa using hl)
  rw [List.append_nil] at b
  refine PySem.W.cmp_K (op := .Eq) (tb := t) hr.units0 hF I.ok.mod.kin J (Z.ty _ _ I.kIn p) hn hs hf (wpAny_mono (run_g F hgd hr I b (.cons (show RelV (V.ref a) (Value.ref a) from rfl) (.cons ry .nil)) hsp) (fun r s' q => ?_) fun _ _ z => z)
  obtain ⟨z, H', I', rz, c, rfl, q⟩ := q
  cases rz
  exact ⟨.bl c, H', I', rfl, q⟩
end
/-! ### != by __eq__ -/
section
open PySem.W
variable {prog : Program} {w : World} {A : Around} {E : Value → Shared → Prop} {s : Shared} {K : Frag} {a C L f : Addr} {h0 : Heap} {m : Str → Option Value} {oa : Obj} {od : Option Obj} {v t : Value}
theorem ne_oneK {Q : Value → Shared → Prop} (kin : K.In s.heap) (J : InstAt s.heap a oa C od) (hu : A.in1.units < cLine) (ho : subIn K (.ref C) (.type "object") = some true) (h1 : findIn K (.ref C) "__ne__" = some (some (.builtin "object.__ne__"))) (h2 : findIn K (.ref C) "__eq__" = some (some (.ref f))) (h3 : isFn K (.ref f) = true)
    (h : wpAny (model prog w) A.in1 (call (.ref f) [.ref a, v]) (fun r s' => ∃ c, r = .bool c ∧ Q (.bool (!c)) s') E s) : wpAny (model prog w) A (tryCompare (.ref a) "__ne__" v) (fun r s' => ∃ z, r = some z ∧ Q z s') E s := by
  unfold tryCompare
  refine wpAny_bind ?_
  simp only [callSpecialIfBound?, bindSpecialIfBound?]
  refine wpAny_holding (wpAny_bind (wpAny_bind (wpAny_bind (J.type.here ((looks_findIn kin h1).here ?_)))))
  have inner : wpAny (model prog w) A.in1 (Builtin.«object.__ne__» ⟨[.ref a, v], []⟩) (fun z s' => ∃ c, z = Fin.done (.ret (.bool c)) ∧ Q (.bool c) s') E s := by
    unfold Builtin.«object.__ne__»
    repeat (first
      | with_reducible refine wpAny_cRoomFor hu ?_
      | (refine wpAny_bind (m := callSpecialIfBound? (.ref a) (Str.ofString "__eq__") [v]) (ifBound_K kin J h2 h3 (wpAny_mono h (fun r s' q => ?_) fun _ _ z => z)); obtain ⟨c, rfl, q⟩ := q)
      | (refine wpAny_bind (m := truthy (.bool _)) (wpAny_truthy_bool ?_))
      | exact wpAny_pure ⟨_, rfl, q⟩
      | wp_step)
  have body : wpAny (model prog w) A (call (.builtin "object.__ne__") [.ref a, v]) (fun r s' => ∃ c, r = Value.bool c ∧ Q (.bool c) s') E s := by
    refine wpAny_call (codeAny_call_builtin F.slot_object_ne.plain F.cmpEntry_ne (check_slot F.cmpKind_ne F.cmpSplit_ne (J.type.andThen (looks_subIn kin ho)) (F.cmpArgs_ne _ _) (wpAny_mono inner ?_ fun _ _ z => z)))
    rintro _ s' ⟨c, rfl, q⟩
    exact ⟨c, rfl, q⟩
  refine wpAny_bind (wpAny_askSetting (wpAny_ite ?_))
  split
  · rw [F.slot_object_ne.bind]
    refine wpAny_bind (wpAny_pure (wpAny_pure ?_))
    show wpAny _ _ (call _ _ >>= _) _ _ _
    refine wpAny_bind (wpAny_mono body (fun r s' q => ?_) fun _ _ z => z)
    obtain ⟨c, rfl, q⟩ := q
    exact wpAny_pure (wpAny_pure ⟨_, rfl, q⟩)
  · rw [F.slot_object_ne.bind]
    refine wpAny_tryCatch (wpAny_bind (wpAny_pure (wpAny_pure ?_)))
    show wpAny _ _ (call _ _ >>= _) _ _ _
    refine wpAny_bind (wpAny_mono body (fun r s' q => ?_) fun _ _ z => z)
    obtain ⟨c, rfl, q⟩ := q
    exact wpAny_pure (wpAny_pure ⟨_, rfl, q⟩)
theorem rich_oneK {op : CmpOp} {Q : Value → Shared → Prop} (hu : A.units < cLine) (kin : K.In s.heap) (J : InstAt s.heap a oa C od) (ht : Looks (model prog w) s.heap (typeOf v) t) (hn : notFirst K C t = true)
    (h : wpAny (model prog w) A (tryCompare (.ref a) (cmpInfo op).2.1 v) (fun r s' => ∃ z, r = some z ∧ Q z s') E s) : wpAny (model prog w) A (richCompare op (.ref a) v) Q E s := by
  unfold richCompare
  simp only [oneThing_ref]
  refine wpAny_holding (wpAny_bind (wpAny_cRoomFor hu (wpAny_bind (J.type.here (wpAny_bind (ht.here ?_))))))
  split
  · rename_i q
    have sb : subIn K t (.ref C) = some false := by
      rcases Bool.or_eq_true_iff.mp hn with z | z
      · rw [beq_iff_eq.mp z] at q; simp at q
      · exact beq_iff_eq.mp z
    refine wpAny_bind ((looks_subIn kin sb).here ?_)
    rw [if_neg Bool.false_ne_true]
    refine wpAny_bind (wpAny_mono h (fun r s' z => ?_) fun _ _ z => z)
    obtain ⟨y, rfl, yq⟩ := z
    exact wpAny_pure yq
  · refine wpAny_bind (wpAny_pure ?_)
    rw [if_neg Bool.false_ne_true]
    refine wpAny_bind (wpAny_mono h (fun r s' z => ?_) fun _ _ z => z)
    obtain ⟨y, rfl, yq⟩ := z
    exact wpAny_pure yq
end
section
variable {X : Cx} {k : Nat} {C f : Addr} {fd : FuncData} {ps : List Str} {sp : Sp}
theorem op_neM (F : FnG X.prog X.w X.K X.mg X.base k f fd ps sp) (hgd : X.A.guards = some []) (hr : Room (k + 1) X.A) (ho : PySem.W.subIn X.K (.ref C) (.type "object") = some true) (h1 : PySem.W.findIn X.K (.ref C) "__ne__" = some (some (.builtin "object.__ne__"))) (hs : PySem.W.findIn X.K (.ref C) "__eq__" = some (some (.ref f))) (hf : PySem.W.isFn X.K (.ref f) = true) (hb : Binds X.K fd ps []) : OpR X (compareOp .NotEq) (rNeM X.K C sp) := by
  intro pins s σ H x y v u Q I rx ry hq
  obtain ⟨a, dx, fs, t, rfl, ha, ty, hn, hsp⟩ := hq
  cases rx
  obtain ⟨mA, J, _⟩ := ins_get I.hok ha
  obtain ⟨od, J, _⟩ := J.look
  obtain ⟨Pt, Z, p, _⟩ := kit_of I ry ty
  have hl := F.len _ _ _ _ hsp
  have b := hb s [.ref a, u] I.kIn (by simpa using hl)
  rw [List.append_nil] at b
  refine rich_oneK (op := .NotEq) hr.units0 I.kIn J (Z.ty _ _ I.kIn p) hn (ne_oneK I.kIn J hr.in1.units0 ho h1 hs hf ?_)
  have e0 := I.env0
  refine wpAny_call (codeAny_mono (F.run X.A.in1 X.stack s H ⟨[.ref a, u], []⟩ [.ref a, u] [.ref a, y] _ _ hgd hr.in1 ⟨e0.frames, e0.mod, e0.bs, e0.bsz, e0.funs, e0.frf, e0.hok, e0.bare⟩ b (.cons (show RelV (V.ref a) (Value.ref a) from rfl) (.cons ry .nil)) hsp) fun r s' hq => ?_)
  obtain ⟨z, rfl, v', H', I', rz, c, rfl, q⟩ := cr_end (P := X.prog) (w := X.w) I hq
  cases rz
  exact ⟨_, rfl, .bl (!c), H', I', rfl, q⟩
end
/-! ### lifted -/
section
variable {X : Cx} {e a b : Expr} {p pa pb : TPE} {pos : Pos} {k kc : Nat} {S : Spec} {ps : List Str}
/-- what a method of an operator answers -/
def asBl (neg : Bool) (R : D → Nat → Prop) : D → Nat → Prop := fun z m => match z with | .bl b => R (.bl (b != neg)) m | _ => False
def pInM (kc : Nat) (neg : Bool) (S : Spec) (pa pb : TPE) : TPE := fun ρ n R => pa ρ n fun d n1 => pb ρ n1 fun e n2 => isK kc e = true ∧ callZ S [e, d] n2 (asBl neg R) (shut (asBl neg R))
def pEqM (kc : Nat) (neg : Bool) (S : Spec) (pa pb : TPE) : TPE := fun ρ n R => pa ρ n fun d n1 => pb ρ n1 fun e n2 => isK kc d = true ∧ (plainD e || isK kc e) = true ∧ callZ S [d, e] n2 (asBl neg R) (shut (asBl neg R))
theorem ins_at {K : PySem.W.Frag} {C : Addr} {g : G} {n : Nat} {F H : Hp} {σ : L2.St} {ρ : PEnv} {x : V} {d : D} (ok : Ok g n F H σ ρ) (r : Rep g.c F x d) (hk : isK kc d = true) (hK : g.c.K = K) (hn : kc ≠ 999) (hC : clsOf K kc = some C) : ∃ a dx fs, x = .ref a ∧ H a = some (.ins C dx fs) := RR.ins ok (.inl r) hk hK hn hC
theorem asBl_of {neg : Bool} {R : D → Nat → Prop} {z : D} {m : Nat} (h : asBl neg R z m) : ∃ b, z = .bl b ∧ R (.bl (b != neg)) m := by
  cases z <;> first | exact False.elim h | skip
  exact ⟨_, rfl, h⟩
theorem call_at {g : G} {n : Nat} {F H : Hp} {σ : L2.St} {ρ : PEnv} {R : D → Nat → Prop} {neg : Bool} {ds : List D} {vs : List V} {Q : VK} {E : XK} (ok : Ok g n F H σ ρ) (r : Reps g.c F vs ds) (h : callZ S ds n (asBl neg R) (shut (asBl neg R)))
    (k : ∀ n' F' H' v d, Same F F' → Ok g n' F' H' σ ρ → Rep g.c F' v d → R d n' → Q v H') : spP g.c.K S vs H (fun v H' => ∃ b, v = .bl b ∧ Q (.bl (b != neg)) H') E :=
  LA.fn (t := pNil) ok r h fun n' F' H' v d s2 ok2 r2 h2 => by
    obtain ⟨b, rfl, h3⟩ := asBl_of h2
    cases r2
    exact ⟨b, rfl, k n' F' H' _ _ s2 ok2 (.bl _) h3⟩
theorem bne_false' (b : Bool) : (b != false) = b := by cases b <;> rfl
theorem bne_true' (b : Bool) : (b != true) = !b := by cases b <;> rfl
theorem de_inM (M : MetC X.prog X.w X.K X.mg X.base k "__contains__" kc ps S) (hgd : X.A.guards = some []) (hr : Room k X.A) (ha : DE X a pa) (hb : DE X b pb) (hn : kc ≠ 999 := by decide) (hm : behindInMarks .In b = false := by rfl) : DE X (.Compare a [.In] [b] pos) (pInM kc false S pa pb) := fun g hK => by
  obtain ⟨C, f, fd, h1, h2, h3, h4, h5⟩ := M
  refine (pe_cmpR (op_inM h1 hgd hr h3 h4 h5) (ha g hK) (hb g hK) hm).imp fun σ H Q ⟨n, F, ρ, R, ok, hq, kk⟩ => ?_
  refine ⟨n, F, ρ, _, ok, hq, fun n1 F1 H1 x d s1 ok1 r1 q1 => ⟨n1, F1, ρ, _, ok1, q1, fun n2 F2 H2 y e s2 ok2 r2 q2 => ?_⟩⟩
  obtain ⟨u, dx, fs, rfl, hu⟩ := ins_at ok2 r2 q2.1 hK hn h2
  have z := call_at (Q := Q) (E := fun _ _ _ => False) ok2 (.cons r2 (.cons (r1.mono s2) .nil)) q2.2 fun n' F' H' v d' s3 ok3 r3 hR => kk n' F' H' v d' (s1.trans (s2.trans s3)) ok3 r3 hR
  rw [hK] at z
  simp only [bne_false'] at z
  exact ⟨u, dx, fs, rfl, hu, z⟩
theorem de_notinM (M : MetC X.prog X.w X.K X.mg X.base k "__contains__" kc ps S) (hgd : X.A.guards = some []) (hr : Room k X.A) (ha : DE X a pa) (hb : DE X b pb) (hn : kc ≠ 999 := by decide) (hm : behindInMarks .NotIn b = false := by rfl) : DE X (.Compare a [.NotIn] [b] pos) (pInM kc true S pa pb) := fun g hK => by
  obtain ⟨C, f, fd, h1, h2, h3, h4, h5⟩ := M
  refine (pe_cmpR (op_notinM h1 hgd hr h3 h4 h5) (ha g hK) (hb g hK) hm).imp fun σ H Q ⟨n, F, ρ, R, ok, hq, kk⟩ => ?_
  refine ⟨n, F, ρ, _, ok, hq, fun n1 F1 H1 x d s1 ok1 r1 q1 => ⟨n1, F1, ρ, _, ok1, q1, fun n2 F2 H2 y e s2 ok2 r2 q2 => ?_⟩⟩
  obtain ⟨u, dx, fs, rfl, hu⟩ := ins_at ok2 r2 q2.1 hK hn h2
  have z := call_at (Q := Q) (E := fun _ _ _ => False) ok2 (.cons r2 (.cons (r1.mono s2) .nil)) q2.2 fun n' F' H' v d' s3 ok3 r3 hR => kk n' F' H' v d' (s1.trans (s2.trans s3)) ok3 r3 hR
  rw [hK] at z
  simp only [bne_true'] at z
  exact ⟨u, dx, fs, rfl, hu, z⟩
theorem InsT.first {K : PySem.W.Frag} (I : InsT K kc) {C : Addr} (hC : clsOf K kc = some C) {g : G} {n : Nat} {F H : Hp} {σ : L2.St} {ρ : PEnv} {x : V} {d : D} (hn : kc ≠ 999) (ok : Ok g n F H σ ρ) (r : Rep g.c F x d) (hK : g.c.K = K) (hd : (plainD d || isK kc d) = true) : ∃ t, TyX K H x t ∧ PySem.W.notFirst K C t = true := by
  cases hi : isK kc d with
  | true => exact ⟨_, I.ty hn ok (.inl r) hK hi hC, by unfold PySem.W.notFirst; simp⟩
  | false =>
    rw [hi, Bool.or_false] at hd
    obtain ⟨t, ht⟩ : ∃ t, tyName d = some t := Option.isSome_iff_exists.mp hd
    obtain ⟨C', c1, c2, c3, c4, c5, c6, c7, c8, c9⟩ := I.ex
    rw [hC] at c1
    cases c1
    refine ⟨.type t, by rw [← hK]; exact RR.ty ok (.inl r) ht, ?_⟩
    unfold PySem.W.notFirst
    rw [c8 t (tyName_in ht)]
    simp
theorem de_eqM (I : InsT X.K kc) (M : MetC X.prog X.w X.K X.mg X.base k "__eq__" kc ps S) (hgd : X.A.guards = some []) (hr : Room k X.A) (ha : DE X a pa) (hb : DE X b pb) (hn : kc ≠ 999 := by decide) (hm : behindInMarks .Eq b = false := by rfl) : DE X (.Compare a [.Eq] [b] pos) (pEqM kc false S pa pb) := fun g hK => by
  obtain ⟨C, f, fd, h1, h2, h3, h4, h5⟩ := M
  refine (pe_cmpR (op_eqM h1 hgd hr h3 h4 h5) (ha g hK) (hb g hK) hm).imp fun σ H Q ⟨n, F, ρ, R, ok, hq, kk⟩ => ?_
  refine ⟨n, F, ρ, _, ok, hq, fun n1 F1 H1 x d s1 ok1 r1 q1 => ⟨n1, F1, ρ, _, ok1, q1, fun n2 F2 H2 y e s2 ok2 r2 q2 => ?_⟩⟩
  obtain ⟨u, dx, fs, rfl, hu⟩ := ins_at ok2 (r1.mono s2) q2.1 hK hn h2
  obtain ⟨t, ty, nf⟩ := I.first h2 hn ok2 r2 hK q2.2.1
  have z := call_at (Q := Q) (E := fun _ _ _ => False) ok2 (.cons (r1.mono s2) (.cons r2 .nil)) q2.2.2 fun n' F' H' v d' s3 ok3 r3 hR => kk n' F' H' v d' (s1.trans (s2.trans s3)) ok3 r3 hR
  rw [hK] at z
  simp only [bne_false'] at z
  exact ⟨u, dx, fs, t, rfl, hu, ty, nf, z⟩
theorem de_neM (I : InsT X.K kc) (M : MetC X.prog X.w X.K X.mg X.base k "__eq__" kc ps S) (hgd : X.A.guards = some []) (hr : Room (k + 1) X.A) (ha : DE X a pa) (hb : DE X b pb) (hn : kc ≠ 999 := by decide) (hm : behindInMarks .NotEq b = false := by rfl) : DE X (.Compare a [.NotEq] [b] pos) (pEqM kc true S pa pb) := fun g hK => by
  obtain ⟨C, f, fd, h1, h2, h3, h4, h5⟩ := M
  obtain ⟨C', c1, c2, c3, c4, c5, c6, c7, c8, c9, c10⟩ := I.ex
  have e : C' = C := by rw [h2] at c1; cases c1; rfl
  subst e
  refine (pe_cmpR (op_neM h1 hgd hr c9 c10 h3 h4 h5) (ha g hK) (hb g hK) hm).imp fun σ H Q ⟨n, F, ρ, R, ok, hq, kk⟩ => ?_
  refine ⟨n, F, ρ, _, ok, hq, fun n1 F1 H1 x d s1 ok1 r1 q1 => ⟨n1, F1, ρ, _, ok1, q1, fun n2 F2 H2 y e s2 ok2 r2 q2 => ?_⟩⟩
  obtain ⟨u, dx, fs, rfl, hu⟩ := ins_at ok2 (r1.mono s2) q2.1 hK hn h2
  obtain ⟨t, ty, nf⟩ := I.first h2 hn ok2 r2 hK q2.2.1
  have z := call_at (Q := Q) (E := fun _ _ _ => False) ok2 (.cons (r1.mono s2) (.cons r2 .nil)) q2.2.2 fun n' F' H' v d' s3 ok3 r3 hR => kk n' F' H' v d' (s1.trans (s2.trans s3)) ok3 r3 hR
  rw [hK] at z
  simp only [bne_true'] at z
  exact ⟨u, dx, fs, t, rfl, hu, ty, nf, z⟩
end
section
variable (ρ : PEnv) (n k kc : Nat) (neg : Bool) (R : D → Nat → Prop) (p pa pb : TPE) (S : Spec) (T : String) (i j : Nat) (d : D) (Z : PEnv → Nat → Prop)
theorem q_inm : pInM kc neg S pa pb ρ n R = pa ρ n fun d n1 => pb ρ n1 fun e n2 => isK kc e = true ∧ callZ S [e, d] n2 (asBl neg R) (shut (asBl neg R)) := rfl
theorem q_eqm : pEqM kc neg S pa pb ρ n R = pa ρ n fun d n1 => pb ρ n1 fun e n2 => isK kc d = true ∧ (plainD e || isK kc e) = true ∧ callZ S [d, e] n2 (asBl neg R) (shut (asBl neg R)) := rfl
theorem q_isia : pIsiA T k p ρ n R = p ρ n fun d m => match tyName d with
  | some t => match kitB t T with | some b => R (.bl b) m | none => False
  | none => isK k d = true ∧ R (.bl false) m := rfl
theorem q_isic : pIsiC k p ρ n R = p ρ n fun d m => (plainD d || isK k d) = true ∧ R (.bl (isK k d)) m := rfl
theorem q_gfset : gFSet i k j d ρ n Z = match (ρ[i]? : Option Cell) with
  | some (.own (.obj k' ds)) => k' % 1000 = k ∧ ds.length = j ∧ Z (ρ.set i (.own (.obj k' (ds ++ [d])))) n
  | _ => False := rfl
theorem asBl_f (b : Bool) : asBl false R (.bl b) n = R (.bl b) n := by cases b <;> rfl
theorem asBl_t (b : Bool) : asBl true R (.bl b) n = R (.bl (!b)) n := by cases b <;> rfl
end
end PL

/-! PL: unpacking of tuples and lists, {k: v for ..}, dict(list of pairs), list(range(..)). -/
namespace PL
open PySem PySem.Spec L2
/-! ### (a, b, ..) = a tuple or a list -/
theorem _root_.L2.PG.or {X : Cx} {tg : Expr} {t t' : L2.TG} (h : PG X tg t) (h' : PG X tg t') : PG X tg (fun v σ H Q => t v σ H Q ∨ t' v σ H Q) := ⟨fun pins s σ H v u Q I r q => q.elim (fun q => h.run pins s σ H v u Q I r q) fun q => h'.run pins s σ H v u Q I r q⟩
def gSeq (k : Nat) (t : TPGs) : TPG := fun d ρ n S => match d with | .tup ds => ds.length = k ∧ t ds ρ n S | .lst ds => ds.length = k ∧ t ds ρ n S | _ => False
theorem dg_seq {X : Cx} {pos : Pos} {es : List Expr} {u : TPGs} {kk m : Nat} {is : List Nat} (h : DGs X es u is) (hc : X.calm = true := by rfl) (hn : (assignEach es X.env).length = m := by rfl) (hst : (assignEach es X.env).findIdx? (·.1) = none := by rfl) : DG X (.Tuple es kk pos) (gSeq m u) is := fun g hK => ((pg_tup hc (h g hK) hn hst).or (pg_unl hc (h g hK) hn hst)).imp fun v σ H Q ⟨n, F, ρ, d, S, ok, r, h, k⟩ => by
  revert h r
  cases d <;> intro r h <;> first | exact False.elim h | skip
  · cases r with
    | lst hT rs => exact .inr ⟨_, _, rfl, SqL.of (ok.sub _ _ hT), by rw [rs.length]; exact h.1, n, F, ρ, _, S, ok, rs, h.2, k⟩
  · cases r with
    | tup hT rs =>
      refine .inl ⟨_, _, rfl, ?_, by rw [rs.length]; exact h.1, n, F, ρ, _, S, ok, rs, h.2, k⟩
      rw [← hK]
      exact Same.seqT ok.sub hT
/-! ### {k: v for ..}, keys whole numbers or texts -/
def dkW (t : TPG) (tt : TPT) (tk tv : TPE) : List D → List Key → List D → PEnv → Nat → (D → Nat → Prop) → Prop
  | [], ks, es, _, n, R => R (.dic ks es) n
  | d :: ds, ks, es, ρ, n, R => t d ρ n fun ρ1 n1 => tt ρ1 n1 fun b n2 => if b = true then tk ρ1 n2 fun y n3 => tv ρ1 n3 fun z n4 => (match dKey y with | some j => dkW t tt tk tv ds (dKeys ks j) (dVals ks es j z) ρ n4 R | none => False) else dkW t tt tk tv ds ks es ρ n2 R
def pDk (pi : TPA) (t : TPG) (tt : TPT) (tk tv : TPE) (vs : List Nat) : TPE := fun ρ n R => pi ρ n fun ds m => ds.length ≤ sizeLine ∧ noOwn ρ vs = true ∧ dkW t tt tk tv ds [] [] (wipeC ρ vs) m R
theorem dk_sound {g : G} {pi : TPA} {t : TPG} {is : List Nat} {tt : TPT} {tk tv : TPE} {vs : List Nat} (his : ∀ j ∈ is, j ∈ vs) {σ : L2.St} {H : Hp} {Q : VK} (h : LF g (pDk pi t tt tk tv vs) σ H Q) :
    tDc (LI g pi) (XG g.c.K t is) (XT g.c.K tt) (XE g.c.K tk) (XE g.c.K tv) vs σ H Q := by
  obtain ⟨n, F, ρ, R, ok, h, k⟩ := h
  refine ⟨n, F, ρ, _, ok, h, fun n1 F1 H1 ds J s1 ok1 h1 hJ a ha => ?_⟩
  obtain ⟨hz, hno, h1⟩ := h1
  have h0 := ok1.freeH0 ha
  have hp := ok1.freeP ha
  refine ⟨fun i m H => m = ds.length - i ∧ i ≤ ds.length ∧ ∃ n F2 ks xs es, Same F1 F2 ∧ Ok (g.pinned a (.dK (ks.zip xs))) n F2 H (L2.wipe σ vs) (wipeC ρ vs) ∧ ks.length = xs.length ∧ Reps g.c F2 xs es ∧ ks.length ≤ i ∧ dkW t tt tk tv (ds.drop i) ks es (wipeC ρ vs) n R,
    ⟨_, rfl, Nat.zero_le _, n1, F1, [], [], [], Same.refl _, (ok1.wipe _).pinNew (.dK []) ha, rfl, .nil, Nat.le_refl _, h1⟩, ?_⟩
  rintro i m H2 ⟨rfl, hi, n2, F2, ks, xs, es, s2, ok2, hl, ra, la, h2⟩
  obtain ⟨st, gg⟩ := hJ _ n2 F2 H2 _ _ (by rfl) s2 ok2
  cases hd : ds.drop i with
  | nil =>
    have hl' : i = ds.length := by
      have := List.drop_eq_nil_iff.mp hd
      omega
    subst hl'
    rw [hd] at h2
    have p1 := ok2.pinAt.1
    refine .inl ⟨st, ?_⟩
    have ok3 := ok1.restore s2 rfl (ok2.unpin h0 hp) hno
    have := k n2 F2 (erase H2 a) a (.dK (ks.zip xs)) (.dic ks es) (s1.trans s2) ok3 (erase_same _ _) (.dic hl ra) h2
    rw [upd_erase p1] at this
    exact this
  | cons d r =>
    obtain ⟨gd, gr⟩ := drop_get hd
    rw [hd] at h2
    obtain ⟨go, yl⟩ := gg i d gd
    have hlt : i < ds.length := lt_of_get gd
    refine .inr ⟨go, fun H => ∃ n F2 ks xs es, Same F1 F2 ∧ Ok (g.pinned a (.dK (ks.zip xs))) n F2 H (L2.wipe σ vs) (wipeC ρ vs) ∧ ks.length = xs.length ∧ Reps g.c F2 xs es ∧ ks.length ≤ i + 1 ∧ dkW t tt tk tv (ds.drop (i + 1)) ks es (wipeC ρ vs) n R, fun H' q => ⟨_, by omega, rfl, hlt, q⟩, fun x H3 y => ?_⟩
    obtain ⟨F3, s3, ok3, r3⟩ := yl x H3 y
    refine ⟨g.pinned a (.dK (ks.zip xs)), rfl, n2, F3, _, d, _, ok3, r3, h2, fun n4 F4 H4 σ4 ρ4 s4 ok4 j4 h4 => ?_⟩
    obtain ⟨w1, w2⟩ := j4 vs his
    rw [wipe_wipe σ vs vs fun j hj => hj] at w1
    rw [wipeC_wipeC ρ vs vs fun j hj => hj] at w2
    have back : ∀ {n' : Nat} {F' H' : Hp}, Ok (g.pinned a (.dK (ks.zip xs))) n' F' H' σ4 ρ4 → Ok (g.pinned a (.dK (ks.zip xs))) n' F' H' (wipe σ vs) (wipeC ρ vs) := fun {n' F' H'} o => by
      have := o.wipe vs
      rw [w1, w2] at this
      exact this
    refine ⟨w1, g.pinned a (.dK (ks.zip xs)), rfl, n4, F4, ρ4, _, ok4, h4, fun n5 F5 H5 b s5 ok5 h5 => ?_⟩
    have s15 := s2.trans (s3.trans (s4.trans s5))
    cases b with
    | false => exact ⟨n5, F5, ks, xs, es, s15, back ok5, hl, ra.mono (s3.trans (s4.trans s5)), by omega, by rw [gr]; exact h5⟩
    | true =>
      refine ⟨g.pinned a (.dK (ks.zip xs)), rfl, n5, F5, ρ4, _, ok5, h5, fun n6 F6 H6 y6 d6 s6 ok6 r6 h6 => ?_⟩
      refine ⟨g.pinned a (.dK (ks.zip xs)), rfl, n6, F6, ρ4, _, ok6, h6, fun n7 F7 H7 z d7 s7 ok7 r7 h7 => ?_⟩
      have ra7 := ra.mono (s3.trans (s4.trans (s5.trans (s6.trans s7))))
      have h7 : (match dKey d6 with | some j => dkW t tt tk tv r (dKeys ks j) (dVals ks es j d7) (wipeC ρ vs) n7 R | none => False) := h7
      split at h7
      · rename_i j hj
        have ey := RR.key ok6 (.inl r6) hj
        subst ey
        obtain ⟨zs, z1, z2, z3⟩ := put_zip (j := j) hl ra7 r7
        refine ⟨_, j, rfl, ok7.pinAt.1, ?_, n7, F7, dKeys ks j, zs, dVals ks es j d7, s15.trans (s6.trans s7), ?_, z2, z3, ?_, by rw [gr]; exact h7⟩
        · rw [List.length_zip, ← hl, Nat.min_self]; omega
        · rw [z1]; exact (back ok7).pinWrite h0 _
        · have := dKeys_len ks j; omega
      · exact h7.elim
section
variable {X : Cx} {pos : Pos}
theorem fe_dk {kx vx tg iter : Expr} {ifs : List Expr} {scope : Scope} {own : List (Str × Nat)} {pi : TPA} {t : TPG} {is : List Nat} {tt : TPT} {tk tv : TPE} (hi : DI X tg iter pi) (hN : X.N.Nodup) (ok : BlkOk X.N X.env.scope scope own) (his : ∀ j ∈ is, j ∈ own.map (·.2))
    (hg : AtBlk X scope fun Y => DG Y tg t is) (ht : AtBlk X scope fun Y => DTs Y ifs tt) (hk : AtBlk X scope fun Y => DE Y kx tk) (hv : AtBlk X scope fun Y => DE Y vx tv) (hc : X.calm = true := by rfl) (hs : ∀ x, foldedSetIterable iter X.env x = pure x := by intro _; rfl) :
    FE X (.DictComp kx vx [⟨tg, iter, ifs, 0⟩] scope pos) (pDk pi t tt tk tv (own.map (·.2))) := fun g hK =>
  (pe_dc hc hN (hi g hK) ok (fun s H C cl fp => (⟨fun pins s σ H v u Q I r ⟨g', hK', q⟩ => ((hg _ _ C cl fp) g' (hK'.trans hK)).run pins s σ H v u Q I r q⟩ : PG _ tg (XG g.c.K t is)))
    (fun s H C cl fp => (⟨fun pins s σ H Q I ⟨g', hK', q⟩ => ((ht _ _ C cl fp) g' (hK'.trans hK)).run pins s σ H Q I q⟩ : PTs _ ifs (XT g.c.K tt)))
    (fun s H C cl fp => (⟨fun pins s σ H Q I ⟨g', hK', q⟩ => ((hk _ _ C cl fp) g' (hK'.trans hK)).run pins s σ H Q I q⟩ : PE _ kx (XE g.c.K tk)))
    (fun s H C cl fp => (⟨fun pins s σ H Q I ⟨g', hK', q⟩ => ((hv _ _ C cl fp) g' (hK'.trans hK)).run pins s σ H Q I q⟩ : PE _ vx (XE g.c.K tv))) hs).imp fun σ H Q h => dk_sound his h
end
/-! ### dict(list of pairs) -/
def asPairs : List D → Option (List (Key × D))
  | [] => some []
  | .tup [k, d] :: ds => match dKey k, asPairs ds with | some j, some ps => some ((j, d) :: ps) | _, _ => none
  | _ => none
/-- later pairs win, the place is the first one's -/
def mergeD : List (Key × D) → List Key → List D → List Key × List D
  | [], ks, es => (ks, es)
  | (j, d) :: ps, ks, es => mergeD ps (dKeys ks j) (dVals ks es j d)
theorem merge_rep {c : Cfg} {F : Hp} : ∀ {ps : List (Key × D)} {vs : List V} {ks : List Key} {xs : List V} {es : List D}, Reps c F vs (ps.map (·.2)) → ks.length = xs.length → Reps c F xs es →
    ∃ ys, mergeK (ks.zip xs) ((ps.map (·.1)).zip vs) = (mergeD ps ks es).1.zip ys ∧ (mergeD ps ks es).1.length = ys.length ∧ Reps c F ys (mergeD ps ks es).2
  | [], [], ks, xs, es, _, hl, rs => ⟨xs, rfl, hl, rs⟩
  | (j, d) :: ps, v :: vs, ks, xs, es, .cons r t, hl, rs => by
    obtain ⟨zs, z1, z2, z3⟩ := put_zip (j := j) hl rs r
    obtain ⟨ys, y1, y2, y3⟩ := merge_rep (ps := ps) t z2 z3
    refine ⟨ys, ?_, y2, y3⟩
    rw [← z1] at y1
    exact y1
theorem key_rep {c : Cfg} {F : Hp} {v : V} {d : D} {k : Key} (r : Rep c F v d) (h : dKey d = some k) : v = kV k := by
  cases d <;> first | cases h; done | skip
  · cases h; cases r; rfl
  · cases h; cases r; rfl
theorem pairs_rep {K : PySem.W.Frag} {c : Cfg} {F H : Hp} (hK : c.K = K) (s : Same F H) : ∀ {ds : List D} {xs : List V} {ps : List (Key × D)}, Reps c F xs ds → asPairs ds = some ps →
    ∃ (as : List Addr) (vs : List V), xs = as.map V.ref ∧ Reps c F vs (ps.map (·.2)) ∧ Paired (fun p kv => SqT K H p [kV kv.1, kv.2]) as ((ps.map (·.1)).zip vs)
  | [], [], ps, _, h => by cases h; exact ⟨[], [], rfl, .nil, .nil⟩
  | d :: ds, x :: xs, ps, .cons r t, h => by
    unfold asPairs at h
    split at h
    · rename_i q; cases q
    · rename_i k e ds' hd
      cases hd
      split at h
      · rename_i j qs hj hq
        cases h
        obtain ⟨as, vs, rfl, rv, pv⟩ := pairs_rep hK s t hq
        cases r with
        | tup hT rs =>
          rename_i a us
          cases rs with
          | cons rk rs =>
            cases rs with
            | cons re rs =>
              cases rs
              obtain rfl := key_rep rk hj
              exact ⟨a :: as, _ :: vs, rfl, .cons re rv, .cons (by rw [← hK]; exact Same.seqT s hT) pv⟩
      · cases h
    · cases h
section
variable {X : Cx} {e a b : Expr} {p pa pb : TPE} {pf p2 pos : Pos} {ta : TPA}
def oDictP (ds : List D) (R : D → Prop) : Prop := match ds with
  | [.lst xs] => (match asPairs xs with | some ps => R (.dic (mergeD ps [] []).1 (mergeD ps [] []).2) | none => False)
  | _ => False
def pDict (t : TPA) : TPE := pCall oDictP t
theorem fe_dict (hm : X.mg "dict" = none) (hg : Gl X "dict") (ha : DA X [e] ta) (hc : X.calm = true := by rfl) (he : starEach [e] X.env = (false, eval e X.env) :: starEach [] X.env := by rfl) : FE X (.Call (.Name "dict" pf) [e] [] pos) (pDict ta) := fun g hK =>
  (pe_callTy (call_dictP hc) hg hm (by decide +kernel) (ha g hK) (he := he) (hpl := rfl)).imp fun σ H Q ⟨n, F, ρ, R, ok, hq, k⟩ =>
  ⟨n, F, ρ, _, ok, hq, fun n1 F1 H1 vs ds s1 ok1 r1 h1 => by
    have h1 : oDictP ds fun z => R z n1 := h1
    match ds, r1, h1 with
    | [.lst zs], .cons (.lst e1 t1) .nil, h1 =>
      have h1 : (match asPairs zs with | some ps => R (.dic (mergeD ps [] []).1 (mergeD ps [] []).2) n1 | none => False) := h1
      split at h1
      · rename_i ps hz
        obtain ⟨as, us, rfl, ru, pu⟩ := pairs_rep hK ok1.sub t1 hz
        obtain ⟨ys, y1, y2, y3⟩ := merge_rep (ks := []) (xs := []) (es := []) ru rfl .nil
        refine ⟨_, as, _, rfl, SqL.of (ok1.sub _ _ e1), pu, fun q hn => ?_⟩
        have := k n1 F1 H1 q _ _ s1 ok1 hn (.dic y2 y3) h1
        rw [← y1] at this
        exact this
      · exact h1.elim⟩
/-! ### list(range(..)) -/
def rgD (a b : Int) : List D := (List.range (b - a).toNat).map fun i => .int (a + (i : Nat))
theorem rgD_rep {c : Cfg} {F : Hp} (a b : Int) : Reps c F (rgV a b) (rgD a b) := by
  unfold rgV rgD
  generalize List.range (b - a).toNat = l
  induction l with
  | nil => exact .nil
  | cons x l ih => exact .cons (.int _) ih
def pLRg1 (p : TPE) : TPE := fun ρ n R => p ρ n fun d m => match d with | .int i => (0 ≤ i ∧ i ≤ 16777216) ∧ R (.lst (rgD 0 i)) m | _ => False
def pLRg2 (p q : TPE) : TPE := fun ρ n R => p ρ n fun d m => q ρ m fun e m2 => match d, e with | .int i, .int j => (0 ≤ i ∧ j ≤ 16777216 ∧ i ≤ 16777216 ∧ 0 ≤ j) ∧ R (.lst (rgD i j)) m2 | _, _ => False
theorem fe_lrg1 (hm : X.mg "list" = none) (hg : Gl X "list") (hm2 : X.mg "range" = none) (hg2 : Gl X "range") (ha : SE X a pa) (hc : X.calm = true := by rfl)
    (n1 : starEach [a] X.env = (false, eval a X.env) :: starEach [] X.env := by rfl) (n2 : starEach [.Call (.Name "range" p2) [a] [] pf] X.env = (false, eval (.Call (.Name "range" p2) [a] [] pf) X.env) :: starEach [] X.env := by rfl) {p3 : Pos} :
    FE X (.Call (.Name "list" p3) [.Call (.Name "range" p2) [a] [] pf] [] pos) (pLRg1 pa) := fun g hK =>
  (pe_listRg hc hg hm (prg_1 hg2 hm2 (ha g hK) n1) n2).imp fun σ H Q ⟨n, F, ρ, R, ok, hq, k⟩ =>
  ⟨n, F, ρ, _, ok, hq, fun n1 F1 H1 v d s1 ok1 r1 h1 => by
    match d, r1, h1 with
    | .int i, r1, ⟨⟨b1, b2⟩, h1⟩ => exact ⟨i, r1.int ok1, RgOk.of_le (by omega) b2 (by omega) b1, fun q hn => k n1 F1 H1 q _ _ s1 ok1 hn (.lst (rgD_rep 0 i)) h1⟩⟩
theorem fe_lrg2 (hm : X.mg "list" = none) (hg : Gl X "list") (hm2 : X.mg "range" = none) (hg2 : Gl X "range") (ha : SE X a pa) (hb : SE X b pb) (hc : X.calm = true := by rfl)
    (n1 : starEach [a, b] X.env = (false, eval a X.env) :: starEach [b] X.env := by rfl) (n3 : starEach [b] X.env = (false, eval b X.env) :: starEach [] X.env := by rfl) (n2 : starEach [.Call (.Name "range" p2) [a, b] [] pf] X.env = (false, eval (.Call (.Name "range" p2) [a, b] [] pf) X.env) :: starEach [] X.env := by rfl) (hp : (backTo pf (starEach [b] X.env)).any (·.1) = false := by rfl) {p3 : Pos} :
    FE X (.Call (.Name "list" p3) [.Call (.Name "range" p2) [a, b] [] pf] [] pos) (pLRg2 pa pb) := fun g hK =>
  (pe_listRg hc hg hm (prg_2 hg2 hm2 (ha g hK) (hb g hK) n1 n3 hp) n2).imp fun σ H Q ⟨n, F, ρ, R, ok, hq, k⟩ =>
  ⟨n, F, ρ, _, ok, hq, fun n1 F1 H1 v d s1 ok1 r1 h1 => ⟨n1, F1, ρ, _, ok1, h1, fun n2 F2 H2 w e s2 ok2 r2 h2 => by
    match d, r1, e, r2, h2 with
    | .int i, r1, .int j, r2, ⟨⟨b1, b2, b3, b4⟩, h2⟩ => exact ⟨i, j, r1.int ok1, r2.int ok2, RgOk.of_le b1 b2 b3 b4, fun q hn => k n2 F2 H2 q _ _ (s1.trans s2) ok2 hn (.lst (rgD_rep i j)) h2⟩⟩⟩
end
section
variable (ρ : PEnv) (n k : Nat) (R : D → Nat → Prop) (p pa pb tk tv : TPE) (t : TPG) (u : TPGs) (tt : TPT) (pi ta : TPA) (vs : List Nat) (d : D) (ds es : List D) (ks : List Key) (Z : PEnv → Nat → Prop)
theorem q_gseq : gSeq k u d ρ n Z = match d with | .tup ds => ds.length = k ∧ u ds ρ n Z | .lst ds => ds.length = k ∧ u ds ρ n Z | _ => False := rfl
theorem q_dk : pDk pi t tt tk tv vs ρ n R = pi ρ n fun ds m => ds.length ≤ sizeLine ∧ noOwn ρ vs = true ∧ dkW t tt tk tv ds [] [] (wipeC ρ vs) m R := rfl
theorem q_dk0 : dkW t tt tk tv [] ks es ρ n R = R (.dic ks es) n := rfl
theorem q_dk1 : dkW t tt tk tv (d :: ds) ks es ρ n R = t d ρ n fun ρ1 n1 => tt ρ1 n1 fun b n2 => if b = true then tk ρ1 n2 fun y n3 => tv ρ1 n3 fun z n4 => (match dKey y with | some j => dkW t tt tk tv ds (dKeys ks j) (dVals ks es j z) ρ n4 R | none => False) else dkW t tt tk tv ds ks es ρ n2 R := rfl
theorem q_dict : pDict ta ρ n R = ta ρ n fun ds m => oDictP ds fun z => R z m := rfl
theorem o_dictp (Q : D → Prop) : oDictP [.lst ds] Q = match asPairs ds with | some ps => Q (.dic (mergeD ps [] []).1 (mergeD ps [] []).2) | none => False := rfl
theorem q_lrg1 : pLRg1 p ρ n R = p ρ n fun d m => match d with | .int i => (0 ≤ i ∧ i ≤ 16777216) ∧ R (.lst (rgD 0 i)) m | _ => False := rfl
theorem q_lrg2 : pLRg2 pa pb ρ n R = pa ρ n fun d m => pb ρ m fun e m2 => match d, e with | .int i, .int j => (0 ≤ i ∧ j ≤ 16777216 ∧ i ≤ 16777216 ∧ 0 ≤ j) ∧ R (.lst (rgD i j)) m2 | _, _ => False := rfl
end
end PL

/-! PL: equations and loops for the new rules. -/
namespace PL
open PySem PySem.Spec L2
def zipSD (ds ks : List D) (S : List D → Prop) : Prop := match ds, ks with
  | [.tup xs, .tup ys], [.bl true] => xs.length = ys.length ∧ S (pairs xs ys)
  | _, _ => False
section
variable (ρ : PEnv) (n : Nat) (R : D → Nat → Prop) (Q : D → Prop) (S : List D → Nat → Prop) (Z : List D → Prop) (t u : TPA) (xs ys : List D)
theorem q_zips : pZipS t u ρ n S = t ρ n fun ds m => u ρ m fun ks m2 => zipSD ds ks fun z => S z m2 := by
  unfold pZipS zipSD
  rfl
theorem o_zips : zipSD [.tup xs, .tup ys] [.bl true] Z = (xs.length = ys.length ∧ Z (pairs xs ys)) := rfl
theorem o_maxl : oMaxL [.lst xs] Q = match asInts xs with | some ns => 0 < ns.length ∧ ∀ m, m ∈ ns → (∀ y, y ∈ ns → y ≤ m) → Q (.int m) | none => False := rfl
end
theorem mergeD_keys {k : Key} : ∀ (ps : List (Key × D)) (ks : List Key) (es : List D), k ∈ (mergeD ps ks es).1 ↔ k ∈ ks ∨ k ∈ ps.map (·.1)
  | [], ks, es => by simp [mergeD]
  | (j, d) :: ps, ks, es => by
    rw [mergeD, mergeD_keys ps, List.map_cons, List.mem_cons]
    have : k ∈ dKeys ks j ↔ k ∈ ks ∨ k = j := by
      unfold dKeys
      split
      · rename_i h
        exact ⟨.inl, fun z => z.elim id fun e => e ▸ h⟩
      · simp
    rw [this, or_assoc]
theorem dVals_len {κ : Type} [DecidableEq κ] {ks : List κ} {es : List D} {j : κ} {d : D} (h : ks.length = es.length) : (dKeys ks j).length = (dVals ks es j d).length := by
  have rl : ∀ (ks : List κ) (es : List D), ks.length = es.length → (dRepl ks es j d).length = es.length := fun ks => by
    induction ks with
    | nil => intro es h; cases es with | nil => rfl | cons _ _ => simp at h
    | cons k ks ih =>
      intro es h
      cases es with
      | nil => simp at h
      | cons e es => rw [dRepl, List.length_cons, List.length_cons, ih es (by simpa using h)]
  unfold dKeys dVals
  split
  · rw [rl ks es h, h]
  · rw [List.length_append, List.length_append, h]; rfl
theorem mergeD_len : ∀ (ps : List (Key × D)) (ks : List Key) (es : List D), ks.length = es.length → (mergeD ps ks es).1.length = (mergeD ps ks es).2.length
  | [], ks, es, h => h
  | (j, d) :: ps, ks, es, h => by rw [mergeD]; exact mergeD_len ps _ _ (dVals_len h)
theorem dkW_m {t : TPG} {tt : TPT} {tk tv : TPE} {ρ : PEnv} {n : Nat} (f : D → Key × D) {R : D → Nat → Prop} : ∀ {ds : List D} {ks : List Key} {es : List D},
    (∀ d ∈ ds, ∀ (ks : List Key) (es : List D) (L : List Key → List D → Nat → Prop), L (dKeys ks (f d).1) (dVals ks es (f d).1 (f d).2) n → t d ρ n fun ρ1 n1 => tt ρ1 n1 fun b n2 => if b = true then tk ρ1 n2 fun y n3 => tv ρ1 n3 fun z n4 => (match dKey y with | some j => L (dKeys ks j) (dVals ks es j z) n4 | none => False) else L ks es n2) →
    R (.dic (mergeD (ds.map f) ks es).1 (mergeD (ds.map f) ks es).2) n → dkW t tt tk tv ds ks es ρ n R
  | [], _, _, _, hR => hR
  | d :: ds, ks, es, h, hR => by
    rw [q_dk1]
    exact h d List.mem_cons_self ks es (fun ks es n => dkW t tt tk tv ds ks es ρ n R) (dkW_m f (fun d hd => h d (List.mem_cons_of_mem _ hd)) hR)
theorem scW_m {t : TPG} {tt : TPT} {te : TPE} {ρ : PEnv} {n : Nat} (f : D → Int) {Z : List Int → Nat → Prop} : ∀ {ds : List D} {acc : List Int},
    (∀ d ∈ ds, ∀ (acc : List Int) (L : List Int → Nat → Prop), L (acc ++ [f d]) n → t d ρ n fun ρ1 n1 => tt ρ1 n1 fun b n2 => if b = true then te ρ1 n2 fun y n3 => (match y with | .int i => L (acc ++ [i]) n3 | _ => False) else L acc n2) →
    Z (acc ++ ds.map f) n → scW t tt te ds acc ρ n Z
  | [], acc, _, hR => by rw [q_sc0]; simpa using hR
  | d :: ds, acc, h, hR => by
    rw [q_sc]
    exact h d List.mem_cons_self acc (fun acc n => scW t tt te ds acc ρ n Z) (scW_m f (fun d hd => h d (List.mem_cons_of_mem _ hd)) (by simpa using hR))
end PL

/-! PL: methods of operators as tests. -/
namespace PL
open PySem PySem.Spec L2
open PyProof.Rows (envOfC)
section
variable {X : Cx} {e a b : Expr} {p pa pb : TPE} {pos : Pos} {k kc : Nat} {S : Spec} {ps : List Str}
theorem dt_inM (M : MetC X.prog X.w X.K X.mg X.base k "__contains__" kc ps S) (hgd : X.A.guards = some []) (hr : Room k X.A) (ha : DE X a pa) (hb : DE X b pb) (hn : kc ≠ 999 := by decide) (hm : behindInMarks .In b = false := by rfl) : DT X (.Compare a [.In] [b] pos) (pB (pInM kc false S pa pb)) := fun g hK => by
  obtain ⟨C, f, fd, h1, h2, h3, h4, h5⟩ := M
  refine (pt_cmpR (op_inM h1 hgd hr h3 h4 h5) (ha g hK) (hb g hK) hm).imp fun σ H Q h => ?_
  obtain ⟨n, F, ρ, R, ok, hq, kk⟩ := LE.bool h
  refine ⟨n, F, ρ, _, ok, hq, fun n1 F1 H1 x d s1 ok1 r1 q1 => ⟨n1, F1, ρ, _, ok1, q1, fun n2 F2 H2 y e s2 ok2 r2 q2 => ?_⟩⟩
  obtain ⟨u, dx, fs, rfl, hu⟩ := ins_at ok2 r2 q2.1 hK hn h2
  have z := call_at (Q := fun x H1 => ∃ c, x = V.bl c ∧ Q c H1) (E := fun _ _ _ => False) ok2 (.cons r2 (.cons (r1.mono s2) .nil)) q2.2 fun n' F' H' v d' s3 ok3 r3 hR => kk n' F' H' v d' (s1.trans (s2.trans s3)) ok3 r3 hR
  rw [hK] at z
  simp only [bne_false'] at z
  exact ⟨u, dx, fs, rfl, hu, z⟩
theorem dt_notinM (M : MetC X.prog X.w X.K X.mg X.base k "__contains__" kc ps S) (hgd : X.A.guards = some []) (hr : Room k X.A) (ha : DE X a pa) (hb : DE X b pb) (hn : kc ≠ 999 := by decide) (hm : behindInMarks .NotIn b = false := by rfl) : DT X (.Compare a [.NotIn] [b] pos) (pB (pInM kc true S pa pb)) := fun g hK => by
  obtain ⟨C, f, fd, h1, h2, h3, h4, h5⟩ := M
  refine (pt_cmpR (op_notinM h1 hgd hr h3 h4 h5) (ha g hK) (hb g hK) hm).imp fun σ H Q h => ?_
  obtain ⟨n, F, ρ, R, ok, hq, kk⟩ := LE.bool h
  refine ⟨n, F, ρ, _, ok, hq, fun n1 F1 H1 x d s1 ok1 r1 q1 => ⟨n1, F1, ρ, _, ok1, q1, fun n2 F2 H2 y e s2 ok2 r2 q2 => ?_⟩⟩
  obtain ⟨u, dx, fs, rfl, hu⟩ := ins_at ok2 r2 q2.1 hK hn h2
  have z := call_at (Q := fun x H1 => ∃ c, x = V.bl c ∧ Q c H1) (E := fun _ _ _ => False) ok2 (.cons r2 (.cons (r1.mono s2) .nil)) q2.2 fun n' F' H' v d' s3 ok3 r3 hR => kk n' F' H' v d' (s1.trans (s2.trans s3)) ok3 r3 hR
  rw [hK] at z
  simp only [bne_true'] at z
  exact ⟨u, dx, fs, rfl, hu, z⟩
theorem dt_eqM (I : InsT X.K kc) (M : MetC X.prog X.w X.K X.mg X.base k "__eq__" kc ps S) (hgd : X.A.guards = some []) (hr : Room k X.A) (ha : DE X a pa) (hb : DE X b pb) (hn : kc ≠ 999 := by decide) (hm : behindInMarks .Eq b = false := by rfl) : DT X (.Compare a [.Eq] [b] pos) (pB (pEqM kc false S pa pb)) := fun g hK => by
  obtain ⟨C, f, fd, h1, h2, h3, h4, h5⟩ := M
  refine (pt_cmpR (op_eqM h1 hgd hr h3 h4 h5) (ha g hK) (hb g hK) hm).imp fun σ H Q h => ?_
  obtain ⟨n, F, ρ, R, ok, hq, kk⟩ := LE.bool h
  refine ⟨n, F, ρ, _, ok, hq, fun n1 F1 H1 x d s1 ok1 r1 q1 => ⟨n1, F1, ρ, _, ok1, q1, fun n2 F2 H2 y e s2 ok2 r2 q2 => ?_⟩⟩
  obtain ⟨u, dx, fs, rfl, hu⟩ := ins_at ok2 (r1.mono s2) q2.1 hK hn h2
  obtain ⟨t, ty, nf⟩ := I.first h2 hn ok2 r2 hK q2.2.1
  have z := call_at (Q := fun x H1 => ∃ c, x = V.bl c ∧ Q c H1) (E := fun _ _ _ => False) ok2 (.cons (r1.mono s2) (.cons r2 .nil)) q2.2.2 fun n' F' H' v d' s3 ok3 r3 hR => kk n' F' H' v d' (s1.trans (s2.trans s3)) ok3 r3 hR
  rw [hK] at z
  simp only [bne_false'] at z
  exact ⟨u, dx, fs, t, rfl, hu, ty, nf, z⟩
theorem dt_neM (I : InsT X.K kc) (M : MetC X.prog X.w X.K X.mg X.base k "__eq__" kc ps S) (hgd : X.A.guards = some []) (hr : Room (k + 1) X.A) (ha : DE X a pa) (hb : DE X b pb) (hn : kc ≠ 999 := by decide) (hm : behindInMarks .NotEq b = false := by rfl) : DT X (.Compare a [.NotEq] [b] pos) (pB (pEqM kc true S pa pb)) := fun g hK => by
  obtain ⟨C, f, fd, h1, h2, h3, h4, h5⟩ := M
  obtain ⟨C', c1, c2, c3, c4, c5, c6, c7, c8, c9, c10⟩ := I.ex
  have e : C' = C := by rw [h2] at c1; cases c1; rfl
  subst e
  refine (pt_cmpR (op_neM h1 hgd hr c9 c10 h3 h4 h5) (ha g hK) (hb g hK) hm).imp fun σ H Q h => ?_
  obtain ⟨n, F, ρ, R, ok, hq, kk⟩ := LE.bool h
  refine ⟨n, F, ρ, _, ok, hq, fun n1 F1 H1 x d s1 ok1 r1 q1 => ⟨n1, F1, ρ, _, ok1, q1, fun n2 F2 H2 y e s2 ok2 r2 q2 => ?_⟩⟩
  obtain ⟨u, dx, fs, rfl, hu⟩ := ins_at ok2 (r1.mono s2) q2.1 hK hn h2
  obtain ⟨t, ty, nf⟩ := I.first h2 hn ok2 r2 hK q2.2.1
  have z := call_at (Q := fun x H1 => ∃ c, x = V.bl c ∧ Q c H1) (E := fun _ _ _ => False) ok2 (.cons (r1.mono s2) (.cons r2 .nil)) q2.2.2 fun n' F' H' v d' s3 ok3 r3 hR => kk n' F' H' v d' (s1.trans (s2.trans s3)) ok3 r3 hR
  rw [hK] at z
  simp only [bne_true'] at z
  exact ⟨u, dx, fs, t, rfl, hu, ty, nf, z⟩
end
end PL

/-! k58: rounds of sets of residues. -/
namespace M58
def Pr (q : Nat) : Prop := 2 ≤ q ∧ ∀ d, d ∣ q → d = 1 ∨ d = q
theorem Pr.dvd_mul {q a b : Nat} (h : Pr q) (hd : q ∣ a * b) : q ∣ a ∨ q ∣ b := by
  rcases h.2 (Nat.gcd q a) (Nat.gcd_dvd_left _ _) with e | e
  · exact .inr (Nat.Coprime.dvd_of_dvd_mul_left (show Nat.Coprime q a from e) hd)
  · exact .inl (e ▸ Nat.gcd_dvd_right q a)
theorem pr_of : ∀ (n : Nat), 2 ≤ n → ∃ q, Pr q ∧ q ∣ n := by
  intro n
  induction n using Nat.strongRecOn with
  | ind n ih =>
    intro h
    by_cases hp : Pr n
    · exact ⟨n, hp, Nat.dvd_refl n⟩
    · have : ∃ d, d ∣ n ∧ d ≠ 1 ∧ d ≠ n := by
        refine Classical.byContradiction fun hc => hp ⟨h, fun d hd => ?_⟩
        refine Classical.byContradiction fun hn => hc ⟨d, hd, fun e => hn (.inl e), fun e => hn (.inr e)⟩
      obtain ⟨d, hd, h1, h2⟩ := this
      have hle := Nat.le_of_dvd (by omega) hd
      have h0 : d ≠ 0 := by
        rintro rfl
        have := Nat.eq_zero_of_zero_dvd hd
        omega
      obtain ⟨q, hq, hqd⟩ := ih d (by omega) (by omega)
      exact ⟨q, hq, Nat.dvd_trans hqd hd⟩
/-- the inner while of first_parts -/
def strip (at' : Nat) : Nat → Nat → Nat
  | 0, left => left
  | f + 1, left => if left % at' = 0 then strip at' f (left / at') else left
theorem strip_pr {q a : Nat} (hq : Pr q) (ha : 0 < a) (hqa : ¬ q ∣ a) : ∀ f left, q ∣ left → q ∣ strip a f left
  | 0, left, h => h
  | f + 1, left, h => by
    unfold strip
    split
    · rename_i hm
      have e : left = a * (left / a) := (Nat.mul_div_cancel' (Nat.dvd_of_mod_eq_zero hm)).symm
      exact strip_pr hq ha hqa f _ ((hq.dvd_mul (e ▸ h)).resolve_left hqa)
    · exact h
theorem strip_dvd {a : Nat} : ∀ f left, strip a f left ∣ left
  | 0, left => Nat.dvd_refl _
  | f + 1, left => by
    unfold strip
    split
    · rename_i hm
      exact Nat.dvd_trans (strip_dvd f _) ⟨a, (Nat.div_mul_cancel (Nat.dvd_of_mod_eq_zero hm)).symm⟩
    · exact Nat.dvd_refl _
/-- behind the inner while the number is no multiple -/
theorem strip_not {a : Nat} (ha : 2 ≤ a) : ∀ f left, 0 < left → left ≤ f → ¬ strip a f left % a = 0
  | 0, left, h, hf => by omega
  | f + 1, left, h, hf => by
    unfold strip
    split
    · rename_i hm
      have hd : 0 < left / a := Nat.div_pos (Nat.le_of_dvd h (Nat.dvd_of_mod_eq_zero hm)) (by omega)
      have hlt : left / a < left := Nat.div_lt_self h (by omega)
      exact strip_not ha f _ hd (by omega)
    · assumption
/-- the state of first_parts' loop: each prime of n is found or divides what is left, whose primes are no less than at -/
structure FP (n : Nat) (found : List Nat) (left a : Nat) : Prop where
  pos : 0 < left
  two : 2 ≤ a
  cov : ∀ q, Pr q → q ∣ n → q ∈ found ∨ q ∣ left
  big : ∀ q, Pr q → q ∣ left → a ≤ q
  gt : ∀ p ∈ found, 2 ≤ p
theorem fp_start {n : Nat} (h : 0 < n) : FP n [] n 2 := ⟨h, Nat.le_refl 2, fun _ _ h => .inr h, fun _ hq _ => hq.1, fun _ h => (nomatch h)⟩
theorem fp_skip {n left a : Nat} {found : List Nat} (h : FP n found left a) (hm : ¬ left % a = 0) : FP n found left (a + 1) := by
  refine ⟨h.pos, by have := h.two; omega, h.cov, fun q hq hd => ?_, h.gt⟩
  rcases Nat.lt_or_ge a q with z | z
  · exact z
  · have := h.big q hq hd
    have e : q = a := by omega
    subst e
    exact absurd (Nat.mod_eq_zero_of_dvd hd) hm
theorem fp_take {n left a f : Nat} {found : List Nat} (h : FP n found left a) (hm : left % a = 0) (hf : left ≤ f) : FP n (found ++ [a]) (strip a f left) (a + 1) := by
  have hs := strip_dvd (a := a) f left
  have hp : 0 < strip a f left := Nat.pos_of_dvd_of_pos hs h.pos
  refine ⟨hp, by have := h.two; omega, fun q hq hd => ?_, fun q hq hd => ?_, fun p hp => ?_⟩
  · rcases h.cov q hq hd with z | z
    · exact .inl (List.mem_append_left _ z)
    · by_cases hqa : q ∣ a
      · have h1 := h.big q hq z
        have h2 := Nat.le_of_dvd (by have := h.two; omega) hqa
        exact .inl (List.mem_append_right _ (by simp; omega))
      · exact .inr (strip_pr hq (by have := h.two; omega) hqa f left z)
  · have h1 := h.big q hq (Nat.dvd_trans hd hs)
    rcases Nat.lt_or_ge a q with z | z
    · exact z
    · have e : q = a := by omega
      subst e
      exact absurd (Nat.mod_eq_zero_of_dvd hd) (strip_not h.two f left h.pos hf)
  · rcases List.mem_append.mp hp with z | z
    · exact h.gt p z
    · simp at z; have := h.two; omega
/-- what first_parts gives -/
theorem fp_end {n left a : Nat} {found : List Nat} (h : FP n found left a) (hl : left < a * a) :
    (∀ q, Pr q → q ∣ n → q ∈ (if left > 1 then found ++ [left] else found)) ∧ ∀ p ∈ (if left > 1 then found ++ [left] else found), 2 ≤ p := by
  refine ⟨fun q hq hd => ?_, fun p hp => ?_⟩
  · rcases h.cov q hq hd with z | z
    · split
      · exact List.mem_append_left _ z
      · exact z
    · have h2 : 1 < left := Nat.lt_of_lt_of_le (by have := hq.1; omega) (Nat.le_of_dvd h.pos z)
      rw [if_pos h2]
      refine List.mem_append_right _ ?_
      have : q = left := by
        obtain ⟨m, hm⟩ := z
        have hm0 : 0 < m := by
          rcases Nat.eq_zero_or_pos m with e | e
          · rw [e, Nat.mul_zero] at hm; omega
          · exact e
        rcases Nat.lt_or_ge 1 m with hc | hc
        · obtain ⟨r, hr, hrd⟩ := pr_of m hc
          have h3 := h.big r hr (hm ▸ Nat.dvd_trans hrd (Nat.dvd_mul_left m q))
          have h4 := h.big q hq ⟨m, hm⟩
          have h5 : r ≤ m := Nat.le_of_dvd hm0 hrd
          have : a * a ≤ q * m := Nat.mul_le_mul h4 (Nat.le_trans h3 h5)
          omega
        · have : m = 1 := by omega
          rw [this, Nat.mul_one] at hm
          exact hm.symm
      simp [this]
  · split at hp
    · rcases List.mem_append.mp hp with z | z
      · exact h.gt p z
      · simp at z; omega
    · exact h.gt p hp
end M58

/-! k58: periods. -/
namespace M58
def Per (P : Nat → Bool) (d : Nat) : Prop := ∀ x, P (x + d) = P x
theorem Per.mul {P : Nat → Bool} {d : Nat} (h : Per P d) : ∀ m, Per P (d * m)
  | 0 => fun x => by simp
  | m + 1 => fun x => by rw [Nat.mul_succ, ← Nat.add_assoc, h, h.mul m]
theorem Per.dvd {P : Nat → Bool} {d e : Nat} (h : Per P d) (hd : d ∣ e) : Per P e := by
  obtain ⟨m, rfl⟩ := hd
  exact h.mul m
theorem Per.modd {P : Nat → Bool} {a b : Nat} (ha : Per P a) (hb : Per P b) : Per P (a % b) := fun x => by
  have h1 := ha x
  have h2 := hb.mul (a / b) (x + a % b)
  rw [Nat.add_assoc, Nat.mod_add_div] at h2
  rw [← h2, h1]
theorem Per.gcd {P : Nat → Bool} (a b : Nat) : Per P a → Per P b → Per P (Nat.gcd a b) := by
  induction a, b using Nat.gcd.induction with
  | H0 n => intro _ h; rwa [Nat.gcd_zero_left]
  | H1 m n hm ih => intro h1 h2; rw [Nat.gcd_rec]; exact ih (h2.modd h1) h1
theorem Per.at {P : Nat → Bool} {d : Nat} (h : Per P d) (x : Nat) : P (x % d) = P x := by
  have := h.mul (x / d) (x % d)
  rw [Nat.mod_add_div] at this
  exact this.symm
/-- p is the least divisor of lap that is a period -/
structure Least (P : Nat → Bool) (lap p : Nat) : Prop where
  pos : 0 < p
  dv : p ∣ lap
  per : Per P p
  min : ∀ d, 0 < d → d ∣ lap → Per P d → p ≤ d
theorem Least.dvd_of {P : Nat → Bool} {lap p d : Nat} (h : Least P lap p) (hl : 0 < lap) (hd : d ∣ lap) (hp : Per P d) : p ∣ d := by
  have hg : Per P (Nat.gcd p d) := Per.gcd p d h.per hp
  have h1 := h.min _ (Nat.gcd_pos_of_pos_left d h.pos) (Nat.dvd_trans (Nat.gcd_dvd_left p d) h.dv) hg
  have h2 : Nat.gcd p d = p := Nat.le_antisymm (Nat.le_of_dvd h.pos (Nat.gcd_dvd_left p d)) h1
  exact h2 ▸ Nat.gcd_dvd_right p d
abbrev rs (P : Nat → Bool) (lap : Nat) : List Nat := (List.range lap).filter P
theorem rs_mem {P : Nat → Bool} {lap x : Nat} : x ∈ rs P lap ↔ x < lap ∧ P x = true := by simp [rs]
theorem rs_pw (P : Nat → Bool) (lap : Nat) : (rs P lap).Pairwise (· < ·) := List.Pairwise.filter _ (List.pairwise_lt_range)
theorem pw_ext : ∀ {l m : List Nat}, l.Pairwise (· < ·) → m.Pairwise (· < ·) → (∀ x, x ∈ l ↔ x ∈ m) → l = m
  | [], [], _, _, _ => rfl
  | [], b :: m, _, _, h => absurd ((h b).mpr (by simp)) (by simp)
  | a :: l, [], _, _, h => absurd ((h a).mp (by simp)) (by simp)
  | a :: l, b :: m, h1, h2, h => by
    obtain ⟨a1, a2⟩ := List.pairwise_cons.mp h1
    obtain ⟨b1, b2⟩ := List.pairwise_cons.mp h2
    have e : a = b := by
      rcases List.mem_cons.mp ((h a).mp (by simp)) with z | z
      · exact z
      · rcases List.mem_cons.mp ((h b).mpr (by simp)) with y | y
        · exact y.symm
        · have := a1 b y
          have := b1 a z
          omega
    subst e
    refine congrArg (a :: ·) (pw_ext a2 b2 fun x => ⟨fun hx => ?_, fun hx => ?_⟩)
    · have := a1 x hx
      rcases List.mem_cons.mp ((h x).mp (List.mem_cons_of_mem _ hx)) with z | z
      · omega
      · exact z
    · have := b1 x hx
      rcases List.mem_cons.mp ((h x).mpr (List.mem_cons_of_mem _ hx)) with z | z
      · omega
      · exact z
/-- the look whether d is a period -/
theorem per_iff {P : Nat → Bool} {lap d : Nat} (hl : 0 < lap) (hp : Per P lap) (hd : d ∣ lap) : (∀ r ∈ rs P lap, (r + d) % lap ∈ rs P lap) ↔ Per P d := by
  constructor
  · intro h
    have step : ∀ x, P x = true → P (x + d) = true := fun x hx => by
      have h1 : x % lap ∈ rs P lap := rs_mem.mpr ⟨Nat.mod_lt _ hl, by rw [hp.at]; exact hx⟩
      have h2 := (rs_mem.mp (h _ h1)).2
      rw [hp.at] at h2
      rw [← hp.at, ← Nat.mod_add_mod, hp.at]
      exact h2
    have many : ∀ m x, P x = true → P (x + d * m) = true := fun m => by
      induction m with
      | zero => intro x hx; simpa using hx
      | succ m ih => intro x hx; rw [Nat.mul_succ, ← Nat.add_assoc]; exact step _ (ih x hx)
    intro x
    cases hx : P x with
    | true => exact step x hx
    | false =>
      cases hy : P (x + d) with
      | false => rfl
      | true =>
        obtain ⟨m, rfl⟩ := hd
        cases m with
        | zero => omega
        | succ m =>
          have h1 := many m _ hy
          rw [Nat.add_assoc, Nat.add_comm d, ← Nat.mul_succ, hp x, hx] at h1
          cases h1
  · intro h r hr
    exact rs_mem.mpr ⟨Nat.mod_lt _ hl, by rw [hp.at, h r]; exact (rs_mem.mp hr).2⟩
/-- the new rests -/
theorem rests_to {P : Nat → Bool} {lap d : Nat} {l : List Nat} (hd0 : 0 < d) (hle : d ≤ lap) (h : Per P d) (hl : l.Pairwise (· < ·)) (hm : ∀ x, x ∈ l ↔ ∃ r ∈ rs P lap, r % d = x) : l = rs P d := by
  refine pw_ext hl (rs_pw P d) fun x => ?_
  rw [hm, rs_mem]
  constructor
  · rintro ⟨r, hr, rfl⟩
    exact ⟨Nat.mod_lt _ hd0, by rw [h.at]; exact (rs_mem.mp hr).2⟩
  · rintro ⟨h1, h2⟩
    exact ⟨x, rs_mem.mpr ⟨by omega, h2⟩, Nat.mod_eq_of_lt h1⟩
theorem count_per {P : Nat → Bool} {p : Nat} (h : Per P p) : ∀ m, (rs P (p * m)).length = m * (rs P p).length
  | 0 => by simp [rs]
  | m + 1 => by
    have e : rs P (p * (m + 1)) = rs P (p * m) ++ ((List.range p).map (p * m + ·)).filter P := by
      unfold rs
      rw [Nat.mul_succ, List.range_add, List.filter_append]
    rw [e, List.length_append, count_per h m, Nat.succ_mul]
    congr 1
    rw [List.filter_map, List.length_map]
    congr 1
    refine List.filter_congr fun x _ => ?_
    show P (p * m + x) = P x
    rw [Nat.add_comm, h.mul m]
/-- the primes that matter are found -/
theorem pr_in {P : Nat → Bool} {lap p q : Nat} (h : Least P lap p) (hl : 0 < lap) (hq : Pr q) (hd : q ∣ lap / p) : q ∣ Nat.gcd lap (rs P lap).length := by
  have e : lap = p * (lap / p) := (Nat.mul_div_cancel' h.dv).symm
  have h1 : lap / p ∣ (rs P lap).length := by
    have := count_per h.per (lap / p)
    rw [← e] at this
    exact ⟨_, this⟩
  have h2 : lap / p ∣ lap := ⟨p, by rw [Nat.mul_comm]; exact e⟩
  exact Nat.dvd_trans hd (Nat.dvd_gcd h2 h1)
/-- what is known between the primes -/
structure LR (P : Nat → Bool) (lap0 p : Nat) (done : Nat → Prop) (lap : Nat) : Prop where
  pos : 0 < lap
  dv : lap ∣ lap0
  per : Per P lap
  no : ∀ q, done q → q ∣ lap → ¬ Per P (lap / q)
theorem LR.start {P : Nat → Bool} {lap p : Nat} (hl : 0 < lap) (h : Per P lap) : LR P lap p (fun _ => False) lap := ⟨hl, Nat.dvd_refl _, h, fun _ z => z.elim⟩
theorem LR.go {P : Nat → Bool} {lap0 p lap q : Nat} {done : Nat → Prop} (h : LR P lap0 p done lap) (hq : 2 ≤ q) (hd : q ∣ lap) (hp : Per P (lap / q)) : LR P lap0 p done (lap / q) ∧ lap / q < lap := by
  have hdl : lap / q ∣ lap := ⟨q, (Nat.div_mul_cancel hd).symm⟩
  refine ⟨⟨Nat.div_pos (Nat.le_of_dvd h.pos hd) (by omega), Nat.dvd_trans hdl h.dv, hp, fun r hr hrd hrp => ?_⟩, Nat.div_lt_self h.pos (by omega)⟩
  refine h.no r hr (Nat.dvd_trans hrd hdl) (hrp.dvd ?_)
  obtain ⟨m, hm⟩ := hrd
  have hr0 : 0 < r := by
    rcases Nat.eq_zero_or_pos r with e | e
    · rw [e, Nat.zero_mul] at hm
      have := Nat.div_pos (Nat.le_of_dvd h.pos hd) (by omega)
      omega
    · exact e
  have e1 : lap = r * (m * q) := by rw [← Nat.mul_assoc, ← hm]; exact (Nat.div_mul_cancel hd).symm
  rw [hm, Nat.mul_div_cancel_left m hr0, e1, Nat.mul_div_cancel_left _ hr0]
  exact ⟨q, rfl⟩
theorem LR.stop {P : Nat → Bool} {lap0 p lap q : Nat} {done : Nat → Prop} (h : LR P lap0 p done lap) (hn : ¬ (q ∣ lap ∧ Per P (lap / q))) : LR P lap0 p (fun r => done r ∨ r = q) lap :=
  ⟨h.pos, h.dv, h.per, fun r hr hd hp => hr.elim (fun z => h.no r z hd hp) fun z => hn (z ▸ ⟨hd, hp⟩)⟩
theorem LR.end {P : Nat → Bool} {lap0 p lap : Nat} {done : Nat → Prop} (hL : Least P lap0 p) (h0 : 0 < lap0) (h : LR P lap0 p done lap) (hall : ∀ q, Pr q → q ∣ lap0 / p → done q) : lap = p := by
  have hpd := hL.dvd_of h0 h.dv h.per
  obtain ⟨m, hm⟩ := hpd
  have hm0 : 0 < m := by
    rcases Nat.eq_zero_or_pos m with e | e
    · rw [e, Nat.mul_zero] at hm; have := h.pos; omega
    · exact e
  rcases Nat.lt_or_ge 1 m with hc | hc
  · obtain ⟨q, hq, hqd⟩ := pr_of m hc
    have hq0 : 0 < q := by have := hq.1; omega
    obtain ⟨k, hk⟩ := hqd
    have h1 : q ∣ lap0 / p := by
      obtain ⟨j, hj⟩ := h.dv
      rw [hj, hm, Nat.mul_assoc, Nat.mul_div_cancel_left _ hL.pos, hk, Nat.mul_assoc]
      exact ⟨_, rfl⟩
    have e1 : lap = q * (p * k) := by rw [hm, hk, Nat.mul_left_comm]
    refine absurd (hL.per.dvd ?_) (h.no q (hall q hq h1) ⟨_, e1⟩)
    rw [e1, Nat.mul_div_cancel_left _ hq0]
    exact ⟨k, rfl⟩
  · have : m = 1 := by omega
    rw [hm, this, Nat.mul_one]
end M58

/-! k58: the least first. -/
namespace M58
/-- f is where the lot begins to go round -/
structure IsF (few : List Nat) (P : Nat → Bool) (first f : Nat) : Prop where
  le : f ≤ first
  ok : ∀ x, f ≤ x → x < first → (x ∈ few ↔ P x = true)
  min : f = 0 ∨ ¬ (f - 1 ∈ few ↔ P (f - 1) = true)
theorem IsF.uniq {few : List Nat} {P : Nat → Bool} {first f g : Nat} (h1 : IsF few P first f) (h2 : IsF few P first g) : f = g := by
  rcases Nat.lt_trichotomy f g with z | z | z
  · rcases h2.min with e | e
    · omega
    · exact absurd (h1.ok (g - 1) (by omega) (by have := h2.le; omega)) e
  · exact z
  · rcases h1.min with e | e
    · omega
    · exact absurd (h2.ok (f - 1) (by omega) (by have := h1.le; omega)) e
/-- last_lacking's loop -/
structure LL (few : List Nat) (first : Nat) (lap r : Int) (y : Int) : Prop where
  lt : y < first
  eq : y % lap = r
  up : ∀ z : Int, y < z → z < first → z % lap = r → ∃ n ∈ few, z = ((n : Nat) : Int)
theorem LL.start {few : List Nat} {first : Nat} {lap r : Int} (hl : 0 < lap) (h0 : 0 ≤ r) (h1 : r < lap) : LL few first lap r ((first : Int) - 1 - ((first : Int) - 1 - r) % lap) := by
  have hm := Int.emod_nonneg ((first : Int) - 1 - r) (Int.ne_of_gt hl)
  have hm2 := Int.emod_lt_of_pos ((first : Int) - 1 - r) hl
  have key : ((first : Int) - 1 - ((first : Int) - 1 - r) % lap) % lap = r := by
    have h := Int.emod_add_mul_ediv ((first : Int) - 1 - r) lap
    have e : (first : Int) - 1 - ((first : Int) - 1 - r) % lap = r + lap * (((first : Int) - 1 - r) / lap) := by omega
    rw [e, Int.add_mul_emod_self_left]
    exact Int.emod_eq_of_lt h0 h1
  refine ⟨by omega, key, fun z hz hz2 hz3 => ?_⟩
  have e : (z - ((first : Int) - 1 - ((first : Int) - 1 - r) % lap)) % lap = 0 := Int.emod_eq_emod_iff_emod_sub_eq_zero.mp (hz3.trans key.symm)
  have : (z - ((first : Int) - 1 - ((first : Int) - 1 - r) % lap)) % lap = z - ((first : Int) - 1 - ((first : Int) - 1 - r) % lap) := Int.emod_eq_of_lt (by omega) (by omega)
  omega
theorem LL.step {few : List Nat} {first : Nat} {lap r y : Int} (hl : 0 < lap) (h : LL few first lap r y) (hy : ∃ n ∈ few, y = ((n : Nat) : Int)) : LL few first lap r (y - lap) := by
  refine ⟨by have := h.lt; omega, by rw [Int.sub_emod_right]; exact h.eq, fun z h1 h2 h3 => ?_⟩
  rcases Int.lt_trichotomy y z with q | q | q
  · exact h.up z q h2 h3
  · exact q ▸ hy
  · have e : (y - z) % lap = 0 := Int.emod_eq_emod_iff_emod_sub_eq_zero.mp (h.eq.trans h3.symm)
    have : (y - z) % lap = y - z := Int.emod_eq_of_lt (by omega) (by omega)
    omega
/-- the greatest of what is odd or lacking, and one -/
theorem isF_max {few : List Nat} {P : Nat → Bool} {first lap f : Nat} {lk : Nat → Int} (hl : 0 < lap) (hp : Per P lap) (hf : ∀ x ∈ few, x < first)
    (hlk : ∀ r ∈ rs P lap, LL few first lap r (lk r) ∧ ¬ ∃ n ∈ few, lk r = ((n : Nat) : Int))
    (hge : ∀ x ∈ few, P x = false → x + 1 ≤ f) (hge2 : ∀ r ∈ rs P lap, lk r + 1 ≤ f) (hat : f = 0 ∨ (∃ x ∈ few, P x = false ∧ f = x + 1) ∨ ∃ r ∈ rs P lap, (f : Int) = lk r + 1) : IsF few P first f := by
  refine ⟨?_, fun x h1 h2 => ⟨fun hx => ?_, fun hx => ?_⟩, ?_⟩
  · rcases hat with e | ⟨x, hx, _, e⟩ | ⟨r, hr, e⟩
    · omega
    · have := hf x hx; omega
    · have := (hlk r hr).1.lt; omega
  · cases hc : P x with
    | true => rfl
    | false => have := hge x hx hc; omega
  · have hr : x % lap ∈ rs P lap := rs_mem.mpr ⟨Nat.mod_lt _ hl, by rw [hp.at]; exact hx⟩
    have h3 := hge2 _ hr
    obtain ⟨n, hn, e⟩ := (hlk _ hr).1.up (x : Int) (by omega) (by omega) (by simp)
    have : x = n := by omega
    exact this ▸ hn
  · rcases hat with e | ⟨x, hx, hP, e⟩ | ⟨r, hr, e⟩
    · exact .inl e
    · refine .inr fun hc => ?_
      have e' : f - 1 = x := by omega
      rw [e', hP] at hc
      exact absurd (hc.mp hx) (by simp)
    · rcases Nat.eq_zero_or_pos f with z | z
      · exact .inl z
      · refine .inr fun hc => ?_
        have e' : lk r = ((f - 1 : Nat) : Int) := by omega
        have h1 := (hlk r hr).1.eq
        have h2 := (hlk r hr).2
        rw [e'] at h1 h2
        have h3 : (f - 1) % lap = r := by omega
        have h4 : P (f - 1) = true := by rw [← hp.at, h3]; exact (rs_mem.mp hr).2
        exact h2 ⟨f - 1, hc.mpr h4, rfl⟩
/-! ### the law's way: down while it goes round -/
/-- in the lot -/
def inL (few : List Nat) (P : Nat → Bool) (first x : Nat) : Bool := decide (x ∈ few) || (decide (first ≤ x) && P x)
structure Dn (few : List Nat) (P : Nat → Bool) (first f : Nat) : Prop where
  le : f ≤ first
  ok : ∀ x, f ≤ x → x < first → (x ∈ few ↔ P x = true)
theorem inL_above {few : List Nat} {P : Nat → Bool} {first f x : Nat} (h : Dn few P first f) (hf : ∀ x ∈ few, x < first) (hx : f ≤ x) : inL few P first x = P x := by
  unfold inL
  rcases Nat.lt_or_ge x first with z | z
  · have := h.ok x hx z
    rw [decide_eq_false (by omega : ¬ first ≤ x), Bool.false_and, Bool.or_false]
    cases hp : P x with
    | true => exact decide_eq_true (this.mpr hp)
    | false => exact decide_eq_false fun c => by rw [this.mp c] at hp; cases hp
  · rw [decide_eq_true z, Bool.true_and, decide_eq_false (fun c => by have := hf x c; omega), Bool.false_or]
theorem inL_below {few : List Nat} {P : Nat → Bool} {first x : Nat} (hx : x < first) : inL few P first x = decide (x ∈ few) := by
  unfold inL
  rw [decide_eq_false (by omega : ¬ first ≤ x), Bool.false_and, Bool.or_false]
theorem Dn.start (few : List Nat) (P : Nat → Bool) (first : Nat) : Dn few P first first := ⟨Nat.le_refl _, fun x h1 h2 => by omega⟩
theorem Dn.look {few : List Nat} {P : Nat → Bool} {first f p : Nat} (h : Dn few P first f) (hf : ∀ x ∈ few, x < first) (hp : Per P p) (hp0 : 0 < p) (h0 : 0 < f) :
    (inL few P first (f - 1) = inL few P first (f - 1 + p)) ↔ (f - 1 ∈ few ↔ P (f - 1) = true) := by
  rw [inL_below (by have := h.le; omega), inL_above h hf (by omega), hp]
  by_cases a : f - 1 ∈ few <;> cases b : P (f - 1) <;> simp [a]
theorem Dn.step {few : List Nat} {P : Nat → Bool} {first f : Nat} (h : Dn few P first f) (h0 : 0 < f) (hq : f - 1 ∈ few ↔ P (f - 1) = true) : Dn few P first (f - 1) :=
  ⟨by have := h.le; omega, fun x h1 h2 => by
    rcases Nat.lt_or_ge x f with z | z
    · have : x = f - 1 := by omega
      exact this ▸ hq
    · exact h.ok x z h2⟩
theorem Dn.isF {few : List Nat} {P : Nat → Bool} {first f : Nat} (h : Dn few P first f) (hs : f = 0 ∨ ¬ (f - 1 ∈ few ↔ P (f - 1) = true)) : IsF few P first f := ⟨h.le, h.ok, hs⟩
end M58

/-! k58: lots. -/
namespace M58
structure Lot where
  few : List Nat
  first : Nat
  lap : Nat
  rests : List Nat
/-- the part that goes round -/
def Lot.P (l : Lot) : Nat → Bool := fun x => decide (x % l.lap ∈ l.rests)
structure Lot.Ok (l : Lot) : Prop where
  few : l.few.Pairwise (· < ·)
  lt : ∀ x ∈ l.few, x < l.first
  lap : 0 < l.lap
  rests : l.rests.Pairwise (· < ·)
  rlt : ∀ r ∈ l.rests, r < l.lap
def Lot.has (l : Lot) (x : Nat) : Bool := inL l.few l.P l.first x
theorem Lot.Ok.per {l : Lot} (h : l.Ok) : Per l.P l.lap := fun x => by simp [Lot.P]
theorem Lot.Ok.rs {l : Lot} (h : l.Ok) : l.rests = M58.rs l.P l.lap := pw_ext h.rests (rs_pw _ _) fun x => by
  rw [rs_mem]
  exact ⟨fun hx => ⟨h.rlt x hx, by simp [Lot.P, Nat.mod_eq_of_lt (h.rlt x hx), hx]⟩, fun ⟨h1, h2⟩ => by simpa [Lot.P, Nat.mod_eq_of_lt h1] using h2⟩
/-- m is the least lot of l -/
structure LeastOf (l m : Lot) : Prop where
  lap : Least l.P l.lap m.lap
  first : IsF l.few l.P l.first m.first
  few : m.few = l.few.filter (fun x => decide (x < m.first))
  rests : m.rests = M58.rs l.P m.lap
theorem LeastOf.uniq {l m n : Lot} (h1 : LeastOf l m) (h2 : LeastOf l n) : m = n := by
  obtain ⟨f1, i1, p1, r1⟩ := m
  obtain ⟨f2, i2, p2, r2⟩ := n
  have e1 : i1 = i2 := h1.first.uniq h2.first
  have e2 : p1 = p2 := Nat.le_antisymm (h1.lap.min _ h2.lap.pos h2.lap.dv h2.lap.per) (h2.lap.min _ h1.lap.pos h1.lap.dv h1.lap.per)
  subst e1 e2
  have e3 : f1 = f2 := h1.few.trans h2.few.symm
  have e4 : r1 = r2 := h1.rests.trans h2.rests.symm
  subst e3 e4
  rfl
theorem LeastOf.Peq {l m : Lot} (h : LeastOf l m) (x : Nat) : m.P x = l.P x := by
  have h1 : (x % m.lap ∈ m.rests) ↔ l.P x = true := by
    rw [h.rests, rs_mem, h.lap.per.at]
    exact ⟨fun z => z.2, fun z => ⟨Nat.mod_lt _ h.lap.pos, z⟩⟩
  unfold Lot.P at h1 ⊢
  cases hc : decide (x % l.lap ∈ l.rests) with
  | true => rw [hc] at h1; exact decide_eq_true (h1.mpr rfl)
  | false => rw [hc] at h1; exact decide_eq_false fun c => by have := h1.mp c; cases this
theorem LeastOf.ok {l m : Lot} (hl : l.Ok) (h : LeastOf l m) : m.Ok := by
  refine ⟨?_, fun x hx => ?_, h.lap.pos, ?_, fun r hr => ?_⟩
  · rw [h.few]; exact hl.few.filter _
  · rw [h.few] at hx; simpa using (List.mem_filter.mp hx).2
  · rw [h.rests]; exact rs_pw _ _
  · rw [h.rests] at hr; exact (rs_mem.mp hr).1
theorem LeastOf.mem {l m : Lot} (h : LeastOf l m) {x : Nat} : x ∈ m.few ↔ x ∈ l.few ∧ x < m.first := by
  rw [h.few, List.mem_filter]; simp
/-- a least lot is its own -/
theorem LeastOf.self {l m : Lot} (hl : l.Ok) (h : LeastOf l m) : LeastOf m m := by
  have hP : m.P = l.P := funext h.Peq
  refine ⟨⟨h.lap.pos, Nat.dvd_refl _, hP ▸ h.lap.per, fun d hd0 hd hp => h.lap.min d hd0 (Nat.dvd_trans hd h.lap.dv) (hP ▸ hp)⟩, ⟨Nat.le_refl _, fun x h1 h2 => by omega, ?_⟩, ?_, hP ▸ h.rests⟩
  · rcases h.first.min with e | e
    · exact .inl e
    · rcases Nat.eq_zero_or_pos m.first with z | z
      · exact .inl z
      · refine .inr fun hc => e ?_
        rw [hP, h.mem] at hc
        exact ⟨fun q => hc.mp ⟨q, by omega⟩, fun q => (hc.mpr q).1⟩
  · refine (List.filter_eq_self.mpr fun x hx => ?_).symm
    exact decide_eq_true (h.mem.mp hx).2
/-- the same lot told further -/
theorem LeastOf.far {l m n : Lot} (hl : l.Ok) (h : LeastOf l m) (h1 : n.lap = l.lap) (h2 : n.rests = l.rests) (h3 : l.first ≤ n.first) (h4 : n.few = (List.range n.first).filter l.has) : LeastOf n m := by
  have hP : n.P = l.P := by unfold Lot.P; rw [h1, h2]
  have hD : Dn l.few l.P l.first m.first := ⟨h.first.le, h.first.ok⟩
  have hm : ∀ x, x ∈ n.few ↔ x < n.first ∧ l.has x = true := fun x => by rw [h4]; simp
  have hb : ∀ x, x < m.first → (x ∈ n.few ↔ x ∈ l.few) := fun x hx => by
    have := h.first.le
    rw [hm]
    unfold Lot.has
    rw [inL_below (by omega)]
    simp
    intro _
    omega
  refine ⟨by rw [hP, h1]; exact h.lap, ⟨Nat.le_trans h.first.le h3, fun x h5 h6 => ?_, ?_⟩, ?_, by rw [hP]; exact h.rests⟩
  · rw [hm, hP]
    unfold Lot.has
    rw [inL_above hD hl.lt h5]
    exact ⟨fun z => z.2, fun z => ⟨h6, z⟩⟩
  · rcases h.first.min with e | e
    · exact .inl e
    · rcases Nat.eq_zero_or_pos m.first with z | z
      · exact .inl z
      · exact .inr fun hc => e (by rw [hb _ (by omega), hP] at hc; exact hc)
  · have hw : n.few.Pairwise (· < ·) := by rw [h4]; exact List.Pairwise.filter _ List.pairwise_lt_range
    refine pw_ext (by rw [h.few]; exact hl.few.filter _) (hw.filter _) fun x => ?_
    rw [h.mem, List.mem_filter]
    simp only [decide_eq_true_eq]
    exact ⟨fun ⟨a, b⟩ => ⟨(hb x b).mpr a, b⟩, fun ⟨a, b⟩ => ⟨(hb x b).mp a, b⟩⟩
/-- what stands in it -/
theorem LeastOf.has {l m : Lot} (hl : l.Ok) (h : LeastOf l m) (x : Nat) : (if x < m.first then decide (x ∈ m.few) else decide (x % m.lap ∈ m.rests)) = l.has x := by
  have hD : Dn l.few l.P l.first m.first := ⟨h.first.le, h.first.ok⟩
  unfold Lot.has
  split
  · rename_i hx
    rw [inL_below (by have := h.first.le; omega)]
    have : x ∈ m.few ↔ x ∈ l.few := by rw [h.mem]; exact ⟨fun z => z.1, fun z => ⟨z, hx⟩⟩
    simp [this]
  · rename_i hx
    rw [inL_above hD hl.lt (by omega), ← h.Peq]
    rfl
/-! ### the law's own parts -/
theorem law_few {l m : Lot} (hl : l.Ok) (h : LeastOf l m) : (List.range m.first).filter l.has = m.few := by
  refine pw_ext (List.Pairwise.filter _ List.pairwise_lt_range) (h.ok hl).few fun x => ?_
  rw [List.mem_filter, List.mem_range, h.mem]
  unfold Lot.has
  constructor
  · rintro ⟨h1, h2⟩
    rw [inL_below (by have := h.first.le; omega)] at h2
    exact ⟨of_decide_eq_true h2, h1⟩
  · rintro ⟨h1, h2⟩
    rw [inL_below (by have := h.first.le; omega)]
    exact ⟨h2, decide_eq_true h1⟩
theorem law_rests {l m : Lot} {ys : List Nat} (hl : l.Ok) (h : LeastOf l m) (hy : ys.Pairwise (· < ·)) (hm : ∀ y, y ∈ ys ↔ ∃ x, m.first ≤ x ∧ x < m.first + m.lap ∧ l.has x = true ∧ x % m.lap = y) : ys = m.rests := by
  have hD : Dn l.few l.P l.first m.first := ⟨h.first.le, h.first.ok⟩
  rw [h.rests]
  refine pw_ext hy (rs_pw _ _) fun y => ?_
  rw [hm, rs_mem]
  constructor
  · rintro ⟨x, h1, h2, h3, rfl⟩
    unfold Lot.has at h3
    rw [inL_above hD hl.lt h1] at h3
    exact ⟨Nat.mod_lt _ h.lap.pos, by rw [h.lap.per.at]; exact h3⟩
  · rintro ⟨h1, h2⟩
    have hp := h.lap.pos
    have hz : ∃ x, m.first ≤ x ∧ x < m.first + m.lap ∧ x % m.lap = y := by
      rcases Nat.lt_or_ge y (m.first % m.lap) with z | z
      · refine ⟨m.first / m.lap * m.lap + m.lap + y, ?_, ?_, ?_⟩
        · have := Nat.div_add_mod m.first m.lap
          rw [Nat.mul_comm] at this
          have := Nat.mod_lt m.first hp
          omega
        · have := Nat.div_add_mod m.first m.lap
          rw [Nat.mul_comm] at this
          omega
        · rw [Nat.add_assoc, Nat.mul_comm, Nat.mul_add_mod, Nat.add_mod_left, Nat.mod_eq_of_lt h1]
      · refine ⟨m.first / m.lap * m.lap + y, ?_, ?_, ?_⟩
        · have := Nat.div_add_mod m.first m.lap
          rw [Nat.mul_comm] at this
          omega
        · have := Nat.div_add_mod m.first m.lap
          rw [Nat.mul_comm] at this
          omega
        · rw [Nat.mul_comm, Nat.mul_add_mod, Nat.mod_eq_of_lt h1]
    obtain ⟨x, a, b, c⟩ := hz
    refine ⟨x, a, b, ?_, c⟩
    unfold Lot.has
    rw [inL_above hD hl.lt a, ← h.lap.per.at, c]
    exact h2
end M58

/-! k58: a lot has a least lot. -/
namespace M58
theorem least_of {p : Nat → Prop} : ∀ n, p n → ∃ m, p m ∧ ∀ k, p k → m ≤ k := by
  intro n
  induction n using Nat.strongRecOn with
  | ind n ih =>
    intro h
    by_cases c : ∃ k, k < n ∧ p k
    · obtain ⟨k, h1, h2⟩ := c
      exact ih k h1 h2
    · refine ⟨n, h, fun k hk => ?_⟩
      rcases Nat.lt_or_ge k n with z | z
      · exact absurd ⟨k, z, hk⟩ c
      · exact z
theorem Least.ex {P : Nat → Bool} {lap : Nat} (hl : 0 < lap) (h : Per P lap) : ∃ p, Least P lap p := by
  obtain ⟨m, ⟨h1, h2, h3⟩, h4⟩ := least_of (p := fun d => 0 < d ∧ d ∣ lap ∧ Per P d) lap ⟨hl, Nat.dvd_refl _, h⟩
  exact ⟨m, h1, h2, h3, fun d a b c => h4 d ⟨a, b, c⟩⟩
theorem IsF.ex (few : List Nat) (P : Nat → Bool) (first : Nat) : ∃ f, IsF few P first f := by
  obtain ⟨m, h1, h4⟩ := least_of (p := fun d => Dn few P first d) first (Dn.start _ _ _)
  refine ⟨m, h1.isF ?_⟩
  rcases Nat.eq_zero_or_pos m with z | z
  · exact .inl z
  · refine .inr fun c => ?_
    have := h4 _ (h1.step z c)
    omega
theorem LeastOf.ex {l : Lot} (h : l.Ok) : ∃ m, LeastOf l m := by
  obtain ⟨p, hp⟩ := Least.ex h.lap h.per
  obtain ⟨f, hf⟩ := IsF.ex l.few l.P l.first
  exact ⟨⟨l.few.filter (fun x => decide (x < f)), f, p, rs l.P p⟩, hp, hf, rfl, rfl⟩
end M58

/-! k58: what is lacking is there, and one. -/
namespace M58
theorem LL.ex {few : List Nat} {first : Nat} {lap r : Int} (hl : 0 < lap) (h0 : 0 ≤ r) (h1 : r < lap) : ∃ y, LL few first lap r y ∧ ¬ ∃ n ∈ few, y = ((n : Nat) : Int) := by
  have go : ∀ (k : Nat) (y : Int), (y + 1).toNat ≤ k → LL few first lap r y → ∃ y, LL few first lap r y ∧ ¬ ∃ n ∈ few, y = ((n : Nat) : Int) := by
    intro k
    induction k with
    | zero =>
      intro y hy h
      refine ⟨y, h, fun ⟨n, _, e⟩ => ?_⟩
      omega
    | succ k ih =>
      intro y hy h
      by_cases c : ∃ n ∈ few, y = ((n : Nat) : Int)
      · refine ih (y - lap) ?_ (h.step hl c)
        obtain ⟨n, _, e⟩ := c
        omega
      · exact ⟨y, h, c⟩
  exact go _ _ (Nat.le_refl _) (LL.start hl h0 h1)
theorem LL.uniq {few : List Nat} {first : Nat} {lap r y z : Int} (h : LL few first lap r y) (h' : LL few first lap r z) (n : ¬ ∃ n ∈ few, y = ((n : Nat) : Int)) (n' : ¬ ∃ n ∈ few, z = ((n : Nat) : Int)) : y = z := by
  rcases Int.lt_trichotomy y z with q | q | q
  · exact absurd (h.up z q h'.lt h'.eq) n'
  · exact q
  · exact absurd (h'.up y q h.lt h.eq) n
/-- what is lacking for each rest -/
noncomputable def lk (few : List Nat) (first : Nat) (lap r : Nat) : Int := by
  classical exact if h : ∃ y, LL few first lap r y ∧ ¬ ∃ n ∈ few, y = ((n : Nat) : Int) then h.choose else 0
theorem lk_ok {few : List Nat} {first lap r : Nat} (hl : 0 < lap) (h1 : r < lap) : LL few first lap r (lk few first lap r) ∧ ¬ ∃ n ∈ few, lk few first lap r = ((n : Nat) : Int) := by
  have h := LL.ex (few := few) (first := first) (lap := (lap : Int)) (r := (r : Int)) (by omega) (by omega) (by omega)
  unfold lk
  rw [dif_pos h]
  exact h.choose_spec
theorem lk_eq {few : List Nat} {first lap r : Nat} (hl : 0 < lap) (h1 : r < lap) {y : Int} (h : LL few first lap r y) (n : ¬ ∃ n ∈ few, y = ((n : Nat) : Int)) : y = lk few first lap r :=
  h.uniq (lk_ok hl h1).1 n (lk_ok hl h1).2
/-- the greatest is where it begins -/
theorem max_isF {few : List Nat} {P : Nat → Bool} {first lap : Nat} {ns : List Int} {m : Int} (hl : 0 < lap) (hp : Per P lap) (hf : ∀ x ∈ few, x < first)
    (hn : ∀ y : Int, y ∈ ns ↔ (∃ x ∈ few, P x = false ∧ y = (x : Int) + 1) ∨ (∃ r ∈ rs P lap, y = lk few first lap r + 1) ∨ y = 0) (hm : m ∈ ns) (hge : ∀ y ∈ ns, y ≤ m) : 0 ≤ m ∧ IsF few P first m.toNat := by
  have m0 : 0 ≤ m := hge 0 ((hn 0).mpr (.inr (.inr rfl)))
  refine ⟨m0, isF_max hl hp hf (fun r hr => lk_ok hl (rs_mem.mp hr).1) (fun x hx h => ?_) (fun r hr => ?_) ?_⟩
  · have := hge _ ((hn _).mpr (.inl ⟨x, hx, h, rfl⟩)); omega
  · have := hge _ ((hn _).mpr (.inr (.inl ⟨r, hr, rfl⟩))); omega
  · rcases (hn m).mp hm with ⟨x, hx, h, e⟩ | ⟨r, hr, e⟩ | e
    · exact .inr (.inl ⟨x, hx, h, by omega⟩)
    · exact .inr (.inr ⟨r, hr, by omega⟩)
    · exact .inl (by omega)
end M58

/-! k58: the law's own steps and rests. -/
namespace M58
theorem head_least {l : List Nat} {p : Nat} (hs : l.Pairwise (· < ·)) (hp : p ∈ l) (hm : ∀ x ∈ l, p ≤ x) : ∃ t, l = p :: t := by
  cases l with
  | nil => cases hp
  | cons a t =>
    have h1 := hm a List.mem_cons_self
    rcases List.mem_cons.mp hp with e | e
    · exact ⟨t, by rw [e]⟩
    · have := (List.pairwise_cons.mp hs).1 p e
      omega
theorem steps_head {P : Nat → Bool} {lap p : Nat} (hl : 0 < lap) (h : Least P lap p) (g : Nat → Bool) (hg : ∀ s, s ∣ lap → (g s = true ↔ Per P s)) :
    ∃ t, ((List.range' 1 lap).filter fun s => decide (lap % s = 0)).filter g = p :: t := by
  refine head_least (((List.pairwise_lt_range' (s := 1) (n := lap)).filter _).filter _) ?_ fun x hx => ?_
  · rw [List.mem_filter, List.mem_filter, List.mem_range'_1, decide_eq_true_iff]
    have := Nat.le_of_dvd hl h.dv
    have := h.pos
    exact ⟨⟨by omega, Nat.mod_eq_zero_of_dvd h.dv⟩, (hg p h.dv).mpr h.per⟩
  · rw [List.mem_filter, List.mem_filter, List.mem_range'_1, decide_eq_true_iff] at hx
    obtain ⟨⟨h1, h2⟩, h3⟩ := hx
    have hd := Nat.dvd_of_mod_eq_zero h2
    exact h.min x (by omega) hd ((hg x hd).mp h3)
theorem res_nodup (f lap : Nat) : ((List.range' f lap).map (· % lap)).Nodup := by
  unfold List.Nodup
  rw [List.pairwise_map]
  refine (List.pairwise_lt_range' (s := f) (n := lap)).imp_of_mem fun {a b} ha hb hab e => ?_
  rw [List.mem_range'_1] at ha hb
  have h1 : (b - a) % lap = 0 := Nat.sub_mod_eq_zero_of_mod_eq e.symm
  have h2 : (b - a) % lap = b - a := Nat.mod_eq_of_lt (by omega)
  omega
theorem sorted_lt {ys xs : List Nat} (hp : ys.Perm xs) (hn : xs.Nodup) (hs : ys.Pairwise (· ≤ ·)) : ys.Pairwise (· < ·) := by
  have hy : ys.Nodup := hp.nodup_iff.mpr hn
  exact (hs.and hy).imp fun ⟨h1, h2⟩ => Nat.lt_of_le_of_ne h1 h2
end M58

namespace K58
open PySem PySem.Spec L2 PL
def topS (i : Nat) : Stmt := PySem.Challenge.pw_serialhouse_k58_lots_of_lengths.main.body.getD i (.Pass ⟨0, 0, 0, 0⟩)
abbrev s_common_part : Stmt := topS 5
theorem sc_common_part : FnScope ["one", "other"] ["one", "other"] (defScope s_common_part) := ⟨rfl, rfl, rfl, by decide +kernel, rfl, by decide +kernel, by decide +kernel⟩
abbrev s_is_integer : Stmt := topS 7
theorem sc_is_integer : FnScope ["thing"] ["thing"] (defScope s_is_integer) := ⟨rfl, rfl, rfl, by decide +kernel, rfl, by decide +kernel, by decide +kernel⟩
abbrev s_are_ascending : Stmt := topS 9
theorem sc_are_ascending : FnScope ["thing", "one", "other", "number"] ["thing"] (defScope s_are_ascending) := ⟨rfl, rfl, rfl, by decide +kernel, rfl, by decide +kernel, by decide +kernel⟩
abbrev s_first_parts : Stmt := topS 11
theorem sc_first_parts : FnScope ["number", "found", "left", "at"] ["number"] (defScope s_first_parts) := ⟨rfl, rfl, rfl, by decide +kernel, rfl, by decide +kernel, by decide +kernel⟩
abbrev s_least_round : Stmt := topS 12
theorem sc_least_round : FnScope ["lap", "rests", "prime", "known", "rest"] ["lap", "rests"] (defScope s_least_round) := ⟨rfl, rfl, rfl, by decide +kernel, rfl, by decide +kernel, by decide +kernel⟩
abbrev s_last_lacking : Stmt := topS 13
theorem sc_last_lacking : FnScope ["known", "first", "lap", "rest", "length"] ["known", "first", "lap", "rest"] (defScope s_last_lacking) := ⟨rfl, rfl, rfl, by decide +kernel, rfl, by decide +kernel, by decide +kernel⟩
abbrev s_least_first : Stmt := topS 14
theorem sc_least_first : FnScope ["few", "first", "lap", "rests", "known", "mates", "odd", "lacking", "length", "rest"] ["few", "first", "lap", "rests"] (defScope s_least_first) := ⟨rfl, rfl, rfl, by decide +kernel, rfl, by decide +kernel, by decide +kernel⟩
abbrev s_law_deck : Stmt := topS 21
theorem sc_law_deck : FnScope ["_law_script", "_law_cells", "_law_mixed", "_law_cell"] ["_law_script"] (defScope s_law_deck) := ⟨rfl, rfl, rfl, by decide +kernel, rfl, by decide +kernel, by decide +kernel⟩
abbrev s_law_draw : Stmt := topS 22
theorem sc_law_draw : FnScope ["_law_deck_here", "_law_many", "_law_turn", "_law_cell", "_law_number"] ["_law_deck_here", "_law_many"] (defScope s_law_draw) := ⟨rfl, rfl, rfl, by decide +kernel, rfl, by decide +kernel, by decide +kernel⟩
abbrev s_law_pick : Stmt := topS 23
theorem sc_law_pick : FnScope ["_law_deck_here", "_law_some"] ["_law_deck_here", "_law_some"] (defScope s_law_pick) := ⟨rfl, rfl, rfl, by decide +kernel, rfl, by decide +kernel, by decide +kernel⟩
abbrev s_law_far : Stmt := topS 24
theorem sc_law_far : FnScope ["_law_deck_here", "_law_many", "_law_found", "_law_turn"] ["_law_deck_here", "_law_many"] (defScope s_law_far) := ⟨rfl, rfl, rfl, by decide +kernel, rfl, by decide +kernel, by decide +kernel⟩
abbrev s_law_in : Stmt := topS 25
theorem sc_law_in : FnScope ["_law_lot_here", "_law_length"] ["_law_lot_here", "_law_length"] (defScope s_law_in) := ⟨rfl, rfl, rfl, by decide +kernel, rfl, by decide +kernel, by decide +kernel⟩
abbrev s_law_least : Stmt := topS 26
theorem sc_law_least : FnScope ["_law_told_here", "_law_lot_here", "_law_some", "_law_around", "_law_first", "_law_few", "_law_rests", "_law_step", "_law_length", "_law_k"] ["_law_told_here"] (defScope s_law_least) := ⟨rfl, rfl, rfl, by decide +kernel, rfl, by decide +kernel, by decide +kernel⟩
abbrev s_law_lot : Stmt := topS 27
theorem sc_law_lot : FnScope ["_law_deck_here", "_law_first", "_law_around", "_law_rests", "_law_way", "_law_few", "_law_length", "_law_rest"] ["_law_deck_here"] (defScope s_law_lot) := ⟨rfl, rfl, rfl, by decide +kernel, rfl, by decide +kernel, by decide +kernel⟩
abbrev s_law_told : Stmt := topS 28
theorem sc_law_told : FnScope ["_law_lot_here"] ["_law_lot_here"] (defScope s_law_told) := ⟨rfl, rfl, rfl, by decide +kernel, rfl, by decide +kernel, by decide +kernel⟩
abbrev s_law_heard : Stmt := topS 29
theorem sc_law_heard : FnScope ["_law_parts", "_law_way", "_law_found", "_law_few", "_law_first", "_law_around", "_law_rests", "e"] ["_law_parts", "_law_way"] (defScope s_law_heard) := ⟨rfl, rfl, rfl, by decide +kernel, rfl, by decide +kernel, by decide +kernel⟩
abbrev s_law_odd : Stmt := topS 30
theorem sc_law_odd : FnScope ["_law_deck_here", "_law_lot_here", "_law_at", "_law_top", "_law_odds"] ["_law_deck_here", "_law_lot_here", "_law_at"] (defScope s_law_odd) := ⟨rfl, rfl, rfl, by decide +kernel, rfl, by decide +kernel, by decide +kernel⟩
abbrev s_law_is_made_right : Stmt := topS 31
theorem sc_law_is_made_right : FnScope ["_law_deck_here", "_law_lot_here", "_law_due", "_law_turn", "_law_parts", "_law_bad", "_law_at"] ["_law_deck_here", "_law_lot_here"] (defScope s_law_is_made_right) := ⟨rfl, rfl, rfl, by decide +kernel, rfl, by decide +kernel, by decide +kernel⟩
abbrev s_law_are_lengths_right : Stmt := topS 32
theorem sc_law_are_lengths_right : FnScope ["_law_deck_here", "_law_lot_here", "_law_code", "_law_length", "_law_it"] ["_law_deck_here", "_law_lot_here"] (defScope s_law_are_lengths_right) := ⟨rfl, rfl, rfl, by decide +kernel, rfl, by decide +kernel, by decide +kernel⟩
abbrev s_law_are_equal_right : Stmt := topS 33
theorem sc_law_are_equal_right : FnScope ["_law_deck_here", "_law_lot_here", "_law_mate", "_law_one", "_law_other", "_law_far_here", "_law_few", "_law_near", "_law_length", "_law_it"] ["_law_deck_here", "_law_lot_here", "_law_mate"] (defScope s_law_are_equal_right) := ⟨rfl, rfl, rfl, by decide +kernel, rfl, by decide +kernel, by decide +kernel⟩
abbrev s_law : Stmt := topS 34
theorem sc_law : FnScope ["_law_script", "_law_deck_here", "_law_lots", "_law_around", "_law_lot_here", "_law_rest"] ["_law_script"] (defScope s_law) := ⟨rfl, rfl, rfl, by decide +kernel, rfl, by decide +kernel, by decide +kernel⟩
abbrev s_Lengths_init : Stmt := inClass (topS 19) 0
theorem sc_Lengths_init : FnScope ["self", "few", "first", "around", "rests", "length"] ["self", "few", "first", "around", "rests"] (defScope s_Lengths_init) := ⟨rfl, rfl, rfl, by decide +kernel, rfl, by decide +kernel, by decide +kernel⟩
abbrev s_Lengths_eq : Stmt := inClass (topS 19) 1
theorem sc_Lengths_eq : FnScope ["self", "other"] ["self", "other"] (defScope s_Lengths_eq) := ⟨rfl, rfl, rfl, by decide +kernel, rfl, by decide +kernel, by decide +kernel⟩
abbrev s_Lengths_contains : Stmt := inClass (topS 19) 2
theorem sc_Lengths_contains : FnScope ["self", "thing"] ["self", "thing"] (defScope s_Lengths_contains) := ⟨rfl, rfl, rfl, by decide +kernel, rfl, by decide +kernel, by decide +kernel⟩
theorem dp_ints {K : PySem.W.Frag} {H : Hp} : ∀ cs : List Int, DpAll K H (cs.map V.int) (cs.map PyData.int)
  | [] => .nil
  | _ :: r => .cons (.int _) (dp_ints r)
theorem shaped_ints (cs : List Int) : SeqAt.shaped (.list (cs.map PyData.int)) = true := by
  have h1 : PyData.canLayAll0 (cs.map PyData.int) = true := by
    induction cs with
    | nil => rfl
    | cons x r ih => rw [List.map_cons, PyData.canLayAll0, ih]; rfl
  have h2 : PyData.depthAll (cs.map PyData.int) ≤ 1 := by
    clear h1
    induction cs with
    | nil => exact Nat.zero_le _
    | cons x r ih => rw [List.map_cons, PyData.depthAll]; simp only [PyData.depth]; omega
  have h3 : (PyData.list (cs.map PyData.int)).depth ≤ 64 := by rw [PyData.depth]; omega
  unfold SeqAt.shaped
  rw [PyData.canLay0, h1, decide_eq_true h3]
  rfl
section
variable {P : Program} {w : World} {K : PySem.W.Frag} {mg : Str → Option Value} {base : Heap}
/-- the deck's dict -/
abbrev dkv (a b c : V) : List (Key × V) := [(Sum.inr NM.1, a), (Sum.inr NM.2.1, b), (Sum.inr NM.2.2, c)]
theorem val1 (a b c : V) : valV (dkv a b c) (Sum.inr NM.1) = some a := rfl
theorem val2 (a b c : V) : valV (dkv a b c) (Sum.inr NM.2.1) = some b := rfl
theorem val3 (a b c : V) : valV (dkv a b c) (Sum.inr NM.2.2) = some c := rfl
theorem put3 (a b c d : V) : putK (dkv a b c) (Sum.inr NM.2.2) d = dkv a b d := rfl
theorem dget1 {H : Hp} {l : Addr} {a b c : V} (h : H l = some (.dK (dkv a b c))) : DGet H l (.str NM.1) (some a) := .inl ⟨_, Sum.inr NM.1, .inl h, rfl, (val1 a b c).symm⟩
theorem dget2 {H : Hp} {l : Addr} {a b c : V} (h : H l = some (.dK (dkv a b c))) : DGet H l (.str NM.2.1) (some b) := .inl ⟨_, Sum.inr NM.2.1, .inl h, rfl, (val2 a b c).symm⟩
theorem dget3 {H : Hp} {l : Addr} {a b c : V} (h : H l = some (.dK (dkv a b c))) : DGet H l (.str NM.2.2) (some c) := .inl ⟨_, Sum.inr NM.2.2, .inl h, rfl, (val3 a b c).symm⟩
theorem dput3 {H : Hp} {l : Addr} {a b c d : V} (h : H l = some (.dK (dkv a b c))) : DPut H l (.str NM.2.2) d (upd H l (.dK (dkv a b d))) := .inl ⟨_, Sum.inr NM.2.2, h, rfl, by show 3 < sizeLine; decide, by rw [put3]⟩
/-- a draw below b -/
def S_law_draw : PL.Spec := fun ds n R => ∃ b : Int, ds = [.res, .int b] ∧ 0 < b ∧ b < 1073741824 ∧ n < lim ∧ ∀ m : Int, 0 ≤ m → m < b → R (.int m) (n + 1)
abbrev getK {X : Cx} (hu : X.A.units + 1 < cLine) {o i : Expr} {td ty : TE} {pos : Pos} (ho : PE X o td) (hi : PE X i ty) (hs : NoSl i) : PE X (.Subscript o i pos) (tDGet td ty) := pe_dget hu ho hi hs
theorem ok_law_draw {f : Addr} {fd : FuncData} (F : Fun K "_law_draw" "_law_draw" s_law_draw f fd) (hm : mg "_law_draw" = some (.ref f)) (B : BI mg) : FnC P w K mg base 1 "_law_draw" ["_law_deck_here", "_law_many"] [] S_law_draw := by
  have hb := (F.binds (ps := ["_law_deck_here", "_law_many"]) fun _ _ _ _ _ _ us hl => match us, hl with | [_, _], _ => rfl)
  have hnb : ∀ q ∈ ([] : List (List Str × List Nat)), NBinds K fd ["_law_deck_here", "_law_many"] q.1 q.2 := (fun q hq => nomatch hq)
  refine fncH F hm hb hnb (k := 1) ?_
  refine F.okG (k := 0) sc_law_draw (fun vs H Q E h => ?_) (fun cdv A outer s H vs Q E hgd hr h => ?_)
  · obtain ⟨c, n, F0, ds, R, hK, h1, h2, h3, r, ⟨b, rfl, _⟩, _⟩ := h
    exact r.length
  · obtain ⟨c, n, F0, ds, R, hK, h1, h2, ⟨ne, cs, mx, k, d1, d2, d3, d4, d5, d6⟩, r, ⟨b, rfl, b1, b2, hn, hR⟩, hq⟩ := h
    cases r with
    | cons r r' =>
    cases r' with
    | cons r' r'' =>
    cases r''
    cases r
    cases r'
    have hu := hu_of hr
    refine ⟨_, (pss_cons (ps_par (i := 2) (j := 3) rfl sc_law_draw.nd rfl rfl (by decide) rfl rfl (pa_cons (pe_op op_add (pe_dget hu (pv 0) pe_str (fun _ _ => rfl)) pe_int) (pa_cons (pe_dget hu (pv 0) pe_str (fun _ _ => rfl)) pa_nil)) (by rfl))
      (pss_cons (ps_dput hu (pv 0) pe_str (pv 2) rfl)
      (pss_cons (ps_if (pt_cmpR (op_neD hr.units) (pe_dget hu (pv 0) pe_str (fun _ _ => rfl)) (pe_lst pa_nil) (nomark _))
        (pss_cons (ps_set (i := 3) sc_law_draw.nd rfl (.inl rfl) (pe_bm0 PySem.F.plainAttrs_list PySem.F.slot_list_pop PySem.F.type_list_pop mt_pop (pe_dget hu (pv 0) pe_str (fun _ _ => rfl))))
        (pss_cons (ps_if (pt_cmpR op_ge (pv 3) (pe_op op_pow pe_int pe_int) (nomark _))
          (pss_cons (ps_expr (pe_bm PySem.F.plainAttrs_list PySem.F.slot_list_append PySem.F.type_list_append mt_append (pe_dget hu (pv 0) pe_str (fun _ _ => rfl)) (pa_cons (pe_op op_fdiv (pv 3) (pv 1)) pa_nil)))
            (pss_one (ps_ret (pe_op op_mod (pe_callTy call_int1 rfl B.int (by decide +kernel) (pa_cons (pv 3) pa_nil)) (pv 1))))) pss_nil)
        (pss_one (ps_set (i := 3) sc_law_draw.nd rfl (.inl rfl) (pe_op op_add (pv 3) (pe_dget hu (pv 0) pe_str (fun _ _ => rfl))))))) pss_nil)
      (pss_cons (ps_set (i := 4) sc_law_draw.nd rfl (.inl rfl) (pe_op op_add (pe_op op_mod (pe_op op_mul (pe_op op_mod (pe_callTy call_int1 rfl B.int (by decide +kernel) (pa_cons (pv 3) pa_nil)) pe_int) pe_int) pe_int) (pe_op op_mul (pe_op op_mul pe_int (pv 2)) (pv 2))))
      (pss_cons (ps_set (i := 4) sc_law_draw.nd rfl (.inl rfl) (pe_op op_mod (pe_callTy call_int1 rfl B.int (by decide +kernel) (pa_cons (pe_op op_add (pe_op op_add (pe_op op_mulW (pv 4) (pv 4)) (pe_op op_mul pe_int (pv 2))) pe_int) pa_nil)) pe_int))
      (pss_one (ps_ret (pe_op op_mod (pe_op op_fdiv (pe_op op_mod (pe_op op_mul (pv 4) pe_int) pe_int) pe_int) (pv 1))))))))), ?_⟩
    -- deck['draws'] = deck['draws'] + 1
    refine ⟨_, rfl, _, _, rfl, dget3 d1, k, 1, rfl, rfl, _, rfl, _, _, rfl, dget2 d1, _, _, rfl, ?_⟩
    refine ⟨_, rfl, _, rfl, _, _, rfl, dput3 d1, ?_⟩
    have e1 : (upd H c.dd (.dK (dkv (.ref c.de) (.int mx) (.int (k + 1))))) c.dd = some (.dK (dkv (.ref c.de) (.int mx) (.int (k + 1)))) := upd_same
    have e2 : (upd H c.dd (.dK (dkv (.ref c.de) (.int mx) (.int (k + 1))))) c.de = some (.lst (cs.map V.int)) := by rw [upd_ne (Ne.symm ne)]; exact d2
    have e3 : ∀ b x, H b = some x → ¬ c.fp b → (upd H c.dd (.dK (dkv (.ref c.de) (.int mx) (.int (k + 1))))) b = some x := fun b x hb hf => by
      rw [upd_ne (fun z => hf (.inl z))]; exact hb
    have e4 : ∀ b, (upd H c.dd (.dK (dkv (.ref c.de) (.int mx) (.int (k + 1))))) b = none → H b = none := fun b hb => by
      by_cases z : b = c.dd
      · subst z; rw [upd_same] at hb; cases hb
      · rw [upd_ne z] at hb; exact hb
    generalize upd H c.dd (.dK (dkv (.ref c.de) (.int mx) (.int (k + 1)))) = H1 at e1 e2 e3 e4
    -- what is handed back
    have fin : ∀ (H' : Hp) (cs' : List Int) (v : Int), H' c.dd = some (.dK (dkv (.ref c.de) (.int mx) (.int (k + 1)))) → H' c.de = some (.lst (cs'.map V.int)) → cs'.length ≤ 63 → (∀ b x, H b = some x → ¬ c.fp b → H' b = some x) → 0 ≤ v → v < b → Q (.int v) H' := by
      intro H' cs' v g1 g2 g3 g4 g5 g6
      refine hq (n + 1) F0 H' _ (.int v) (Same.refl _) g4 (fun b x hb => g4 b x (h1 b x hb) fun hf => ?_) h2 (fun b _ z => z) ⟨ne, cs', mx, k + 1, g1, g2, g3, by omega, by omega, by unfold lim at hn ⊢; omega⟩ (.int v) (hR v g5 g6)
      rw [h2 b hf] at hb; cases hb
    have hk0 : 0 ≤ k + 1 := by omega
    have hk1 : k + 1 < 2 ^ 64 := by unfold lim at hn; omega
    have wide : ∀ x : Int, CMulW (x % 2147483647 + 60427 * (k + 1) * (k + 1)) (x % 2147483647 + 60427 * (k + 1) * (k + 1)) := fun x => by
      have h1 := Int.emod_nonneg x (show (2147483647 : Int) ≠ 0 by decide)
      have h2 := Int.emod_lt_of_pos x (show (0 : Int) < 2147483647 by decide)
      have h3 : k + 1 ≤ 2 ^ 41 := by unfold lim at hn; omega
      have h4 : (k + 1) * (k + 1) ≤ 2 ^ 41 * 2 ^ 41 := Int.mul_le_mul h3 h3 hk0 (by decide)
      have h5 : 0 ≤ (k + 1) * (k + 1) := Int.mul_nonneg hk0 hk0
      have h6 : 60427 * (k + 1) * (k + 1) = 60427 * ((k + 1) * (k + 1)) := Int.mul_assoc _ _ _
      have h7 : (x % 2147483647 + 60427 * (k + 1) * (k + 1)).natAbs < 2 ^ 101 := by rw [h6]; omega
      exact wide_mul h7 h7 (by decide) (by decide) (by decide)
    -- if deck['cells'] != []
    refine ⟨_, rfl, _, _, rfl, dget1 e1, Nat.zero_le _, fun p hp => ?_⟩
    have np1 : c.dd ≠ p := ne_of_none e1 hp
    have np2 : c.de ≠ p := ne_of_none e2 hp
    have f1 : (upd H1 p (.lst [])) c.dd = some (.dK (dkv (.ref c.de) (.int mx) (.int (k + 1)))) := by rw [upd_ne np1]; exact e1
    have f2 : (upd H1 p (.lst [])) c.de = some (.lst (cs.map V.int)) := by rw [upd_ne np2]; exact e2
    have f3 : ∀ b x, H b = some x → ¬ c.fp b → (upd H1 p (.lst [])) b = some x := fun b x hb hf => by
      rw [upd_ne (ne_of_none (e3 b x hb hf) hp)]; exact e3 b x hb hf
    have f0 : (upd H1 p (.lst [])) p = some (.lst []) := upd_same
    generalize upd H1 p (.lst []) = H2 at f1 f2 f3 f0
    refine ⟨.list (cs.map PyData.int), .list [], .lst (SqL.of f2) (dp_ints cs), .lst (SqL.of f0) .nil, shaped_ints cs, by decide, _, rfl, ?_⟩
    by_cases hc : cs = []
    · subst hc
      refine iteF ?_
      refine ⟨_, rfl, .inl ⟨_, rfl, _, _, rfl, rfl, (by show (0 : Int) < _; decide), _, _, rfl, rfl, .inr ⟨by decide, by decide⟩, _, _, rfl, rfl, (by show (0 : Int) < _; decide), _, rfl, _, _, rfl, rfl, .inl ⟨by decide, by decide⟩, _, rfl, _, _, rfl, rfl, .inr ⟨by omega, by omega⟩, _, _, rfl, rfl, ?_⟩⟩
      refine ⟨_, rfl, _, rfl, _, _, rfl, rfl, wide _, _, rfl, _, _, rfl, rfl, .inl ⟨by decide, by decide⟩, _, _, rfl, rfl, _, _, rfl, rfl, .inl ⟨_, rfl, _, _, rfl, rfl, (by show (0 : Int) < _; decide), ?_⟩⟩
      refine ⟨_, rfl, _, _, rfl, rfl, .inr ⟨by decide, by decide⟩, _, _, rfl, rfl, (by show (0 : Int) < _; decide), _, _, rfl, rfl, ⟨by decide, by decide⟩, _, rfl, _, _, rfl, rfl, b1, ?_⟩
      exact fin _ [] _ f1 f2 (Nat.zero_le _) f3 (Int.emod_nonneg _ (by omega)) (Int.emod_lt_of_pos _ b1)
    · have hne : (!PyData.eqv (.list (cs.map PyData.int)) (.list [])) = true := by
        cases cs with
        | nil => exact absurd rfl hc
        | cons x r => rfl
      rw [hne]
      refine iteT ?_
      obtain ⟨cs0, x, rfl⟩ : ∃ cs0 x, cs = cs0 ++ [x] := ⟨cs.dropLast, cs.getLast hc, (List.dropLast_concat_getLast hc).symm⟩
      have hdl : ((cs0 ++ [x]).map V.int).dropLast = cs0.map V.int := by rw [List.map_append]; simp
      have hla : ((cs0 ++ [x]).map V.int)[((cs0 ++ [x]).map V.int).length - 1]? = some (V.int x) := by simp
      refine ⟨_, rfl, _, _, rfl, dget1 f1, .inl ⟨rfl, _, SqL.of f2⟩, _, _, _, rfl, rfl, f2, hla, ?_⟩
      rw [hdl]
      have g1 : (upd H2 c.de (.lst (cs0.map V.int))) c.dd = some (.dK (dkv (.ref c.de) (.int mx) (.int (k + 1)))) := by rw [upd_ne ne]; exact f1
      have g2 : (upd H2 c.de (.lst (cs0.map V.int))) c.de = some (.lst (cs0.map V.int)) := upd_same
      have g3 : ∀ b x, H b = some x → ¬ c.fp b → (upd H2 c.de (.lst (cs0.map V.int))) b = some x := fun b x hb hf => by
        rw [upd_ne (fun z => hf (.inr z))]; exact f3 b x hb hf
      generalize upd H2 c.de (.lst (cs0.map V.int)) = H3 at g1 g2 g3
      have hlen : cs0.length + 1 ≤ 63 := by simpa using d3
      -- if cell >= 10 ** 18
      refine ⟨_, rfl, _, _, rfl, rfl, ⟨by decide, by decide, by decide⟩, _, _, rfl, rfl, _, rfl, ite2 (fun _ => ?_) (fun _ => ?_)⟩
      · refine ⟨_, rfl, _, _, rfl, dget1 g1, .inl ⟨rfl, _, SqL.of g2⟩, _, rfl, _, rfl, _, _, rfl, rfl, ⟨b1, b2⟩, _, _, _, rfl, rfl, g2, ?_, ?_⟩
        · rw [List.length_map, sizeLine_val]; omega
        · refine ⟨_, rfl, .inl ⟨_, rfl, _, rfl, _, _, rfl, rfl, b1, ?_⟩⟩
          refine fin _ (cs0 ++ [x / b]) _ ?_ ?_ (by rw [List.length_append]; exact hlen) ?_ (Int.emod_nonneg _ (by omega)) (Int.emod_lt_of_pos _ b1)
          · rw [upd_ne ne]; exact g1
          · rw [upd_same, List.map_append]; rfl
          · intro b x hb hf
            rw [upd_ne (fun z => hf (.inr z))]; exact g3 b x hb hf
      · refine ⟨_, rfl, _, rfl, _, _, rfl, dget2 g1, _, _, rfl, rfl, ?_⟩
        refine ⟨_, rfl, .inl ⟨_, rfl, _, _, rfl, rfl, (by show (0 : Int) < _; decide), _, _, rfl, rfl, .inr ⟨by decide, by decide⟩, _, _, rfl, rfl, (by show (0 : Int) < _; decide), _, rfl, _, _, rfl, rfl, .inl ⟨by decide, by decide⟩, _, rfl, _, _, rfl, rfl, .inr ⟨by omega, by omega⟩, _, _, rfl, rfl, ?_⟩⟩
        refine ⟨_, rfl, _, rfl, _, _, rfl, rfl, wide _, _, rfl, _, _, rfl, rfl, .inl ⟨by decide, by decide⟩, _, _, rfl, rfl, _, _, rfl, rfl, .inl ⟨_, rfl, _, _, rfl, rfl, (by show (0 : Int) < _; decide), ?_⟩⟩
        refine ⟨_, rfl, _, _, rfl, rfl, .inr ⟨by decide, by decide⟩, _, _, rfl, rfl, (by show (0 : Int) < _; decide), _, _, rfl, rfl, ⟨by decide, by decide⟩, _, rfl, _, _, rfl, rfl, b1, ?_⟩
        exact fin _ cs0 _ g1 g2 (by omega) g3 (Int.emod_nonneg _ (by omega)) (Int.emod_lt_of_pos _ b1)
theorem deck_ok {f : Addr} {fd : FuncData} (F : Fun K "_law_deck" "_law_deck" s_law_deck f fd) (B : BI mg) : FnG P w K mg base 1 f fd ["_law_script"] (spDeck K) := by
  refine F.okG (k := 0) sc_law_deck (fun vs H Q E h => ?_) (fun cdv A outer s H vs Q E hgd hr h => ?_)
  · obtain ⟨a, ns, rfl, _⟩ := h
    rfl
  · obtain ⟨a, ns, rfl, hS, hl, hq⟩ := h
    refine ⟨_, (pss_cons (ps_par (i := 1) (j := 2) rfl sc_law_deck.nd rfl rfl (by decide) rfl rfl (pa_cons (pe_callTy call_list_of rfl B.list (by decide +kernel) (pa_cons (pe_slice sl_list (pv 0) po_none (po_some pe_int)) pa_nil)) (pa_cons pe_int pa_nil)) (by rfl))
      (pss_cons (ps_for PassesOwn.never rfl (pi_list (pv 1)) (pg_name (i := 3) sc_law_deck.nd rfl (.inl rfl))
        (pss_one (ps_set (i := 2) sc_law_deck.nd rfl (.inl rfl) (pe_op op_mod (pe_callTy call_int1 rfl B.int (by decide +kernel) (pa_cons (pe_op op_add (pe_op op_add (pe_op op_mul (pv 2) pe_int) (pe_op op_mod (pe_callTy call_int1 rfl B.int (by decide +kernel) (pa_cons (pv 3) pa_nil)) pe_int)) pe_int) pa_nil)) pe_int))))
      (pss_one (ps_ret (pe_disp (pps_cons pe_str (pe_revL (pv 1)) (pps_cons pe_str (pv 2) (pps_cons pe_str pe_int pps_nil))) (by rfl) (by rfl) (fun z => by cases z) (by decide)))))), ?_⟩
    have hcut : ∀ xs : List V, ∃ ys : List V, cutV xs none (some 63) = ys ∧ ys = xs.take (min 63 xs.length) := fun xs => ⟨_, rfl, by
      unfold cutV
      rw [show HT.sIx xs.length xs.length (some 63) = min 63 xs.length from HT.sIx_nat xs.length xs.length 63, HT.sIx_none]
      simp⟩
    refine ⟨_, rfl, _, rfl, _, _, rfl, hS, fun p hp => ⟨p, _, rfl, .inl (SqL.of upd_same), fun q hq2 => ⟨_, _, rfl, ?_⟩⟩⟩
    obtain ⟨ys, e1, e2⟩ := hcut (ns.map V.int)
    rw [e1]
    have e3 : ys = (ns.take (min 63 ns.length)).map V.int := by rw [e2, List.length_map, List.map_take]
    have hlen : (ns.take (min 63 ns.length)).length ≤ 63 := by rw [List.length_take]; omega
    generalize ns.take (min 63 ns.length) = ms at e3 hlen
    subst e3
    have hL : (upd (upd H p (.lst (ms.map V.int))) q (.lst (ms.map V.int))) q = some (.lst (ms.map V.int)) := upd_same
    generalize upd (upd H p (.lst (ms.map V.int))) q (.lst (ms.map V.int)) = H1 at hL
    refine ⟨_, rfl, q, rfl, ⟨_, SqL.of hL⟩, for_list (xs := ms.map V.int) (fun i σ H2 => ∃ (mx : Int) (x3 : Option V), σ = [some (.ref a), some (.ref q), some (.int mx), x3] ∧ H2 = H1) ⟨_, none, rfl, rfl⟩ (fun i σ H2 _ ⟨_, _, _, e⟩ => by rw [e]; exact SqL.of hL) (fun i x σ H2 hx ⟨mx, x3, e, e'⟩ => ?_) (fun σ H2 ⟨mx, x3, e, e'⟩ => ?_)⟩
    · subst e e'
      obtain ⟨v, rfl⟩ : ∃ v : Int, x = .int v := by
        rw [List.getElem?_map] at hx
        cases z : ms[i]? with
        | none => rw [z] at hx; cases hx
        | some v => rw [z] at hx; cases hx; exact ⟨v, rfl⟩
      exact ⟨_, rfl, _, _, rfl, rfl, .inr ⟨by decide, by decide⟩, _, rfl, .inl ⟨_, rfl, _, _, rfl, rfl, (by show (0 : Int) < _; decide), _, _, rfl, rfl, _, _, rfl, rfl, .inl ⟨_, rfl, _, _, rfl, rfl, (by show (0 : Int) < _; decide), _, _, rfl, rfl⟩⟩⟩
    · subst e e'
      intro d hd
      have nq : q ≠ d := ne_of_none hL hd
      refine ⟨_, rfl, q, _, rfl, SqL.of (show (upd H2 d (.dK [])) q = some (.lst (ms.map V.int)) by rw [upd_ne nq]; exact hL), fun r hr2 => ⟨_, rfl, ?_⟩⟩
      have nr : d ≠ r := ne_of_none (show (upd H2 d (.dK [])) d = some (.dK []) from upd_same) hr2
      refine ⟨by rw [upd_ne nr, upd_same], [(Sum.inr "cells", .ref r), (Sum.inr "mixed", .int mx), (Sum.inr "turn", .int 0)], rfl, (by show 3 ≤ 15; decide), ?_⟩
      refine hq _ d r ⟨nr, ms.reverse, mx, 0, ?_, ?_, by rw [List.length_reverse]; exact hlen, Int.le_refl 0, Int.le_refl 0, Nat.zero_le _⟩
      · rw [upd_same]; rfl
      · show (upd _ d _) r = _
        rw [upd_ne (Ne.symm nr), upd_same, List.map_reverse]
end
end K58

namespace K58
open PySem PySem.Spec L2 PL M58
local macro_rules | `(tactic| walk_at "pl") => `(tactic| simp (maxSteps := 3000000) (dsimp := false) only [env0, envI, nxI, ↓q_srtsc, ↓q_inm, ↓q_eqm, ↓q_isia, ↓q_isic, ↓q_gfset, ↓asBl_f, ↓asBl_t, ↓q_gseq, ↓q_dk, ↓q_dict, ↓o_dictp, ↓q_lrg1, ↓q_lrg2, ↓q_zips, ↓o_zips, ↓o_maxl, List.map_cons, List.map_nil, List.length_cons, List.length_nil, List.replicate_succ, List.replicate_zero, List.cons_append, List.nil_append, List.getElem?_cons_zero, List.getElem?_cons_succ, List.set_cons_zero, List.set_cons_succ, Nat.reduceAdd, Nat.reduceSub, Nat.zero_add, ↓q_seq, ↓q_rowsD, ↓q_srt3, ↓q_rev2, ↓o_augs_int, ↓o_augd_int, ↓q_fnx, ↓q_fnxk, ↓q_raise, ↓q_try, ↓q_xf, ↓q_xis, ↓o_xf, ↓q_dsk, ↓q_pa0, ↓q_pa, ↓q_fld, ↓q_fset, ↓q_srt, ↓q_srtset, ↓q_lset, ↓q_laug, ↓q_extend, ↓o_lta_int, ↓o_lta_str, ↓o_lta_tup, ↓o_ins, ↓q_dc, ↓q_goals, ↓o_rep, kl_nil, kl_cons, Nat.reduceMod, ↓o_augm_int, ↓o_ltI, ↓q_dget, ↓q_dgett, ↓q_int, ↓q_dput, ↓q_dputt, ↓q_mnil, ↓q_msh, ↓q_mown, ↓q_parm, ↓q_rd3, ↓q_chain, ↓o_in_lst, ↓o_in_tup, ↓o_in_dic, ↓o_isn, ↓o_mult, ↓o_suma_lstI, ↓o_suma_tupI, ↓o_sumI, ↓o_lend, ↓o_tuplel, k_int, k_str, setC_cons, setC_nil, ↓q_next, ↓q_brk, ↓q_cnt, ↓q_ret, ↓q_ifs, ↓q_drop, ↓q_asg, ↓q_own, ↓q_par, ↓q_par3, ↓q_append, ↓q_for, ↓q_gset, ↓q_gtup, ↓q_gcons, ↓q_gnil, ↓q_aug, ↓q_var, ↓q_rd, ↓q_c, ↓q_bin, ↓q_un, ↓q_b, ↓q_not, ↓q_and, ↓q_or, ↓q_andv, ↓q_orv, ↓q_notv, ↓q_if, ↓q_nil, ↓q_cons, ↓q_consts, ↓q_tup, ↓q_lst, ↓q_sl, ↓q_no, ↓q_part, ↓q_rev, ↓q_call, ↓q_fn, ↓q_fnb, ↓q_fnk, ↓q_isi, ↓q_join, ↓q_lc, ↓q_yes, ↓q_r1, ↓q_r2, ↓q_iter, ↓q_enum, ↓q_enumk, ↓q_zip, ↓q_frz, ↓q_fmt, ↓q_js0, ↓q_js, ↓o_add_int, ↓o_add_str, ↓o_add_lst, ↓o_add_tup, ↓o_sub, ↓o_mul_int, ↓o_mul_lst, ↓o_mod, ↓o_div, ↓o_pow, ↓o_lt_int, ↓o_lt_str, ↓o_le, ↓o_gt, ↓o_ge, ↓o_ix_lst, ↓o_ix_tup, ↓o_ix_str, ↓o_sl_lst, ↓o_sl_tup, ↓o_sl_str, ↓o_len_lst, ↓o_len_tup, ↓o_len_str, ↓o_int_int, ↓o_int_bl, ↓o_int_str, ↓o_list_lst, ↓o_list_tup, ↓o_tuple_lst, ↓o_tuple_tup, ↓o_abs, ↓o_max, ↓o_min, ↓o_str, ↓o_all, ↓o_any, ↓o_aug_int, ↓i_lst, ↓i_tup, ↓i_str, ↓w_nil, ↓w_cons, ↓pk_cons', ↓pk_nil', ↓oEq_int, ↓oNe_int, ↓oEq_str, ↓oNe_str, noOwn, List.all_cons, List.all_nil, Bool.and_self, Bool.and_true, Bool.true_and, b_nd, decide_eq_true_eq, true_and, and_true, atI0, atI1, atI2, atI3, ↓ty_non, ↓ty_bl, ↓ty_int, ↓ty_str, ↓ty_lst, ↓ty_tup, ↓ty_dic, kk_NoneType_bool, kk_NoneType_int, kk_NoneType_str, kk_NoneType_list, kk_NoneType_tuple, kk_NoneType_dict, kk_bool_bool, kk_bool_int, kk_bool_str, kk_bool_list, kk_bool_tuple, kk_bool_dict, kk_int_bool, kk_int_int, kk_int_str, kk_int_list, kk_int_tuple, kk_int_dict, kk_str_bool, kk_str_int, kk_str_str, kk_str_list, kk_str_tuple, kk_str_dict, kk_list_bool, kk_list_int, kk_list_str, kk_list_list, kk_list_tuple, kk_list_dict, kk_tuple_bool, kk_tuple_int, kk_tuple_str, kk_tuple_list, kk_tuple_tuple, kk_tuple_dict, kk_dict_bool, kk_dict_int, kk_dict_str, kk_dict_list, kk_dict_tuple, kk_dict_dict, Bool.not_true, Bool.not_false, Bool.false_eq_true, if_true, if_false, ↓reduceIte, Bool.not_eq_true, List.isEmpty_nil, List.isEmpty_cons, not_true_eq_false, not_false_eq_true, decide_true, decide_false, List.flatten_cons, List.flatten_nil, sizeLine_val, Nat.reduceLeDiff, Nat.reduceLT, Nat.reduceMul, Int.reducePow, Int.reduceNeg, Int.reduceLE, Int.reduceLT, Int.reduceToNat, Int.reduceAdd, Int.reduceSub, Int.reduceMul])
local macro_rules | `(tactic| walk_at "dep") => `(tactic| (simp only [depD, depL, bulkD, bulkL]; first | decide | omega | (rw [← Nat.ble_eq]; rfl)))
local macro_rules | `(tactic| walk_at "nice") => `(tactic| (simp only [niceD, niceL, Bool.and_true, Bool.true_and, Bool.and_eq_true, decide_eq_true_eq, and_true, true_and]))
section
variable {P : Program} {w : World} {K : PySem.W.Frag} {mg : Str → Option Value} {base : Heap}
def nD (xs : List Nat) : List D := xs.map fun x => .int (x : Nat)
theorem nD_len (xs : List Nat) : (nD xs).length = xs.length := List.length_map _
def isInt : D → Bool | .int _ => true | _ => false
/-- what may be asked for its kind -/
def kd (d : D) : Bool := plainD d || isK 3 d
def S_is_integer : PL.Spec := fun ds n R => ∃ d : D, ds = [d] ∧ kd d = true ∧ R (.bl (isInt d)) n
theorem ok_is_integer {f : Addr} {fd : FuncData} (F : Fun K "is_integer" "is_integer" s_is_integer f fd) (hm : mg "is_integer" = some (.ref f)) (B : BI mg) (I_Lengths : InsT K 3) : FnC P w K mg base 1 "is_integer" ["thing"] [] S_is_integer := by
  refine fnc F hm sc_is_integer (F.binds (ps := ["thing"]) fun _ _ _ _ _ _ us hl => match us, hl with | [_], _ => rfl)
    (fun q hq => nomatch hq) ?_ (fun cdv A outer s H E hgd hr => ⟨_, (dss_one (ds_ret (SE.of (de_and (de_isiA (T := "int") I_Lengths B.isinstance B.int rfl rfl (by decide +kernel) (se_var (pv 0))) (de_one (de_not (de_isiA (T := "bool") I_Lengths B.isinstance B.bool rfl rfl (by decide +kernel) (se_var (pv 0))))))))), ?_⟩)
  · rintro ds n R ⟨d, rfl, _⟩; rfl
  · rintro ds n R ⟨d, rfl, hk, hR⟩
    walk_at "pl"
    cases d with
    | obj k fs =>
      have hk : isK 3 (.obj k fs) = true := by simpa [kd, plainD, tyName] using hk
      simp only [tyName]
      exact ⟨hk, hR⟩
    | res => simp [kd, plainD, tyName, isK] at hk
    | _ => simp only [tyName]; exact hR
def S_common_part : PL.Spec := fun ds n R => ∃ a b : Nat, ds = [.int a, .int b] ∧ R (.int (Nat.gcd a b : Nat)) n
theorem ok_common_part {f : Addr} {fd : FuncData} (F : Fun K "common_part" "common_part" s_common_part f fd) (hm : mg "common_part" = some (.ref f)) (B : BI mg) : FnC P w K mg base 1 "common_part" ["one", "other"] [] S_common_part := by
  refine fnc F hm sc_common_part (F.binds (ps := ["one", "other"]) fun _ _ _ _ _ _ us hl => match us, hl with | [_, _], _ => rfl)
    (fun q hq => nomatch hq) ?_ (fun cdv A outer s H E hgd hr => ⟨_, (dss_cons (ds_par (i := 0) (j := 1) sc_common_part.nd (by decide) (da_cons (de_abs B.abs rfl (sa_cons (se_var (pv 0)) sa_nil)) (da_cons (de_abs B.abs rfl (sa_cons (se_var (pv 1)) sa_nil)) da_nil)) (by rfl))
      (dss_cons (ds_while PassesOwn.never (dt_ne hr.units (se_var (pv 1)) (SE.of de_int)) (dss_one (ds_par (i := 0) (j := 1) sc_common_part.nd (by decide) (da_cons (de_var (pv 1)) (da_cons (de_mod (se_var (pv 0)) (se_var (pv 1))) da_nil)) (by rfl))))
      (dss_one (ds_ret (se_var (pv 0)))))), ?_⟩)
  · rintro ds n R ⟨a, b, rfl, _⟩; rfl
  · rintro ds n R ⟨a, b, rfl, hR⟩
    walk_at "pl"
    have na : ∀ x : Nat, (if (x : Int) < 0 then -(x : Int) else (x : Int)) = (x : Int) := fun x => by rw [if_neg (by omega)]
    simp only [na]
    refine ⟨fun m ρ k => ∃ x y : Nat, m = y ∧ ρ = [.sh (.int x), .sh (.int y)] ∧ k = n ∧ Nat.gcd x y = Nat.gcd a b, ⟨_, _, _, rfl, rfl, rfl, rfl⟩, ?_⟩
    rintro m ρ k ⟨x, y, em, rfl, ek, hg⟩
    subst em ek
    walk_at "pl"
    by_cases c : m = 0
    · subst c
      rw [if_neg (by simp)]
      rw [Nat.gcd_zero_right] at hg
      rw [hg]
      exact hR
    · rw [if_pos (by omega)]
      have h0 : (0 : Int) < (m : Int) := by omega
      rw [fmod_pos h0]
      refine ⟨by omega, x % m, Nat.mod_lt x (Nat.pos_of_ne_zero c), m, x % m, rfl, rfl, ?_⟩
      rw [← hg, Nat.gcd_comm x m, Nat.gcd_rec m x, Nat.gcd_comm]
/-- an ascending tuple of numbers from 0 on -/
def numD : D → Bool | .int i => decide (0 ≤ i) | _ => false
def intOf : D → Int | .int i => i | _ => 0
def ascL : List D → Bool
  | [] => true
  | [_] => true
  | a :: b :: r => decide (intOf a < intOf b) && ascL (b :: r)
def ascB : D → Bool | .tup xs => xs.all numD && ascL xs | _ => false
/-- what is handed for a part -/
def argD (d : D) : Prop := plainD d = true ∧ ∀ xs, d = .tup xs → xs.length ≤ 5000 ∧ xs.all plainD = true ∧ okD d
def S_are_ascending : PL.Spec := fun ds n R => ∃ d : D, ds = [d] ∧ argD d ∧ R (.bl (ascB d)) n
theorem isInt_num {d : D} (h : isInt d = false) : numD d = false := by cases d <;> first | rfl | cases h
theorem cut_but {α : Type} (xs : List α) : cutL xs none (some (-1)) = xs.take (xs.length - 1) := by
  unfold cutL
  rw [HT.sIx_none]
  have : HT.sIx xs.length xs.length (some (-1)) = xs.length - 1 := by
    unfold HT.sIx
    simp only
    split <;> omega
  rw [this]; rfl
def ltP (d : D) : Bool := match d with | .tup [a, b] => decide (intOf a < intOf b) | _ => false
theorem ascL_pairs : ∀ xs : List D, (pairs (xs.take (xs.length - 1)) (xs.drop 1)).all ltP = ascL xs
  | [] => rfl
  | [_] => rfl
  | a :: b :: r => by
    have ih := ascL_pairs (b :: r)
    rw [ascL, ← ih]
    rfl
theorem kd_plain {d : D} (h : plainD d = true) : kd d = true := by unfold kd; rw [h]; rfl
theorem num_int {d : D} (h : numD d = true) : ∃ i : Int, d = .int i ∧ 0 ≤ i := by cases d <;> first | exact ⟨_, rfl, of_decide_eq_true h⟩ | cases h
theorem ok_are_ascending {f : Addr} {fd : FuncData} (F : Fun K "are_ascending" "are_ascending" s_are_ascending f fd) (hm : mg "are_ascending" = some (.ref f)) (B : BI mg) (h_is_integer : FnC P w K mg base 1 "is_integer" ["thing"] [] S_is_integer) : FnC P w K mg base 2 "are_ascending" ["thing"] [] S_are_ascending := by
  refine fnc F hm sc_are_ascending (F.binds (ps := ["thing"]) fun _ _ _ _ _ _ us hl => match us, hl with | [_], _ => rfl)
    (fun q hq => nomatch hq) ?_ (fun cdv A outer s H E hgd hr => ⟨_, (dss_cons (ds_if (dt_w (dw_or (dt_not (dt_val (de_isi (T := "tuple") B.isinstance B.tuple rfl rfl (by decide +kernel) (se_var (pv 0))))) (dw_or1 (dt_not (dt_val (de_all B.all rfl (sa_cons (SE.of (DE.of (fe_lc (own := [("number", 3)]) (di_iter (de_var (pv 0))) sc_are_ascending.nd (blkOk_by (N := ["thing", "one", "other", "number"]) (sc := defScope s_are_ascending) (own := [("number", 3)]) (by decide +kernel)) (by decide) (fun _ _ _ _ _ => (dg_name (pg_name (i := 3) sc_are_ascending.nd rfl (Or.inl rfl)))) (fun _ _ _ _ _ => dts_nil) (fun _ _ _ _ _ => (de_and (de_fnC h_is_integer hgd hr (da_cons (de_var (pv 3)) da_nil)) (de_one (de_ge (se_var (pv 3)) (SE.of de_int)))))))) sa_nil))))))) (dss_one (ds_ret (SE.of de_bl))) dss_nil)
      (dss_one (ds_ret (SE.of (de_all B.all rfl (sa_cons (SE.of (DE.of (fe_lc (own := [("one", 1), ("other", 2)]) (di_zipS B.zip rfl (da_cons (de_slice (se_var (pv 0)) do_none (do_some (SE.of (de_neg (SE.of de_int))))) (da_cons (de_slice (se_var (pv 0)) (do_some (SE.of de_int)) do_none) da_nil)) (dk_cons de_bl dk_nil)) sc_are_ascending.nd (blkOk_by (N := ["thing", "one", "other", "number"]) (sc := defScope s_are_ascending) (own := [("one", 1), ("other", 2)]) (by decide +kernel)) (by decide) (fun _ _ _ _ _ => (dg_tup (m := 2) (dgs_cons (dg_name (pg_name (i := 1) sc_are_ascending.nd rfl (Or.inl rfl))) (dgs_cons (dg_name (pg_name (i := 2) sc_are_ascending.nd rfl (Or.inl rfl))) dgs_nil)))) (fun _ _ _ _ _ => dts_nil) (fun _ _ _ _ _ => (de_ltA hr.units (se_var (pv 1)) (se_var (pv 2))).1)))) sa_nil)))))), ?_⟩)
  · rintro ds n R ⟨d, rfl, _⟩; rfl
  · rintro ds n R ⟨d, rfl, ⟨hp, hd⟩, hR⟩
    walk_at "pl"
    cases d with
    | tup xs =>
      obtain ⟨hl, hx, _⟩ := hd xs rfl
      simp only [tyName]
      walk_at "pl"
      refine ⟨by omega, ?_⟩
      refine lcW_m (fun d => .bl (numD d)) (fun d hd' acc L hL => ?_) ?_
      · have pd := List.all_eq_true.mp hx d hd'
        walk_at "pl"
        refine callS_of _ _ ⟨d, rfl, kd_plain pd, ?_⟩
        cases d <;> exact hL
      · have e : (xs.map fun d => D.bl (numD d)) = (xs.map numD).map D.bl := by rw [List.map_map]; rfl
        rw [e, asBls_map]
        simp only [List.all_map, Function.id_comp]
        have hR : R (.bl (xs.all numD && ascL xs)) n := hR
        cases hn : xs.all numD with
        | false =>
          rw [hn] at hR
          exact hR
        | true =>
          rw [hn] at hR
          rw [if_neg (by decide), cut_but, cut_one]
          refine ⟨by rw [List.length_take, List.length_drop]; omega, by rw [pairs_len, List.length_take]; omega, ?_⟩
          refine lcW_m (fun d => .bl (ltP d)) (fun d hd' acc L hL => ?_) ?_
          · obtain ⟨i, hi⟩ := List.getElem?_of_mem hd'
            obtain ⟨x, y, h1, h2, rfl⟩ := pairs_get _ _ i hi
            obtain ⟨a, rfl, _⟩ := num_int (List.all_eq_true.mp hn x (List.mem_of_mem_take (List.mem_of_getElem? h1)))
            obtain ⟨b, rfl, _⟩ := num_int (List.all_eq_true.mp hn y (List.mem_of_mem_drop (List.mem_of_getElem? h2)))
            walk_at "pl"
            exact hL
          · have e : ∀ l : List D, (l.map fun d => D.bl (ltP d)) = (l.map ltP).map D.bl := fun l => by rw [List.map_map]; rfl
            rw [e, asBls_map]
            simp only [List.all_map, Function.id_comp]
            rw [ascL_pairs]
            exact hR
    | obj _ _ => cases hp
    | res => cases hp
    | _ => simp only [tyName]; exact hR
def S_first_parts : PL.Spec := fun ds n R => ∃ m : Nat, ds = [.int m] ∧ 0 < m ∧ m ≤ 100000 ∧ ∀ ps : List Nat, (∀ q, Pr q → q ∣ m → q ∈ ps) → (∀ p ∈ ps, 2 ≤ p) → ps.length ≤ 200000 → R (.lst (nD ps)) n
theorem ok_first_parts {f : Addr} {fd : FuncData} (F : Fun K "first_parts" "first_parts" s_first_parts f fd) (hm : mg "first_parts" = some (.ref f)) (B : BI mg) : FnC P w K mg base 1 "first_parts" ["number"] [] S_first_parts := by
  refine fnc F hm sc_first_parts (F.binds (ps := ["number"]) fun _ _ _ _ _ _ us hl => match us, hl with | [_], _ => rfl)
    (fun q hq => nomatch hq) ?_ (fun cdv A outer s H E hgd hr => ⟨_, (dss_cons (ds_own (i := 1) (fe_lst da_nil) (pg_name (i := 1) sc_first_parts.nd rfl (Or.inl rfl)))
      (dss_cons (ds_par (i := 2) (j := 3) sc_first_parts.nd (by decide) (da_cons (de_var (pv 0)) (da_cons de_int da_nil)) (by rfl))
      (dss_cons (ds_while PassesOwn.never (dt_le (SE.of (de_mul (se_var (pv 3)) (se_var (pv 3)))) (se_var (pv 2))) (dss_cons (ds_if (dt_eq hr.units (SE.of (de_mod (se_var (pv 2)) (se_var (pv 3)))) (SE.of de_int)) (dss_cons (ds_append (pv 1) (de_var (pv 3)))
      (dss_one (ds_while PassesOwn.never (dt_eq hr.units (SE.of (de_mod (se_var (pv 2)) (se_var (pv 3)))) (SE.of de_int)) (dss_one (ds_augFdiv (i := 2) sc_first_parts.nd (Or.inl rfl) (se_var (pv 3))))))) dss_nil)
      (dss_one (ds_augAdd (i := 3) sc_first_parts.nd (Or.inl rfl) (SE.of de_int)))))
      (dss_one (ds_frz 1 (ds_ret (SE.of (de_ife (dt_gt (se_var (pv 2)) (SE.of de_int)) (de_add (se_var (pv 1)) (SE.of (DE.of (fe_lst (da_cons (de_var (pv 2)) da_nil))))) (de_var (pv 1)))))))))), ?_⟩)
  · rintro ds n R ⟨m, rfl, _⟩; rfl
  · rintro ds n R ⟨m, rfl, m0, m1, hR⟩
    walk_at "pl"
    have step : ∀ left a : Nat, 0 < a → (left : Int).fmod (a : Int) = ((left % a : Nat) : Int) := fun left a h => by rw [fmod_pos (by omega)]; rfl
    refine ⟨fun k ρ nn => ∃ (left a : Nat) (found : List Nat), k = m + 2 - a ∧ ρ = [.sh (.int m), .own (.lst (nD found)), .sh (.int left), .sh (.int a)] ∧ nn = n ∧ FP m found left a ∧ left ≤ m ∧ found.length ≤ a ∧ a ≤ m + 2,
      ⟨_, m, 2, [], rfl, rfl, rfl, fp_start m0, Nat.le_refl _, Nat.zero_le _, by omega⟩, ?_⟩
    rintro k ρ nn ⟨left, a, found, rfl, rfl, rfl, hF, hl, hf, ha⟩
    have a2 := hF.two
    have l0 := hF.pos
    have ml : MulOk (a : Int) (a : Int) := MulOk.left (by omega) (by omega)
    walk_at "pl"
    refine ⟨ml, ?_⟩
    by_cases c : a * a ≤ left
    · have hal : a ≤ left := Nat.le_trans (Nat.le_mul_self a) c
      rw [if_pos (by exact_mod_cast c)]
      refine ⟨by omega, ?_⟩
      rw [step left a (by omega)]
      by_cases hm : left % a = 0
      · rw [if_pos (by omega)]
        refine ⟨by rw [nD_len]; omega, ?_⟩
        refine ⟨fun k2 ρ2 nn2 => ∃ (x f : Nat), k2 = x ∧ ρ2 = [.sh (.int m), .own (.lst (nD (found ++ [a]))), .sh (.int x), .sh (.int a)] ∧ nn2 = nn ∧ 0 < x ∧ x ≤ left ∧ x ≤ f ∧ strip a f x = strip a left left, ⟨left, left, left, rfl, by unfold nD; rw [List.map_append]; rfl, rfl, l0, Nat.le_refl _, Nat.le_refl _, rfl⟩, ?_⟩
        rintro k2 ρ2 nn2 ⟨x, f, rfl, rfl, rfl, x0, xl, xf, hs⟩
        walk_at "pl"
        refine ⟨by omega, ?_⟩
        rw [step k2 a (by omega)]
        cases f with
        | zero => omega
        | succ f =>
          rw [show strip a (f + 1) k2 = if k2 % a = 0 then strip a f (k2 / a) else k2 from rfl] at hs
          by_cases hx : k2 % a = 0
          · rw [if_pos (by omega)]
            rw [if_pos hx] at hs
            have hd : 0 < k2 / a := Nat.div_pos (Nat.le_of_dvd x0 (Nat.dvd_of_mod_eq_zero hx)) (by omega)
            have hlt : k2 / a < k2 := Nat.div_lt_self x0 (by omega)
            refine ⟨⟨by omega, by omega⟩, k2 / a, hlt, k2 / a, f, rfl, rfl, hd, by omega, by omega, hs⟩
          · rw [if_neg (by omega)]
            rw [if_neg hx] at hs
            refine ⟨m + 2 - (a + 1), by omega, k2, a + 1, found ++ [a], rfl, rfl, ?_, by omega, by rw [List.length_append]; simp; omega, by omega⟩
            rw [hs]
            exact fp_take hF hm (Nat.le_refl _)
      · rw [if_neg (by omega)]
        exact ⟨m + 2 - (a + 1), by omega, left, a + 1, found, rfl, rfl, fp_skip hF hm, hl, by omega, by omega⟩
    · rw [if_neg (by exact_mod_cast c)]
      have he := fp_end hF (by omega)
      by_cases c1 : 1 < left
      · rw [if_pos (by omega)]
        rw [if_pos c1] at he
        have := hR _ he.1 he.2 (by rw [List.length_append]; simp; omega)
        unfold nD at this ⊢
        rw [List.map_append] at this
        exact ⟨by rw [List.length_map]; omega, this⟩
      · rw [if_neg (by omega)]
        rw [if_neg c1] at he
        exact hR _ he.1 he.2 (by omega)
/-- the look whether rests are known -/
theorem hask_iff {x : Nat} {ks : List Key} {l : List Nat} (h : ∀ k, k ∈ ks ↔ ∃ y ∈ l, k = .inl (y : Int)) : hasK (.inl (x : Int)) ks = decide (x ∈ l) := by
  unfold hasK
  refine decide_eq_decide.mpr ?_
  rw [h]
  constructor
  · rintro ⟨y, hy, e⟩
    injection e with e
    have : x = y := by exact_mod_cast e
    exact this ▸ hy
  · intro hx
    exact ⟨x, hx, rfl⟩
def kOf (d : D) : Key × D := (.inl (intOf d), .bl true)
theorem known_keys (l : List Nat) (k : Key) : k ∈ (mergeD ((nD l).map kOf) [] []).1 ↔ ∃ y ∈ l, k = .inl (y : Int) := by
  rw [mergeD_keys]
  simp only [List.not_mem_nil, false_or, List.map_map, nD, List.mem_map]
  constructor
  · rintro ⟨y, hy, rfl⟩; exact ⟨y, hy, rfl⟩
  · rintro ⟨y, hy, rfl⟩; exact ⟨y, hy, rfl⟩
theorem known_len (l : List Nat) : (mergeD ((nD l).map kOf) [] []).1.length = (mergeD ((nD l).map kOf) [] []).2.length := mergeD_len _ _ _ rfl
def knD (l : List Nat) : D := .dic (mergeD ((nD l).map kOf) [] []).1 (mergeD ((nD l).map kOf) [] []).2
theorem hask_int {l : List Nat} {y : Int} : hasK (.inl y : Key) (mergeD ((nD l).map kOf) [] []).1 = true ↔ ∃ x ∈ l, y = ((x : Nat) : Int) := by
  simp only [hasK, decide_eq_true_eq, known_keys]
  constructor
  · rintro ⟨x, hx, e⟩
    injection e with e
    exact ⟨x, hx, e⟩
  · rintro ⟨x, hx, rfl⟩
    exact ⟨x, hx, rfl⟩
def S_last_lacking : PL.Spec := fun ds n R => ∃ (few : List Nat) (first lap r : Nat), ds = [knD few, .int first, .int lap, .int r] ∧ 0 < lap ∧ r < lap ∧ first ≤ 5000 ∧ lap ≤ 5000 ∧ ∀ y : Int, LL few first lap r y → (¬ ∃ n ∈ few, y = ((n : Nat) : Int)) → R (.int y) n
theorem ok_last_lacking {f : Addr} {fd : FuncData} (F : Fun K "last_lacking" "last_lacking" s_last_lacking f fd) (hm : mg "last_lacking" = some (.ref f)) (B : BI mg) : FnC P w K mg base 1 "last_lacking" ["known", "first", "lap", "rest"] [] S_last_lacking := by
  refine fnc F hm sc_last_lacking (F.binds (ps := ["known", "first", "lap", "rest"]) fun _ _ _ _ _ _ us hl => match us, hl with | [_, _, _, _], _ => rfl)
    (fun q hq => nomatch hq) ?_ (fun cdv A outer s H E hgd hr => ⟨_, (dss_cons (ds_asg (de_sub (SE.of (de_sub (se_var (pv 1)) (SE.of de_int))) (SE.of (de_mod (SE.of (de_sub (SE.of (de_sub (se_var (pv 1)) (SE.of de_int))) (se_var (pv 3)))) (se_var (pv 2))))) (dg_name (pg_name (i := 4) sc_last_lacking.nd rfl (Or.inl rfl))))
      (dss_cons (ds_while PassesOwn.never (dt_in hr.units (se_var (pv 4)) (se_var (pv 0))) (dss_one (ds_augSub (i := 4) sc_last_lacking.nd (Or.inl rfl) (se_var (pv 2)))))
      (dss_one (ds_ret (se_var (pv 4)))))), ?_⟩)
  · rintro ds n R ⟨few, first, lap, r, rfl, _⟩; rfl
  · rintro ds n R ⟨few, first, lap, r, rfl, l0, rl, f1, l1, hR⟩
    unfold knD
    walk_at "pl"
    rw [fmod_pos (by omega)]
    refine ⟨by omega, fun k ρ nn => ∃ y : Int, k = (y + 1).toNat ∧ ρ = [.sh (knD few), .sh (.int first), .sh (.int lap), .sh (.int r), .sh (.int y)] ∧ nn = n ∧ LL few first lap r y, ⟨_, _, rfl, rfl, rfl, LL.start (by omega) (by omega) (by omega)⟩, ?_⟩
    rintro k ρ nn ⟨y, rfl, rfl, rfl, hL⟩
    unfold knD
    walk_at "pl"
    refine ⟨known_len few, ?_⟩
    by_cases c : ∃ x ∈ few, y = ((x : Nat) : Int)
    · rw [if_pos (hask_int.mpr c)]
      obtain ⟨x, hx, rfl⟩ := c
      exact ⟨((x : Int) - lap + 1).toNat, by omega, _, rfl, rfl, hL.step (by omega) ⟨x, hx, rfl⟩⟩
    · rw [if_neg (fun z => c (hask_int.mp z))]
      exact hR y hL c
theorem okN {l : List Nat} (h1 : l.length ≤ 7000) (h2 : ∀ x ∈ l, x ≤ 100000) : okD (.tup (nD l)) := by
  have key : niceL (nD l) = true ∧ depL (nD l) ≤ 1 ∧ bulkL (nD l) = l.length := by
    clear h1
    induction l with
    | nil => exact ⟨rfl, by decide, rfl⟩
    | cons x l ih =>
      obtain ⟨i1, i2, i3⟩ := ih fun y hy => h2 y (List.mem_cons_of_mem _ hy)
      have hx := h2 x List.mem_cons_self
      have hb : ((x : Nat) : Int).natAbs < 2 ^ 1900 := Nat.lt_of_lt_of_le (show ((x : Nat) : Int).natAbs < 2 ^ 20 by omega) (Nat.pow_le_pow_right (by decide) (by decide))
      refine ⟨?_, ?_, ?_⟩
      · show (niceD (.int (x : Int)) && niceL (nD l)) = true
        rw [i1, niceI hb]; rfl
      · show max (depD (.int (x : Int))) (depL (nD l)) ≤ 1
        rw [show depD (.int (x : Int)) = 1 by simp only [depD]]; omega
      · show bulkD (.int (x : Int)) + 1 + bulkL (nD l) = _
        rw [i3, show bulkD (.int (x : Int)) = 0 by simp only [bulkD], List.length_cons]; omega
  exact okD_tup.mpr ⟨key.1, by omega, by rw [key.2.2]; omega⟩
theorem okNil : okD (.tup []) := okN (l := []) (by decide) (fun _ h => nomatch h)
theorem eq_nil (l : List Nat) : eqD (.tup (nD l)) (.tup []) = decide (l = []) := by
  cases l with
  | nil => rfl
  | cons x l => rfl
theorem rs_lt {P : Nat → Bool} {lap : Nat} : ∀ x ∈ rs P lap, x < lap := fun x hx => (rs_mem.mp hx).1
theorem rs_len (P : Nat → Bool) (lap : Nat) : (rs P lap).length ≤ lap := by
  have := List.length_filter_le P (List.range lap)
  rwa [List.length_range] at this
theorem dk_known {i : Nat} {ρ : PEnv} (hi : i < ρ.length) {l : List Nat} {n : Nat} {R : D → Nat → Prop} (h : R (knD l) n) : dkW (gSet i) pYes (pVar i) (pC (.bl true)) (nD l) [] [] ρ n R := by
  refine dkW_m kOf (fun d hd ks es L hL => ?_) h
  obtain ⟨x, _, rfl⟩ := List.mem_map.mp hd
  have e : (ρ.set i (.sh (.int (x : Int))))[i]? = some (.sh (.int (x : Int))) := set_same hi
  simp only [gSet, pYes, pVar, pC, ↓reduceIte, e]
  exact hL
/-- whole numbers from 0 on are natural ones -/
theorem nats_of {ns : List Int} (h : ∀ x ∈ ns, 0 ≤ x) : ns.map D.int = nD (ns.map Int.toNat) := by
  unfold nD
  rw [List.map_map]
  refine List.map_congr_left fun x hx => ?_
  have := h x hx
  show D.int x = D.int ((x.toNat : Nat) : Int)
  rw [Int.toNat_of_nonneg this]
theorem rests_new {P : Nat → Bool} {x d : Nat} (hd0 : 0 < d) (hle : d ≤ x) (h : Per P d) {ns : List Int} (hs : ns.Pairwise (· < ·)) (hm : ∀ y : Int, y ∈ ns ↔ ∃ r ∈ rs P x, ((r % d : Nat) : Int) = y) : ns.map D.int = nD (rs P d) := by
  have h0 : ∀ y ∈ ns, 0 ≤ y := fun y hy => by obtain ⟨r, _, e⟩ := (hm y).mp hy; omega
  rw [nats_of h0]
  congr 1
  refine rests_to (lap := x) hd0 hle h ?_ fun y => ?_
  · refine List.pairwise_map.mpr (hs.imp_of_mem fun {a b} ha hb hab => ?_)
    have := h0 a ha
    have := h0 b hb
    omega
  · rw [List.mem_map]
    constructor
    · rintro ⟨a, ha, rfl⟩
      obtain ⟨r, hr, e⟩ := (hm a).mp ha
      exact ⟨r, hr, by omega⟩
    · rintro ⟨r, hr, rfl⟩
      exact ⟨((r % d : Nat) : Int), (hm _).mpr ⟨r, hr, rfl⟩, Int.toNat_natCast _⟩
theorem asb_map (f : D → Bool) (l : List D) : asBls (l.map fun d => D.bl (f d)) = some (l.map f) := by
  have e : (l.map fun d => D.bl (f d)) = (l.map f).map D.bl := by rw [List.map_map]; rfl
  rw [e, asBls_map]
theorem dOk (a b : Nat) (h : 0 < b) (h1 : b ≤ 5000) : DivOk (a : Int) (b : Int) := by
  have : ((b : Int)).natAbs.log2 < 13 := PySem.Flt.log2_lt_of (by decide) (by omega)
  exact ⟨by omega, by omega⟩
def S_least_round : PL.Spec := fun ds n R => ∃ (P : Nat → Bool) (lap p : Nat), ds = [.int lap, .tup (nD (rs P lap))] ∧ 0 < lap ∧ lap ≤ 3000 ∧ Per P lap ∧ Least P lap p ∧ R (.tup [.int p, .tup (nD (rs P p))]) n
theorem ok_least_round {f : Addr} {fd : FuncData} (F : Fun K "least_round" "least_round" s_least_round f fd) (hm : mg "least_round" = some (.ref f)) (B : BI mg) (h_first_parts : FnC P w K mg base 1 "first_parts" ["number"] [] S_first_parts) (h_common_part : FnC P w K mg base 1 "common_part" ["one", "other"] [] S_common_part) : FnC P w K mg base 2 "least_round" ["lap", "rests"] [] S_least_round := by
  refine fnc F hm sc_least_round (F.binds (ps := ["lap", "rests"]) fun _ _ _ _ _ _ us hl => match us, hl with | [_, _], _ => rfl)
    (fun q hq => nomatch hq) ?_ (fun cdv A outer s H E hgd hr => ⟨_, (dss_cons (ds_if (dt_eq hr.units (se_var (pv 1)) (SE.of (de_tup da_nil))) (dss_one (ds_ret (SE.of (de_tup (da_cons de_int (da_cons (de_tup da_nil) da_nil)))))) dss_nil)
      (dss_cons (ds_for PassesOwn.never rfl (di_iter (de_fnC h_first_parts hgd hr (da_cons (de_fnC h_common_part hgd hr (da_cons (de_var (pv 0)) (da_cons (de_len B.len rfl (sa_cons (se_var (pv 1)) sa_nil)) da_nil))) da_nil))) (dg_name (pg_name (i := 2) sc_least_round.nd rfl (Or.inr rfl))) (dss_cons (ds_asg (DE.of (fe_dk (own := [("rest", 4)]) (di_iter (de_var (pv 1))) sc_least_round.nd (blkOk_by (N := ["lap", "rests", "prime", "known", "rest"]) (sc := defScope s_least_round) (own := [("rest", 4)]) (by decide +kernel)) (by decide) (fun _ _ _ _ _ => (dg_name (pg_name (i := 4) sc_least_round.nd rfl (Or.inl rfl)))) (fun _ _ _ _ _ => dts_nil) (fun _ _ _ _ _ => (de_var (pv 4))) (fun _ _ _ _ _ => de_bl))) (dg_name (pg_name (i := 3) sc_least_round.nd rfl (Or.inr rfl))))
      (dss_one (ds_while PassesOwn.never (dt_w (dw_and (dt_eq hr.units (SE.of (de_mod (se_var (pv 0)) (se_var (pv 2)))) (SE.of de_int)) (dw_and1 (dt_val (de_all B.all rfl (sa_cons (SE.of (DE.of (fe_lc (own := [("rest", 4)]) (di_iter (de_var (pv 1))) sc_least_round.nd (blkOk_by (N := ["lap", "rests", "prime", "known", "rest"]) (sc := defScope s_least_round) (own := [("rest", 4)]) (by decide +kernel)) (by decide) (fun _ _ _ _ _ => (dg_name (pg_name (i := 4) sc_least_round.nd rfl (Or.inl rfl)))) (fun _ _ _ _ _ => dts_nil) (fun _ _ _ _ _ => (de_in hr.units (SE.of (de_mod (SE.of (de_add (se_var (pv 4)) (SE.of (de_fdiv (se_var (pv 0)) (se_var (pv 2)))))) (se_var (pv 0)))) (se_var (pv 3))))))) sa_nil)))))) (dss_cons (ds_augFdiv (i := 0) sc_least_round.nd (Or.inr rfl) (se_var (pv 2)))
      (dss_cons (ds_asg (de_tuple B.tuple rfl (sa_cons (SE.of (DE.of (fe_srtSc (own := [("rest", 4)]) B.sorted rfl (di_iter (de_var (pv 1))) sc_least_round.nd (blkOk_by (N := ["lap", "rests", "prime", "known", "rest"]) (sc := defScope s_least_round) (own := [("rest", 4)]) (by decide +kernel)) (by decide) (fun _ _ _ _ _ => (dg_name (pg_name (i := 4) sc_least_round.nd rfl (Or.inl rfl)))) (fun _ _ _ _ _ => dts_nil) (fun _ _ _ _ _ => (de_mod (se_var (pv 4)) (se_var (pv 0))))))) sa_nil)) (dg_name (pg_name (i := 1) sc_least_round.nd rfl (Or.inl rfl))))
      (dss_one (ds_asg (DE.of (fe_dk (own := [("rest", 4)]) (di_iter (de_var (pv 1))) sc_least_round.nd (blkOk_by (N := ["lap", "rests", "prime", "known", "rest"]) (sc := defScope s_least_round) (own := [("rest", 4)]) (by decide +kernel)) (by decide) (fun _ _ _ _ _ => (dg_name (pg_name (i := 4) sc_least_round.nd rfl (Or.inl rfl)))) (fun _ _ _ _ _ => dts_nil) (fun _ _ _ _ _ => (de_var (pv 4))) (fun _ _ _ _ _ => de_bl))) (dg_name (pg_name (i := 3) sc_least_round.nd rfl (Or.inr rfl)))))))))))
      (dss_one (ds_ret (SE.of (de_tup (da_cons (de_var (pv 0)) (da_cons (de_var (pv 1)) da_nil)))))))), ?_⟩)
  · rintro ds n R ⟨P, lap, p, rfl, _⟩; rfl
  · rintro ds n R ⟨P, lap, p, rfl, l0, l1, hP, hL, hR⟩
    have hr := rs_len P lap
    walk_at "pl"
    refine oEq_D (okN (by omega) fun x hx => by have := rs_lt x hx; omega) okNil ?_
    rw [eq_nil]
    try walk_at "pl"
    by_cases c : rs P lap = []
    · rw [if_pos c]
      have hz : ∀ x, P x = false := fun x => by
        cases hx : P x with
        | false => rfl
        | true =>
          have : x % lap ∈ rs P lap := rs_mem.mpr ⟨Nat.mod_lt _ l0, by rw [hP.at]; exact hx⟩
          rw [c] at this
          cases this
      have p1 : p = 1 := Nat.le_antisymm (hL.min 1 (by decide) (Nat.one_dvd _) fun x => by rw [hz, hz]) hL.pos
      subst p1
      have e : rs P 1 = [] := List.filter_eq_nil_iff.mpr fun a _ => by rw [hz]; simp
      rw [e] at hR
      exact hR
    · rw [if_neg c]
      rw [nD_len]
      refine callS_of _ _ ⟨lap, (rs P lap).length, rfl, ?_⟩
      try walk_at "pl"
      have hg0 : 0 < Nat.gcd lap (rs P lap).length := Nat.gcd_pos_of_pos_left _ l0
      have hg1 : Nat.gcd lap (rs P lap).length ≤ lap := Nat.le_of_dvd l0 (Nat.gcd_dvd_left _ _)
      refine callS_of _ _ ⟨_, rfl, hg0, by omega, fun ps h1 h2 hpl => ?_⟩
      try walk_at "pl"
      refine (fun (loop : ∀ (qs : List Nat) (x : Nat) (done : Nat → Prop) (c2 c3 : Cell), LR P lap p done x → (∀ q ∈ qs, 2 ≤ q) → (∀ q ∈ ps, done q ∨ q ∈ qs) → forW ?t ?b (nD qs) ?Ps [Cell.sh (.int (x : Int)), Cell.sh (.tup (nD (rs P x))), c2, c3, Cell.any] n) => loop ps lap (fun _ => False) _ _ (LR.start l0 hP) h2 (fun q hq => .inr hq)) ?_
      intro qs
      induction qs with
      | nil =>
        intro x done c2 c3 hx _ hd
        rw [show nD [] = [] from rfl, forW_nil]
        try walk_at "pl"
        have e : x = p := hx.end hL l0 fun q hq hqd => (hd q (h1 q hq (pr_in hL l0 hq hqd))).resolve_right (by simp)
        rw [e]
        exact hR
      | cons q qs ih =>
        intro x done c2 c3 hx hq2 hd
        rw [show nD (q :: qs) = .int (q : Nat) :: nD qs from rfl, forW_cons]
        try walk_at "pl"
        have q2 := hq2 q List.mem_cons_self
        have lx := hx.pos
        have hxl : x ≤ lap := Nat.le_of_dvd l0 hx.dv
        have hrx := rs_len P x
        refine ⟨by rw [nD_len]; omega, dk_known (by simp) ?_⟩
        refine ⟨fun k ρ nn => ∃ x' : Nat, k = x' ∧ ρ = [Cell.sh (.int (x' : Int)), Cell.sh (.tup (nD (rs P x'))), Cell.sh (.int (q : Int)), Cell.sh (knD (rs P x')), Cell.any] ∧ nn = n ∧ LR P lap p done x', ⟨x, x, rfl, rfl, rfl, hx⟩, ?_⟩
        rintro k ρ nn ⟨x', ek, rfl, en, hx'⟩
        subst ek en
        have lk := hx'.pos
        have hkl : k ≤ lap := Nat.le_of_dvd l0 hx'.dv
        have hrk := rs_len P k
        unfold knD
        walk_at "pl"
        refine ⟨by omega, ?_⟩
        rw [fmod_pos (show (0 : Int) < (q : Int) by omega)]
        have leave : ¬ (q ∣ k ∧ Per P (k / q)) → forW _ _ (nD qs) _ [Cell.sh (.int (k : Int)), Cell.sh (.tup (nD (rs P k))), Cell.sh (.int (q : Int)), Cell.sh (knD (rs P k)), Cell.any] nn := fun hn =>
          ih k (fun r => done r ∨ r = q) _ _ (hx'.stop hn) (fun r hr => hq2 r (List.mem_cons_of_mem _ hr)) fun r hr => by
            rcases hd r hr with z | z
            · exact .inl (.inl z)
            · rcases List.mem_cons.mp z with z | z
              · exact .inl (.inr z)
              · exact .inr z
        by_cases cq : k % q = 0
        · have hdv : q ∣ k := Nat.dvd_of_mod_eq_zero cq
          have hkq0 : 0 < k / q := Nat.div_pos (Nat.le_of_dvd lk hdv) (by omega)
          have hkq1 : k / q < k := Nat.div_lt_self lk (by omega)
          have hdk : k / q ∣ k := ⟨q, (Nat.div_mul_cancel hdv).symm⟩
          rw [if_pos (by omega)]
          refine ⟨by rw [nD_len]; omega, ?_⟩
          refine lcW_m (fun d => .bl (decide ((intOf d + ((k / q : Nat) : Int)) % (k : Int) ∈ (rs P k).map fun r => ((r : Nat) : Int)))) (fun d hd acc L hL => ?_) ?_
          · obtain ⟨r, hr, rfl⟩ := List.mem_map.mp hd
            have hrk' := rs_lt r hr
            walk_at "pl"
            refine ⟨dOk k q (by omega) (by have := Nat.le_of_dvd lk hdv; omega), ?_⟩
            rw [fdiv_pos (show (0 : Int) < (q : Int) by omega), fmod_pos (show (0 : Int) < (k : Int) by omega)]
            refine ⟨by omega, known_len _, ?_⟩
            have e : hasK (.inl (((r : Int) + (k : Int) / (q : Int)) % (k : Int)) : Key) (mergeD ((nD (rs P k)).map kOf) [] []).1 = decide (((r : Int) + ((k / q : Nat) : Int)) % (k : Int) ∈ (rs P k).map fun r => ((r : Nat) : Int)) := by
              refine Bool.eq_iff_iff.mpr ?_
              rw [hask_int, decide_eq_true_iff, List.mem_map]
              constructor
              · rintro ⟨y, hy, e⟩; exact ⟨y, hy, e.symm⟩
              · rintro ⟨y, hy, e⟩; exact ⟨y, hy, e.symm⟩
            rw [e]
            exact hL
          · rw [asb_map]
            have ea : ((nD (rs P k)).map fun d => decide ((intOf d + ((k / q : Nat) : Int)) % (k : Int) ∈ (rs P k).map fun r => ((r : Nat) : Int))).all id = true ↔ Per P (k / q) := by
              rw [← per_iff lk hx'.per hdk, List.all_map, List.all_eq_true]
              constructor
              · intro h r hr
                have := h _ (List.mem_map.mpr ⟨r, hr, rfl⟩)
                obtain ⟨y, hy, e⟩ := List.mem_map.mp (of_decide_eq_true this)
                have e : (y : Int) = ((r : Int) + ((k / q : Nat) : Int)) % (k : Int) := e
                have : y = (r + k / q) % k := by exact_mod_cast e
                exact this ▸ hy
              · intro h d hd
                obtain ⟨r, hr, rfl⟩ := List.mem_map.mp hd
                exact decide_eq_true (List.mem_map.mpr ⟨_, h r hr, rfl⟩)
            show (if _ then _ else _)
            by_cases cp : Per P (k / q)
            · rw [if_pos (ea.mpr cp)]
              refine ⟨⟨by omega, by have := Nat.le_of_dvd lk hdv; omega⟩, by rw [nD_len]; omega, ?_⟩
              refine scW_m (fun d => intOf d % ((k / q : Nat) : Int)) (fun d hd acc L hL => ?_) ?_
              · obtain ⟨r, hr, rfl⟩ := List.mem_map.mp hd
                walk_at "pl"
                rw [fmod_pos (show (0 : Int) < (k : Int) / (q : Int) by exact_mod_cast hkq0)]
                exact ⟨by have : (0 : Int) < (k : Int) / (q : Int) := by exact_mod_cast hkq0
                          omega, hL⟩
              · intro ns hs hm
                have en : ns.map D.int = nD (rs P (k / q)) := rests_new hkq0 (Nat.le_of_lt hkq1) cp hs fun y => by
                  rw [hm, List.nil_append, List.mem_map]
                  constructor
                  · rintro ⟨d, hd, rfl⟩
                    obtain ⟨r, hr, rfl⟩ := List.mem_map.mp hd
                    exact ⟨r, hr, rfl⟩
                  · rintro ⟨r, hr, rfl⟩
                    exact ⟨_, List.mem_map.mpr ⟨r, hr, rfl⟩, rfl⟩
                rw [en]
                have hrn := rs_len P (k / q)
                refine ⟨by rw [nD_len]; omega, dk_known (by simp) ?_⟩
                exact ⟨k / q, hkq1, k / q, rfl, rfl, rfl, (hx'.go q2 hdv cp).1⟩
            · rw [if_neg (fun z => cp (ea.mp z))]
              exact leave fun z => cp z.2
        · rw [if_neg (by omega)]
          exact leave fun z => cq (Nat.mod_eq_zero_of_dvd z.1)
end
end K58

set_option pp.maxSteps 1500
namespace K58
open PySem PySem.Spec L2 PL M58
local macro_rules | `(tactic| walk_at "pl") => `(tactic| simp (maxSteps := 3000000) (dsimp := false) only [env0, envI, nxI, ↓q_srtsc, ↓q_inm, ↓q_eqm, ↓q_isia, ↓q_isic, ↓q_gfset, ↓asBl_f, ↓asBl_t, ↓q_gseq, ↓q_dk, ↓q_dict, ↓o_dictp, ↓q_lrg1, ↓q_lrg2, ↓q_zips, ↓o_zips, ↓o_maxl, List.map_cons, List.map_nil, List.length_cons, List.length_nil, List.replicate_succ, List.replicate_zero, List.cons_append, List.nil_append, List.getElem?_cons_zero, List.getElem?_cons_succ, List.set_cons_zero, List.set_cons_succ, Nat.reduceAdd, Nat.reduceSub, Nat.zero_add, ↓q_seq, ↓q_rowsD, ↓q_srt3, ↓q_rev2, ↓o_augs_int, ↓o_augd_int, ↓q_fnx, ↓q_fnxk, ↓q_raise, ↓q_try, ↓q_xf, ↓q_xis, ↓o_xf, ↓q_dsk, ↓q_pa0, ↓q_pa, ↓q_fld, ↓q_fset, ↓q_srt, ↓q_srtset, ↓q_lset, ↓q_laug, ↓q_extend, ↓o_lta_int, ↓o_lta_str, ↓o_lta_tup, ↓o_ins, ↓q_dc, ↓q_goals, ↓o_rep, kl_nil, kl_cons, Nat.reduceMod, ↓o_augm_int, ↓o_ltI, ↓q_dget, ↓q_dgett, ↓q_int, ↓q_dput, ↓q_dputt, ↓q_mnil, ↓q_msh, ↓q_mown, ↓q_parm, ↓q_rd3, ↓q_chain, ↓o_in_lst, ↓o_in_tup, ↓o_in_dic, ↓o_isn, ↓o_mult, ↓o_suma_lstI, ↓o_suma_tupI, ↓o_sumI, ↓o_lend, ↓o_tuplel, k_int, k_str, setC_cons, setC_nil, ↓q_next, ↓q_brk, ↓q_cnt, ↓q_ret, ↓q_ifs, ↓q_drop, ↓q_asg, ↓q_own, ↓q_par, ↓q_par3, ↓q_append, ↓q_for, ↓q_gset, ↓q_gtup, ↓q_gcons, ↓q_gnil, ↓q_aug, ↓q_var, ↓q_rd, ↓q_c, ↓q_bin, ↓q_un, ↓q_b, ↓q_not, ↓q_and, ↓q_or, ↓q_andv, ↓q_orv, ↓q_notv, ↓q_if, ↓q_nil, ↓q_cons, ↓q_consts, ↓q_tup, ↓q_lst, ↓q_sl, ↓q_no, ↓q_part, ↓q_rev, ↓q_call, ↓q_fn, ↓q_fnb, ↓q_fnk, ↓q_isi, ↓q_join, ↓q_lc, ↓q_yes, ↓q_r1, ↓q_r2, ↓q_iter, ↓q_enum, ↓q_enumk, ↓q_zip, ↓q_frz, ↓q_fmt, ↓q_js0, ↓q_js, ↓o_add_int, ↓o_add_str, ↓o_add_lst, ↓o_add_tup, ↓o_sub, ↓o_mul_int, ↓o_mul_lst, ↓o_mod, ↓o_div, ↓o_pow, ↓o_lt_int, ↓o_lt_str, ↓o_le, ↓o_gt, ↓o_ge, ↓o_ix_lst, ↓o_ix_tup, ↓o_ix_str, ↓o_sl_lst, ↓o_sl_tup, ↓o_sl_str, ↓o_len_lst, ↓o_len_tup, ↓o_len_str, ↓o_int_int, ↓o_int_bl, ↓o_int_str, ↓o_list_lst, ↓o_list_tup, ↓o_tuple_lst, ↓o_tuple_tup, ↓o_abs, ↓o_max, ↓o_min, ↓o_str, ↓o_all, ↓o_any, ↓o_aug_int, ↓i_lst, ↓i_tup, ↓i_str, ↓w_nil, ↓w_cons, ↓pk_cons', ↓pk_nil', ↓oEq_int, ↓oNe_int, ↓oEq_str, ↓oNe_str, noOwn, List.all_cons, List.all_nil, Bool.and_self, Bool.and_true, Bool.true_and, b_nd, decide_eq_true_eq, true_and, and_true, atI0, atI1, atI2, atI3, ↓ty_non, ↓ty_bl, ↓ty_int, ↓ty_str, ↓ty_lst, ↓ty_tup, ↓ty_dic, kk_NoneType_bool, kk_NoneType_int, kk_NoneType_str, kk_NoneType_list, kk_NoneType_tuple, kk_NoneType_dict, kk_bool_bool, kk_bool_int, kk_bool_str, kk_bool_list, kk_bool_tuple, kk_bool_dict, kk_int_bool, kk_int_int, kk_int_str, kk_int_list, kk_int_tuple, kk_int_dict, kk_str_bool, kk_str_int, kk_str_str, kk_str_list, kk_str_tuple, kk_str_dict, kk_list_bool, kk_list_int, kk_list_str, kk_list_list, kk_list_tuple, kk_list_dict, kk_tuple_bool, kk_tuple_int, kk_tuple_str, kk_tuple_list, kk_tuple_tuple, kk_tuple_dict, kk_dict_bool, kk_dict_int, kk_dict_str, kk_dict_list, kk_dict_tuple, kk_dict_dict, Bool.not_true, Bool.not_false, Bool.false_eq_true, if_true, if_false, ↓reduceIte, Bool.not_eq_true, List.isEmpty_nil, List.isEmpty_cons, not_true_eq_false, not_false_eq_true, decide_true, decide_false, List.flatten_cons, List.flatten_nil, sizeLine_val, Nat.reduceLeDiff, Nat.reduceLT, Nat.reduceMul, Int.reducePow, Int.reduceNeg, Int.reduceLE, Int.reduceLT, Int.reduceToNat, Int.reduceAdd, Int.reduceSub, Int.reduceMul])
local macro_rules | `(tactic| walk_at "dep") => `(tactic| (simp only [depD, depL, bulkD, bulkL]; first | decide | omega | (rw [← Nat.ble_eq]; rfl)))
local macro_rules | `(tactic| walk_at "nice") => `(tactic| (simp only [niceD, niceL, Bool.and_true, Bool.true_and, Bool.and_eq_true, decide_eq_true_eq, and_true, true_and]))
section
variable {P : Program} {w : World} {K : PySem.W.Frag} {mg : Str → Option Value} {base : Heap}
def S_least_first : PL.Spec := fun ds n R => ∃ (few : List Nat) (P : Nat → Bool) (first lap f : Nat), ds = [.tup (nD few), .int first, .int lap, .tup (nD (rs P lap))] ∧ 0 < lap ∧ lap ≤ 3000 ∧ Per P lap ∧ (∀ x ∈ few, x < first) ∧ first ≤ 5000 ∧ few.length ≤ 5000 ∧ IsF few P first f ∧ R (.int f) n
theorem ok_least_first {f : Addr} {fd : FuncData} (F : Fun K "least_first" "least_first" s_least_first f fd) (hm : mg "least_first" = some (.ref f)) (B : BI mg) (h_last_lacking : FnC P w K mg base 1 "last_lacking" ["known", "first", "lap", "rest"] [] S_last_lacking) : FnC P w K mg base 2 "least_first" ["few", "first", "lap", "rests"] [] S_least_first := by
  refine fnc F hm sc_least_first (F.binds (ps := ["few", "first", "lap", "rests"]) fun _ _ _ _ _ _ us hl => match us, hl with | [_, _, _, _], _ => rfl)
    (fun q hq => nomatch hq) ?_ (fun cdv A outer s H E hgd hr => ⟨_, (dss_cons (ds_asg (de_tup (da_cons (DE.of (fe_dk (own := [("length", 8)]) (di_iter (de_var (pv 0))) sc_least_first.nd (blkOk_by (N := ["few", "first", "lap", "rests", "known", "mates", "odd", "lacking", "length", "rest"]) (sc := defScope s_least_first) (own := [("length", 8)]) (by decide +kernel)) (by decide) (fun _ _ _ _ _ => (dg_name (pg_name (i := 8) sc_least_first.nd rfl (Or.inl rfl)))) (fun _ _ _ _ _ => dts_nil) (fun _ _ _ _ _ => (de_var (pv 8))) (fun _ _ _ _ _ => de_bl))) (da_cons (DE.of (fe_dk (own := [("rest", 9)]) (di_iter (de_var (pv 3))) sc_least_first.nd (blkOk_by (N := ["few", "first", "lap", "rests", "known", "mates", "odd", "lacking", "length", "rest"]) (sc := defScope s_least_first) (own := [("rest", 9)]) (by decide +kernel)) (by decide) (fun _ _ _ _ _ => (dg_name (pg_name (i := 9) sc_least_first.nd rfl (Or.inl rfl)))) (fun _ _ _ _ _ => dts_nil) (fun _ _ _ _ _ => (de_var (pv 9))) (fun _ _ _ _ _ => de_bl))) da_nil))) (dg_tup (m := 2) (dgs_cons (dg_name (pg_name (i := 4) sc_least_first.nd rfl (Or.inr rfl))) (dgs_cons (dg_name (pg_name (i := 5) sc_least_first.nd rfl (Or.inr rfl))) dgs_nil))))
      (dss_cons (ds_setF (ds_setLc (i := 6) (own := [("length", 8)]) (di_iter (de_var (pv 0))) sc_least_first.nd (blkOk_by (N := ["few", "first", "lap", "rests", "known", "mates", "odd", "lacking", "length", "rest"]) (sc := defScope s_least_first) (own := [("length", 8)]) (by decide +kernel)) (by decide) (fun _ _ _ _ _ => (dg_name (pg_name (i := 8) sc_least_first.nd rfl (Or.inl rfl)))) (fun _ _ _ _ _ => (dts_one (dt_notin hr.units (SE.of (de_mod (se_var (pv 8)) (se_var (pv 2)))) (se_var (pv 5))))) (fun _ _ _ _ _ => (de_var (pv 8))) (sw_true rfl rfl rfl (by decide +kernel))))
      (dss_cons (ds_setF (ds_setLc (i := 7) (own := [("rest", 9)]) (di_iter (de_var (pv 3))) sc_least_first.nd (blkOk_by (N := ["few", "first", "lap", "rests", "known", "mates", "odd", "lacking", "length", "rest"]) (sc := defScope s_least_first) (own := [("rest", 9)]) (by decide +kernel)) (by decide) (fun _ _ _ _ _ => (dg_name (pg_name (i := 9) sc_least_first.nd rfl (Or.inl rfl)))) (fun _ _ _ _ _ => dts_nil) (fun _ _ _ _ _ => (de_fnC h_last_lacking hgd hr (da_cons (de_var (pv 4)) (da_cons (de_var (pv 1)) (da_cons (de_var (pv 2)) (da_cons (de_var (pv 9)) da_nil)))))) (sw_true rfl rfl rfl (by decide +kernel))))
      (dss_one (ds_ret (SE.of (de_maxL B.max rfl (sa_cons (SE.of (de_add (SE.of (DE.of (fe_lc (own := [("length", 8)]) (di_iter (de_add (se_var (pv 6)) (se_var (pv 7)))) sc_least_first.nd (blkOk_by (N := ["few", "first", "lap", "rests", "known", "mates", "odd", "lacking", "length", "rest"]) (sc := defScope s_least_first) (own := [("length", 8)]) (by decide +kernel)) (by decide) (fun _ _ _ _ _ => (dg_name (pg_name (i := 8) sc_least_first.nd rfl (Or.inl rfl)))) (fun _ _ _ _ _ => dts_nil) (fun _ _ _ _ _ => (de_add (se_var (pv 8)) (SE.of de_int)))))) (SE.of (DE.of (fe_lst (da_cons de_int da_nil)))))) sa_nil)))))))), ?_⟩)
  · rintro ds n R ⟨few, P, first, lap, f, rfl, _⟩; rfl
  · rintro ds n R ⟨few, P, first, lap, f, rfl, l0, l1, hP, hf, f1, hfl, hF, hR⟩
    have hr := rs_len P lap
    walk_at "pl"
    refine ⟨by rw [nD_len]; omega, dk_known (by simp) ?_⟩
    try walk_at "pl"
    refine ⟨by rw [nD_len]; omega, dk_known (by simp) ?_⟩
    try walk_at "pl"
    refine ⟨by rw [nD_len]; omega, ?_⟩
    refine lcW_flt (fun d => !P (intOf d).toNat) id _ _ (fun d hd acc L hL => ?_) ?_
    · obtain ⟨x, hx, rfl⟩ := List.mem_map.mp hd
      unfold knD
      try walk_at "pl"
      rw [fmod_pos (by omega)]
      refine ⟨by omega, known_len _, ?_⟩
      have e : hasK (.inl ((x : Int) % (lap : Int)) : Key) (mergeD ((nD (rs P lap)).map kOf) [] []).1 = P x := by
        refine Bool.eq_iff_iff.mpr ?_
        rw [hask_int]
        constructor
        · rintro ⟨r, hr, e⟩
          have e : x % lap = r := by exact_mod_cast e
          rw [← hP.at, e]
          exact (rs_mem.mp hr).2
        · intro hx'
          exact ⟨x % lap, rs_mem.mpr ⟨Nat.mod_lt _ l0, by rw [hP.at]; exact hx'⟩, rfl⟩
      rw [e]
      exact hL
    · have e : ([] ++ List.map id ((nD few).filter fun d => !P (intOf d).toNat)) = nD (few.filter fun x => !P x) := by
        rw [List.nil_append, List.map_id]
        unfold nD
        rw [List.filter_map]
        rfl
      rw [e]
      have ho : (few.filter fun x => !P x).length ≤ few.length := List.length_filter_le _ _
      try walk_at "pl"
      refine ⟨by rw [nD_len]; omega, ?_⟩
      refine lcW_m (fun d => .int (lk few first lap (intOf d).toNat)) (fun d hd acc L hL => ?_) ?_
      · obtain ⟨r, hr', rfl⟩ := List.mem_map.mp hd
        try walk_at "pl"
        refine callS_of _ _ ⟨few, first, lap, r, rfl, l0, rs_lt r hr', f1, by omega, fun y h1 h2 => ?_⟩
        rw [lk_eq l0 (rs_lt r hr') h1 h2]
        exact hL
      · have e2 : ((nD (rs P lap)).map fun d => D.int (lk few first lap (intOf d).toNat)) = ((rs P lap).map fun r => lk few first lap r).map D.int := by
          unfold nD; rw [List.map_map, List.map_map]; rfl
        rw [e2]
        try walk_at "pl"
        refine ⟨by rw [nD_len, List.length_map, List.length_map]; omega, by rw [List.length_append, nD_len, List.length_map, List.length_map]; omega, ?_⟩
        refine lcW_m (fun d => .int (intOf d + 1)) (fun d hd acc L hL => ?_) ?_
        · have : ∃ i : Int, d = .int i := by
            rcases List.mem_append.mp hd with z | z
            · obtain ⟨x, _, rfl⟩ := List.mem_map.mp z; exact ⟨_, rfl⟩
            · obtain ⟨x, _, rfl⟩ := List.mem_map.mp z; exact ⟨_, rfl⟩
          obtain ⟨i, rfl⟩ := this
          try walk_at "pl"
          exact hL
        · have e3 : ((nD (few.filter fun x => !P x) ++ ((rs P lap).map fun r => lk few first lap r).map D.int).map fun d => D.int (intOf d + 1)) ++ [D.int 0] = (((few.filter fun x => !P x).map fun (x : Nat) => (x : Int) + 1) ++ ((rs P lap).map fun r => lk few first lap r + 1) ++ [0]).map D.int := by
            unfold nD
            simp only [List.map_append, List.map_map, List.map_cons, List.map_nil]
            rfl
          refine ⟨by rw [List.length_map, List.length_append, nD_len, List.length_map, List.length_map]; omega, ?_⟩
          rw [e3, asInts_map]
          refine ⟨by simp; omega, fun m hm hge => ?_⟩
          have hmax := max_isF (few := few) (P := P) (first := first) (lap := lap) l0 hP hf (fun y => ?_) hm hge
          · have := hmax.2.uniq hF
            rw [show m = (f : Int) by omega]
            exact hR
          · simp only [List.mem_append, List.mem_map, List.mem_filter, List.mem_singleton, Bool.not_eq_true', or_assoc]
            constructor
            · rintro (⟨x, ⟨h1, h2⟩, rfl⟩ | ⟨r, h1, rfl⟩ | rfl)
              · exact .inl ⟨x, h1, h2, rfl⟩
              · exact .inr (.inl ⟨r, h1, rfl⟩)
              · exact .inr (.inr rfl)
            · rintro (⟨x, h1, h2, rfl⟩ | ⟨r, h1, rfl⟩ | rfl)
              · exact .inl ⟨x, ⟨h1, h2⟩, rfl⟩
              · exact .inr (.inl ⟨r, h1, rfl⟩)
              · exact .inr (.inr rfl)
theorem asc_nD : ∀ {xs : List Nat}, xs.Pairwise (· < ·) → ascB (.tup (nD xs)) = true := by
  intro xs h
  have h1 : (nD xs).all numD = true := List.all_eq_true.mpr fun d hd => by
    obtain ⟨x, _, rfl⟩ := List.mem_map.mp hd
    exact decide_eq_true (show (0 : Int) ≤ (x : Int) by omega)
  have h2 : ∀ {xs : List Nat}, xs.Pairwise (· < ·) → ascL (nD xs) = true := by
    intro xs
    induction xs with
    | nil => intro _; rfl
    | cons a xs ih =>
      intro h
      cases xs with
      | nil => rfl
      | cons b xs =>
        obtain ⟨q1, q2⟩ := List.pairwise_cons.mp h
        have := q1 b List.mem_cons_self
        show (decide ((a : Int) < (b : Int)) && ascL (nD (b :: xs))) = true
        rw [ih q2, decide_eq_true (by omega)]; rfl
  show ((nD xs).all numD && ascL (nD xs)) = true
  rw [h1, h2 h]; rfl
theorem asc_inv {d : D} (h : ascB d = true) : ∃ xs : List Nat, d = .tup (nD xs) := by
  cases d with
  | tup xs =>
    have h : (xs.all numD && ascL xs) = true := h
    rw [Bool.and_eq_true] at h
    refine ⟨xs.map fun d => (intOf d).toNat, ?_⟩
    congr 1
    unfold nD
    rw [List.map_map]
    refine (List.map_id xs).symm.trans (List.map_congr_left fun d hd => ?_)
    obtain ⟨i, rfl, hi⟩ := num_int (List.all_eq_true.mp h.1 d hd)
    show D.int i = D.int ((i.toNat : Nat) : Int)
    rw [Int.toNat_of_nonneg hi]
  | _ => cases h
theorem atI_nD {xs : List Nat} (h : xs ≠ []) : atI (nD xs) (-1) = some (.int (xs.getLast h : Nat)) := by
  conv => lhs; rw [← List.dropLast_concat_getLast h]
  unfold nD
  rw [List.map_append]
  exact atI_lastD _ _
def lastD (xs : List D) : Int := intOf (xs.getD (xs.length - 1) .non)
theorem lastD_nD {xs : List Nat} (h : xs ≠ []) : lastD (nD xs) = (xs.getLast h : Nat) := by
  unfold lastD
  rw [nD_len, List.getD_eq_getElem?_getD, List.getLast_eq_getElem]
  unfold nD
  rw [List.getElem?_map, List.getElem?_eq_getElem (by have := List.length_pos_iff.mpr h; omega)]
  rfl
theorem arg_nD {xs : List Nat} (h : xs.length ≤ 5000) (h2 : ∀ x ∈ xs, x ≤ 100000) : argD (.tup (nD xs)) := ⟨rfl, fun ys e => by
  cases e
  refine ⟨by rw [nD_len]; exact h, List.all_eq_true.mpr fun d hd => ?_, okN (by omega) h2⟩
  obtain ⟨x, _, rfl⟩ := List.mem_map.mp hd
  rfl⟩
/-- a lot as it is told -/
def ptD (l : Lot) : List D := [.tup (nD l.few), .int l.first, .int l.lap, .tup (nD l.rests)]
def insD (m : Lot) : D := .obj 3 [.int m.lap, .tup (nD m.rests), .int m.first, .tup (nD m.few)]
/-- a tuple that is empty or ends below i -/
def endB (d : D) (i : Int) : Bool := match d with | .tup xs => xs.isEmpty || decide (lastD xs < i) | _ => false
/-- the first part that is none -/
def badPart (d0 d1 d2 d3 : D) : Option Str :=
  if ascB d0 = false then some "few"
  else if (isInt d1 && decide (0 ≤ intOf d1) && endB d0 (intOf d1)) = false then some "first"
  else if (isInt d2 && decide (1 ≤ intOf d2)) = false then some "around"
  else if (ascB d3 && endB d3 (intOf d2)) = false then some "rests"
  else none
/-- bounds of a lot -/
structure Fit (l : Lot) : Prop where
  ok : l.Ok
  first : l.first ≤ 5000
  few : l.few.length ≤ 5000
  lap : l.lap ≤ 3000
theorem isInt_inv {d : D} (h : isInt d = true) : ∃ i, d = .int i := by cases d <;> first | exact ⟨_, rfl⟩ | cases h
def S_Lengths_init : SpecX := fun ds n R RE => (∃ l m : Lot, ds = ptD l ∧ Fit l ∧ LeastOf l m ∧ R (insD m) n) ∨ (∃ (d0 d1 d2 d3 : D) (s : Str), ds = [d0, d1, d2, d3] ∧ argD d0 ∧ argD d1 ∧ argD d2 ∧ argD d3 ∧ badPart d0 d1 d2 d3 = some s ∧ RE 15 (.str s) n)
theorem ok_Lengths_init {f : Addr} {fd : FuncData} (F : Fun K "__init__" "Lengths.__init__" s_Lengths_init f fd) (B : BI mg) (ER_15 : ErrC P K mg 15) (T_Lengths : ClsT K 3) (h_least_round : FnC P w K mg base 2 "least_round" ["lap", "rests"] [] S_least_round) (h_least_first : FnC P w K mg base 2 "least_first" ["few", "first", "lap", "rests"] [] S_least_first) (h_are_ascending : FnC P w K mg base 2 "are_ascending" ["thing"] [] S_are_ascending) (h_is_integer : FnC P w K mg base 1 "is_integer" ["thing"] [] S_is_integer) : FnY P w K mg base 3 f fd ["self", "few", "first", "around", "rests"] (spIX K 3 S_Lengths_init) := by
  refine F.okIX (k := 2) (by decide) sc_Lengths_init ?_ (fun cdv A outer s H E g RE hgd hr hK tk => ⟨_, (lss_cons (ls_if (dt_not (dt_val (de_fnC h_are_ascending hgd hr (da_cons (de_var (pv 1)) da_nil)))) hK (lss_one (ls_raise ER_15 hK rfl tk hr (le_q de_str hK))) lss_nil)
      (lss_cons (ls_if (dt_w (dw_or (dt_not (dt_val (de_fnC h_is_integer hgd (hr.mono (by decide)) (da_cons (de_var (pv 2)) da_nil)))) (dw_or (dt_lt (se_var (pv 2)) (SE.of de_int)) (dw_or1 (dt_w (dw_and (dt_ne hr.units (se_var (pv 1)) (SE.of (de_tup da_nil))) (dw_and1 (dt_le (se_var (pv 2)) (SE.of (de_sub_ix (se_var (pv 1)) (SE.of (de_neg (SE.of de_int))))))))))))) hK (lss_one (ls_raise ER_15 hK rfl tk hr (le_q de_str hK))) lss_nil)
      (lss_cons (ls_if (dt_w (dw_or (dt_not (dt_val (de_fnC h_is_integer hgd (hr.mono (by decide)) (da_cons (de_var (pv 3)) da_nil)))) (dw_or1 (dt_lt (se_var (pv 3)) (SE.of de_int))))) hK (lss_one (ls_raise ER_15 hK rfl tk hr (le_q de_str hK))) lss_nil)
      (lss_cons (ls_if (dt_w (dw_or (dt_not (dt_val (de_fnC h_are_ascending hgd hr (da_cons (de_var (pv 4)) da_nil)))) (dw_or1 (dt_w (dw_and (dt_ne hr.units (se_var (pv 4)) (SE.of (de_tup da_nil))) (dw_and1 (dt_ge (SE.of (de_sub_ix (se_var (pv 4)) (SE.of (de_neg (SE.of de_int))))) (se_var (pv 3))))))))) hK (lss_one (ls_raise ER_15 hK rfl tk hr (le_q de_str hK))) lss_nil)
      (lss_cons (ls_q (ds_asg (de_fnC h_least_round hgd hr (da_cons (de_var (pv 3)) (da_cons (de_var (pv 4)) da_nil))) (dg_tup (m := 2) (dgs_cons (dg_fset (k := 3) (i := 0) (j := 0) T_Lengths (pv 0)) (dgs_cons (dg_fset (k := 3) (i := 0) (j := 1) T_Lengths (pv 0)) dgs_nil)))) hK)
      (lss_cons (ls_q (ds_fset (k := 3) (i := 0) (j := 2) T_Lengths (pv 0) (de_fnC h_least_first hgd hr (da_cons (de_var (pv 1)) (da_cons (de_var (pv 2)) (da_cons (de_fld (k := 3) (i := 0) T_Lengths (se_var (pv 0))) (da_cons (de_fld (k := 3) (i := 1) T_Lengths (se_var (pv 0))) da_nil)))))) hK)
      (lss_one (ls_q (ds_fset (k := 3) (i := 0) (j := 3) T_Lengths (pv 0) (de_tuple B.tuple rfl (sa_cons (SE.of (DE.of (fe_lc (own := [("length", 5)]) (di_iter (de_var (pv 1))) sc_Lengths_init.nd (blkOk_by (N := ["self", "few", "first", "around", "rests", "length"]) (sc := defScope s_Lengths_init) (own := [("length", 5)]) (by decide +kernel)) (by decide) (fun _ _ _ _ _ => (dg_name (pg_name (i := 5) sc_Lengths_init.nd rfl (Or.inl rfl)))) (fun _ _ _ _ _ => (dts_one (dt_lt (se_var (pv 5)) (SE.of (de_fld (k := 3) (i := 2) T_Lengths (se_var (pv 0))))))) (fun _ _ _ _ _ => (de_var (pv 5)))))) sa_nil))) hK)))))))), ?_⟩)
  · rintro ds n R RE (⟨l, m, rfl, _⟩ | ⟨d0, d1, d2, d3, s, rfl, _⟩) <;> rfl
  · rintro kk hkk ds n R (⟨l, m, rfl, hl, hm, hR⟩ | ⟨d0, d1, d2, d3, s, rfl, h0, h1, h2, h3, hb, hE⟩)
    · have b0 : ∀ x ∈ l.few, x < l.first := hl.ok.lt
      have b1 : ∀ x ∈ l.rests, x < l.lap := hl.ok.rlt
      have f1 := hl.first
      have f2 := hl.few
      have f3 := hl.lap
      have f0 := hl.ok.lap
      have f4 : l.rests.length ≤ l.lap := by rw [hl.ok.rs]; exact rs_len _ _
      have a0 := arg_nD f2 fun x hx => by have := b0 x hx; omega
      have a3 := arg_nD (xs := l.rests) (by omega) fun x hx => by have := b1 x hx; omega
      have end0 : ∀ h : l.few ≠ [], ¬ (l.first : Int) ≤ ((l.few.getLast h : Nat) : Int) := fun h => by
        have := b0 _ (List.getLast_mem h)
        omega
      have end3 : ∀ h : l.rests ≠ [], ¬ (l.lap : Int) ≤ ((l.rests.getLast h : Nat) : Int) := fun h => by
        have := b1 _ (List.getLast_mem h)
        omega
      unfold ptD
      walk_at "pl"
      refine callS_of _ _ ⟨_, rfl, a0, ?_⟩
      rw [asc_nD hl.ok.few]
      try walk_at "pl"
      refine callS_of _ _ ⟨_, rfl, rfl, ?_⟩
      try walk_at "pl"
      rw [if_neg (by simp [isInt]), if_neg (by omega)]
      refine oNe_D (a0.2 _ rfl).2.2 okNil ?_
      rw [eq_nil]
      refine (fun (rest : ?Z) => ?use1) ?_
      case use1 =>
        by_cases c : l.few = []
        · rw [decide_eq_true c]
          try walk_at "pl"
          exact rest
        · rw [decide_eq_false c, atI_nD c]
          try walk_at "pl"
          rw [if_neg (end0 c)]
          exact rest
      refine callS_of _ _ ⟨_, rfl, rfl, ?_⟩
      try walk_at "pl"
      rw [if_neg (by simp [isInt]), if_neg (by omega)]
      refine callS_of _ _ ⟨_, rfl, a3, ?_⟩
      rw [asc_nD hl.ok.rests]
      try walk_at "pl"
      refine oNe_D (a3.2 _ rfl).2.2 okNil ?_
      rw [eq_nil]
      refine (fun (rest : ?Z2) => ?use2) ?_
      case use2 =>
        by_cases c : l.rests = []
        · rw [decide_eq_true c]
          try walk_at "pl"
          exact rest
        · rw [decide_eq_false c, atI_nD c]
          try walk_at "pl"
          rw [if_neg (end3 c)]
          exact rest
      try walk_at "pl"
      rw [hl.ok.rs]
      refine callS_of _ _ ⟨l.P, l.lap, m.lap, rfl, f0, f3, hl.ok.per, hm.lap, ?_⟩
      try walk_at "pl"
      have mp := hm.lap.pos
      have ml : m.lap ≤ 3000 := Nat.le_trans (Nat.le_of_dvd f0 hm.lap.dv) f3
      refine ⟨hkk, hkk, hkk, hkk, callS_of _ _ ⟨l.few, l.P, l.first, m.lap, m.first, rfl, mp, ml, hm.lap.per, b0, f1, f2, hm.first, ?_⟩⟩
      try walk_at "pl"
      refine ⟨hkk, by rw [nD_len]; omega, ?_⟩
      refine lcW_flt (fun d => decide (intOf d < (m.first : Int))) id _ _ (fun d hd acc L hL => ?_) ?_
      · obtain ⟨x, hx, rfl⟩ := List.mem_map.mp hd
        try walk_at "pl"
        refine ⟨hkk, ?_⟩
        have hL : (if decide ((x : Int) < (m.first : Int)) = true then L (acc ++ [.int (x : Int)]) n else L acc n) := hL
        by_cases c : (x : Int) < (m.first : Int)
        · rw [if_pos c]
          rw [if_pos (decide_eq_true c)] at hL
          exact hL
        · rw [if_neg c]
          rw [if_neg (fun z => c (of_decide_eq_true z))] at hL
          exact hL
      · have e : ([] ++ List.map id ((nD l.few).filter fun d => decide (intOf d < (m.first : Int)))) = nD m.few := by
          rw [List.nil_append, List.map_id, hm.few]
          unfold nD
          rw [List.filter_map]
          congr 1
          refine List.filter_congr fun x _ => ?_
          show decide ((x : Int) < (m.first : Int)) = decide (x < m.first)
          exact decide_eq_decide.mpr (by omega)
        rw [e]
        try walk_at "pl"
        rw [← hm.rests]
        exact ⟨hkk, hR⟩
    · walk_at "pl"
      refine callS_of _ _ ⟨_, rfl, h0, ?_⟩
      unfold badPart at hb
      cases c0 : ascB d0 with
      | false =>
        rw [c0, if_pos rfl] at hb
        cases hb
        try walk_at "pl"
        exact hE
      | true =>
        rw [c0, if_neg (by decide)] at hb
        obtain ⟨few, rfl⟩ := asc_inv c0
        try walk_at "pl"
        refine callS_of _ _ ⟨_, rfl, kd_plain h1.1, ?_⟩
        try walk_at "pl"
        cases c1 : isInt d1 with
        | false =>
          rw [c1] at hb
          simp only [Bool.false_and, if_true, Option.some.injEq] at hb
          subst hb
          exact hE
        | true =>
          obtain ⟨i, rfl⟩ := isInt_inv c1
          have hb : (if (decide (0 ≤ i) && ((nD few).isEmpty || decide (lastD (nD few) < i))) = false then some (Str.ofString "first") else if (isInt d2 && decide (1 ≤ intOf d2)) = false then some (Str.ofString "around")
            else if (ascB d3 && endB d3 (intOf d2)) = false then some (Str.ofString "rests") else none) = some s := hb
          rw [if_neg (by simp)]
          try walk_at "pl"
          by_cases c2 : i < 0
          · rw [if_pos (by rw [decide_eq_false (by omega)]; rfl)] at hb
            cases hb
            rw [if_pos c2]
            exact hE
          rw [if_neg c2]
          rw [decide_eq_true (show 0 ≤ i by omega), Bool.true_and] at hb
          refine oNe_D (h0.2 _ rfl).2.2 okNil ?_
          rw [eq_nil]
          refine (fun (rest : (((nD few).isEmpty || decide (lastD (nD few) < i)) = true) → ?Z3) => ?use3) ?_
          case use3 =>
            by_cases c : few = []
            · have rest := rest (by rw [c]; rfl)
              rw [decide_eq_true c]
              try walk_at "pl"
              exact rest
            · have e : ((nD few).isEmpty || decide (lastD (nD few) < i)) = decide (((few.getLast c : Nat) : Int) < i) := by
                rw [lastD_nD c]
                cases few with
                | nil => exact absurd rfl c
                | cons _ _ => rfl
              rw [e] at rest hb
              rw [decide_eq_false c, atI_nD c]
              try walk_at "pl"
              by_cases c3 : i ≤ ((few.getLast c : Nat) : Int)
              · rw [if_pos (decide_eq_false (by omega))] at hb
                cases hb
                rw [if_pos c3]
                exact hE
              · rw [if_neg c3]
                exact rest (decide_eq_true (by omega))
          intro c3
          rw [if_neg (by rw [c3]; decide)] at hb
          refine callS_of _ _ ⟨_, rfl, kd_plain h2.1, ?_⟩
          try walk_at "pl"
          cases c4 : isInt d2 with
          | false =>
            rw [c4] at hb
            simp only [Bool.false_and, if_true, Option.some.injEq] at hb
            subst hb
            exact hE
          | true =>
            obtain ⟨j, rfl⟩ := isInt_inv c4
            have hb : (if decide (1 ≤ j) = false then some (Str.ofString "around") else if (ascB d3 && endB d3 j) = false then some (Str.ofString "rests") else none) = some s := hb
            rw [if_neg (by simp)]
            try walk_at "pl"
            by_cases c5 : j < 1
            · rw [if_pos (decide_eq_false (by omega))] at hb
              cases hb
              try walk_at "pl"
              rw [if_pos c5]
              exact hE
            try walk_at "pl"
            rw [if_neg c5]
            rw [if_neg (by rw [decide_eq_true (by omega)]; decide)] at hb
            refine callS_of _ _ ⟨_, rfl, h3, ?_⟩
            cases c6 : ascB d3 with
            | false =>
              rw [c6] at hb
              simp only [Bool.false_and, if_true, Option.some.injEq] at hb
              subst hb
              try walk_at "pl"
              exact hE
            | true =>
              obtain ⟨rests, rfl⟩ := asc_inv c6
              rw [c6] at hb
              have hb : (if ((nD rests).isEmpty || decide (lastD (nD rests) < j)) = false then some (Str.ofString "rests") else none) = some s := hb
              try walk_at "pl"
              refine oNe_D (h3.2 _ rfl).2.2 okNil ?_
              rw [eq_nil]
              by_cases c : rests = []
              · rw [c, if_neg (by simp [nD])] at hb
                cases hb
              · have e : ((nD rests).isEmpty || decide (lastD (nD rests) < j)) = decide (((rests.getLast c : Nat) : Int) < j) := by
                  rw [lastD_nD c]
                  cases rests with
                  | nil => exact absurd rfl c
                  | cons _ _ => rfl
                rw [e] at hb
                rw [decide_eq_false c, atI_nD c]
                try walk_at "pl"
                by_cases c7 : j ≤ ((rests.getLast c : Nat) : Int)
                · rw [if_pos (decide_eq_false (by omega))] at hb
                  cases hb
                  rw [if_pos c7]
                  exact hE
                · rw [if_neg (by rw [decide_eq_true (by omega)]; decide)] at hb
                  cases hb
theorem plain_notK {d : D} (h : plainD d = true) : isK 3 d = false := by cases d <;> first | rfl | cases h
def S_Lengths_eq : PL.Spec := fun ds n R => (∃ m m2 : Lot, ds = [insD m, insD m2] ∧ okD (.tup (ptD m)) ∧ okD (.tup (ptD m2)) ∧ R (.bl (eqD (.tup (ptD m)) (.tup (ptD m2)))) n) ∨ (∃ (m : Lot) (d : D), ds = [insD m, d] ∧ plainD d = true ∧ R (.bl false) n)
theorem ok_Lengths_eq {C f : Addr} {fd : FuncData} (F : Fun K "__eq__" "Lengths.__eq__" s_Lengths_eq f fd) (hc : clsOf K 3 = some C) (hfi : PySem.W.findIn K (.ref C) "__eq__" = some (some (.ref f))) (hif : PySem.W.isFn K (.ref f) = true) (B : BI mg) (T_Lengths : ClsT K 3) (I_Lengths : InsT K 3) (mC_Lengths : mg "Lengths" = (clsOf K 3).map Value.ref) : MetC P w K mg base 1 "__eq__" 3 ["self", "other"] S_Lengths_eq := by
  refine metc F hc hfi hif sc_Lengths_eq (F.binds (ps := ["self", "other"]) fun _ _ _ _ _ _ us hl => match us, hl with | [_, _], _ => rfl) ?_ (fun cdv A outer s H E hgd hr => ⟨_, (dss_cons (ds_if (dt_not (dt_val (de_isiC I_Lengths mC_Lengths B.isinstance rfl rfl (se_var (pv 1))))) (dss_one (ds_ret (SE.of de_bl))) dss_nil)
      (dss_one (ds_ret (SE.of (de_eq hr.units (SE.of (de_tup (da_cons (de_fld (k := 3) (i := 3) T_Lengths (se_var (pv 0))) (da_cons (de_fld (k := 3) (i := 2) T_Lengths (se_var (pv 0))) (da_cons (de_fld (k := 3) (i := 0) T_Lengths (se_var (pv 0))) (da_cons (de_fld (k := 3) (i := 1) T_Lengths (se_var (pv 0))) da_nil)))))) (SE.of (de_tup (da_cons (de_fld (k := 3) (i := 3) T_Lengths (se_var (pv 1))) (da_cons (de_fld (k := 3) (i := 2) T_Lengths (se_var (pv 1))) (da_cons (de_fld (k := 3) (i := 0) T_Lengths (se_var (pv 1))) (da_cons (de_fld (k := 3) (i := 1) T_Lengths (se_var (pv 1))) da_nil))))))))))), ?_⟩)
  · rintro ds n R (⟨m, m2, rfl, _⟩ | ⟨m, d, rfl, _⟩) <;> rfl
  · rintro ds n R (⟨m, m2, rfl, h1, h2, hR⟩ | ⟨m, d, rfl, hp, hR⟩)
    · unfold insD
      walk_at "pl"
      refine ⟨rfl, ?_⟩
      rw [if_neg (by simp [isK])]
      exact oEq_D h1 h2 hR
    · unfold insD
      walk_at "pl"
      rw [plain_notK hp, hp]
      exact ⟨rfl, hR⟩
def hasB (m : Lot) (d : D) : Bool := match d with | .int i => decide (0 ≤ i) && (if i.toNat < m.first then decide (i.toNat ∈ m.few) else decide (i.toNat % m.lap ∈ m.rests)) | _ => false
theorem flat_nD (l : List Nat) : (nD l).all flatD = true := List.all_eq_true.mpr fun d hd => by
  obtain ⟨x, _, rfl⟩ := List.mem_map.mp hd
  rfl
theorem mem_nD (x : Nat) (l : List Nat) : memD (.int (x : Int)) (nD l) = decide (x ∈ l) := by
  refine Bool.eq_iff_iff.mpr ?_
  rw [decide_eq_true_iff]
  unfold memD
  rw [List.any_eq_true]
  constructor
  · rintro ⟨d, hd, h⟩
    obtain ⟨y, hy, rfl⟩ := List.mem_map.mp hd
    have h : decide ((y : Int) = (x : Int)) = true := h
    have : y = x := by exact_mod_cast of_decide_eq_true h
    exact this ▸ hy
  · intro h
    exact ⟨.int (x : Int), List.mem_map.mpr ⟨x, h, rfl⟩, decide_eq_true rfl⟩
def S_Lengths_contains : PL.Spec := fun ds n R => ∃ (m : Lot) (d : D), ds = [insD m, d] ∧ 0 < m.lap ∧ kd d = true ∧ R (.bl (hasB m d)) n
theorem ok_Lengths_contains {C f : Addr} {fd : FuncData} (F : Fun K "__contains__" "Lengths.__contains__" s_Lengths_contains f fd) (hc : clsOf K 3 = some C) (hfi : PySem.W.findIn K (.ref C) "__contains__" = some (some (.ref f))) (hif : PySem.W.isFn K (.ref f) = true) (B : BI mg) (T_Lengths : ClsT K 3) (h_is_integer : FnC P w K mg base 1 "is_integer" ["thing"] [] S_is_integer) : MetC P w K mg base 2 "__contains__" 3 ["self", "thing"] S_Lengths_contains := by
  refine metc F hc hfi hif sc_Lengths_contains (F.binds (ps := ["self", "thing"]) fun _ _ _ _ _ _ us hl => match us, hl with | [_, _], _ => rfl) ?_ (fun cdv A outer s H E hgd hr => ⟨_, (dss_cons (ds_if (dt_w (dw_or (dt_not (dt_val (de_fnC h_is_integer hgd hr (da_cons (de_var (pv 1)) da_nil)))) (dw_or1 (dt_lt (se_var (pv 1)) (SE.of de_int))))) (dss_one (ds_ret (SE.of de_bl))) dss_nil)
      (dss_one (ds_ret (SE.of (de_ife (dt_lt (se_var (pv 1)) (SE.of (de_fld (k := 3) (i := 2) T_Lengths (se_var (pv 0))))) (de_in hr.units (se_var (pv 1)) (SE.of (de_fld (k := 3) (i := 3) T_Lengths (se_var (pv 0))))) (de_in hr.units (SE.of (de_mod (se_var (pv 1)) (SE.of (de_fld (k := 3) (i := 0) T_Lengths (se_var (pv 0)))))) (SE.of (de_fld (k := 3) (i := 1) T_Lengths (se_var (pv 0)))))))))), ?_⟩)
  · rintro ds n R ⟨m, d, rfl, _⟩; rfl
  · rintro ds n R ⟨m, d, rfl, hl, hk, hR⟩
    unfold insD
    walk_at "pl"
    refine callS_of _ _ ⟨_, rfl, hk, ?_⟩
    try walk_at "pl"
    cases d with
    | int i =>
      have hR : R (.bl (decide (0 ≤ i) && (if i.toNat < m.first then decide (i.toNat ∈ m.few) else decide (i.toNat % m.lap ∈ m.rests)))) n := hR
      rw [if_neg (by simp [isInt])]
      try walk_at "pl"
      by_cases c : i < 0
      · rw [if_pos c]
        rw [decide_eq_false (by omega), Bool.false_and] at hR
        exact hR
      · obtain ⟨x, rfl⟩ := Int.eq_ofNat_of_zero_le (show 0 ≤ i by omega)
        rw [if_neg c]
        rw [decide_eq_true (by omega), Bool.true_and, Int.toNat_natCast] at hR
        by_cases c2 : x < m.first
        · rw [if_pos (show (x : Int) < (m.first : Int) by omega)]
          rw [if_pos c2] at hR
          exact ⟨rfl, flat_nD _, by rw [mem_nD]; exact hR⟩
        · rw [if_neg (show ¬ (x : Int) < (m.first : Int) by omega)]
          rw [if_neg c2] at hR
          rw [fmod_pos (by omega)]
          refine ⟨by omega, rfl, flat_nD _, ?_⟩
          rw [show (x : Int) % (m.lap : Int) = ((x % m.lap : Nat) : Int) from rfl, mem_nD]
          exact hR
    | _ => exact hR
end
end K58

set_option pp.maxSteps 1500
namespace K58
open PySem PySem.Spec L2 PL M58
local macro_rules | `(tactic| walk_at "pl") => `(tactic| simp (maxSteps := 3000000) (dsimp := false) only [env0, envI, nxI, ↓q_srtsc, ↓q_inm, ↓q_eqm, ↓q_isia, ↓q_isic, ↓q_gfset, ↓asBl_f, ↓asBl_t, ↓q_gseq, ↓q_dk, ↓q_dict, ↓o_dictp, ↓q_lrg1, ↓q_lrg2, ↓q_zips, ↓o_zips, ↓o_maxl, List.map_cons, List.map_nil, List.length_cons, List.length_nil, List.replicate_succ, List.replicate_zero, List.cons_append, List.nil_append, List.getElem?_cons_zero, List.getElem?_cons_succ, List.set_cons_zero, List.set_cons_succ, Nat.reduceAdd, Nat.reduceSub, Nat.zero_add, ↓q_seq, ↓q_rowsD, ↓q_srt3, ↓q_rev2, ↓o_augs_int, ↓o_augd_int, ↓q_fnx, ↓q_fnxk, ↓q_raise, ↓q_try, ↓q_xf, ↓q_xis, ↓o_xf, ↓q_dsk, ↓q_pa0, ↓q_pa, ↓q_fld, ↓q_fset, ↓q_srt, ↓q_srtset, ↓q_lset, ↓q_laug, ↓q_extend, ↓o_lta_int, ↓o_lta_str, ↓o_lta_tup, ↓o_ins, ↓q_dc, ↓q_goals, ↓o_rep, kl_nil, kl_cons, Nat.reduceMod, ↓o_augm_int, ↓o_ltI, ↓q_dget, ↓q_dgett, ↓q_int, ↓q_dput, ↓q_dputt, ↓q_mnil, ↓q_msh, ↓q_mown, ↓q_parm, ↓q_rd3, ↓q_chain, ↓o_in_lst, ↓o_in_tup, ↓o_in_dic, ↓o_isn, ↓o_mult, ↓o_suma_lstI, ↓o_suma_tupI, ↓o_sumI, ↓o_lend, ↓o_tuplel, k_int, k_str, setC_cons, setC_nil, ↓q_next, ↓q_brk, ↓q_cnt, ↓q_ret, ↓q_ifs, ↓q_drop, ↓q_asg, ↓q_own, ↓q_par, ↓q_par3, ↓q_append, ↓q_for, ↓q_gset, ↓q_gtup, ↓q_gcons, ↓q_gnil, ↓q_aug, ↓q_var, ↓q_rd, ↓q_c, ↓q_bin, ↓q_un, ↓q_b, ↓q_not, ↓q_and, ↓q_or, ↓q_andv, ↓q_orv, ↓q_notv, ↓q_if, ↓q_nil, ↓q_cons, ↓q_consts, ↓q_tup, ↓q_lst, ↓q_sl, ↓q_no, ↓q_part, ↓q_rev, ↓q_call, ↓q_fn, ↓q_fnb, ↓q_fnk, ↓q_isi, ↓q_join, ↓q_lc, ↓q_yes, ↓q_r1, ↓q_r2, ↓q_iter, ↓q_enum, ↓q_enumk, ↓q_zip, ↓q_frz, ↓q_fmt, ↓q_js0, ↓q_js, ↓o_add_int, ↓o_add_str, ↓o_add_lst, ↓o_add_tup, ↓o_sub, ↓o_mul_int, ↓o_mul_lst, ↓o_mod, ↓o_div, ↓o_pow, ↓o_lt_int, ↓o_lt_str, ↓o_le, ↓o_gt, ↓o_ge, ↓o_ix_lst, ↓o_ix_tup, ↓o_ix_str, ↓o_sl_lst, ↓o_sl_tup, ↓o_sl_str, ↓o_len_lst, ↓o_len_tup, ↓o_len_str, ↓o_int_int, ↓o_int_bl, ↓o_int_str, ↓o_list_lst, ↓o_list_tup, ↓o_tuple_lst, ↓o_tuple_tup, ↓o_abs, ↓o_max, ↓o_min, ↓o_str, ↓o_all, ↓o_any, ↓o_aug_int, ↓i_lst, ↓i_tup, ↓i_str, ↓w_nil, ↓w_cons, ↓pk_cons', ↓pk_nil', ↓oEq_int, ↓oNe_int, ↓oEq_str, ↓oNe_str, noOwn, List.all_cons, List.all_nil, Bool.and_self, Bool.and_true, Bool.true_and, b_nd, decide_eq_true_eq, true_and, and_true, atI0, atI1, atI2, atI3, ↓ty_non, ↓ty_bl, ↓ty_int, ↓ty_str, ↓ty_lst, ↓ty_tup, ↓ty_dic, kk_NoneType_bool, kk_NoneType_int, kk_NoneType_str, kk_NoneType_list, kk_NoneType_tuple, kk_NoneType_dict, kk_bool_bool, kk_bool_int, kk_bool_str, kk_bool_list, kk_bool_tuple, kk_bool_dict, kk_int_bool, kk_int_int, kk_int_str, kk_int_list, kk_int_tuple, kk_int_dict, kk_str_bool, kk_str_int, kk_str_str, kk_str_list, kk_str_tuple, kk_str_dict, kk_list_bool, kk_list_int, kk_list_str, kk_list_list, kk_list_tuple, kk_list_dict, kk_tuple_bool, kk_tuple_int, kk_tuple_str, kk_tuple_list, kk_tuple_tuple, kk_tuple_dict, kk_dict_bool, kk_dict_int, kk_dict_str, kk_dict_list, kk_dict_tuple, kk_dict_dict, Bool.not_true, Bool.not_false, Bool.false_eq_true, if_true, if_false, ↓reduceIte, Bool.not_eq_true, List.isEmpty_nil, List.isEmpty_cons, not_true_eq_false, not_false_eq_true, decide_true, decide_false, List.flatten_cons, List.flatten_nil, sizeLine_val, Nat.reduceLeDiff, Nat.reduceLT, Nat.reduceMul, Int.reducePow, Int.reduceNeg, Int.reduceLE, Int.reduceLT, Int.reduceToNat, Int.reduceAdd, Int.reduceSub, Int.reduceMul])
local macro_rules | `(tactic| walk_at "dep") => `(tactic| (simp only [depD, depL, bulkD, bulkL]; first | decide | omega | (rw [← Nat.ble_eq]; rfl)))
local macro_rules | `(tactic| walk_at "nice") => `(tactic| (simp only [niceD, niceL, Bool.and_true, Bool.true_and, Bool.and_eq_true, decide_eq_true_eq, and_true, true_and]))
section
variable {P : Program} {w : World} {K : PySem.W.Frag} {mg : Str → Option Value} {base : Heap}
def S_law_pick : PL.Spec := fun ds n R => ∃ xs : List D, ds = [.res, .lst xs] ∧ n < lim ∧ 0 < xs.length ∧ xs.length < 1073741824 ∧ ∀ d ∈ xs, R d (n + 1)
theorem atI_ex {α : Type} {xs : List α} {i : Int} (h0 : 0 ≤ i) (h : i < xs.length) : ∃ x, atI xs i = some x ∧ x ∈ xs := by
  have hi : i.toNat < xs.length := by omega
  have := atI_nat (xs := xs) (j := i.toNat) (v := xs[i.toNat]) (by simp [hi])
  rw [show ((i.toNat : Nat) : Int) = i by omega] at this
  exact ⟨_, this, List.getElem_mem hi⟩
theorem ok_law_pick {f : Addr} {fd : FuncData} (F : Fun K "_law_pick" "_law_pick" s_law_pick f fd) (hm : mg "_law_pick" = some (.ref f)) (B : BI mg) (h_law_draw : FnC P w K mg base 1 "_law_draw" ["_law_deck_here", "_law_many"] [] S_law_draw) : FnC P w K mg base 2 "_law_pick" ["_law_deck_here", "_law_some"] [] S_law_pick := by
  refine fnc F hm sc_law_pick (F.binds (ps := ["_law_deck_here", "_law_some"]) fun _ _ _ _ _ _ us hl => match us, hl with | [_, _], _ => rfl)
    (fun q hq => nomatch hq) ?_ (fun cdv A outer s H E hgd hr => ⟨_, (dss_one (ds_ret (SE.of (de_sub_ix (se_var (pv 1)) (SE.of (de_fnC h_law_draw hgd hr (da_cons (de_var (pv 0)) (da_cons (de_len B.len rfl (sa_cons (se_var (pv 1)) sa_nil)) da_nil)))))))), ?_⟩)
  · rintro ds n R ⟨x, rfl, _⟩; rfl
  · rintro ds n R ⟨xs, rfl, hn, h1, h2, hR⟩
    walk_at "pl"
    refine callS_of _ _ ⟨xs.length, rfl, by omega, by omega, hn, fun m m0 m1 => ?_⟩
    obtain ⟨x, e, hx⟩ := atI_ex (xs := xs) m0 m1
    try walk_at "pl"
    simp only [e]
    exact hR x hx
/-- an integer below 10 ** 29 -/
def S_law_far : PL.Spec := fun ds n R => ds = [.res, .int (10 ^ 29)] ∧ n + 10 ≤ lim ∧ ∀ (m : Nat) (k : Nat), (m : Int) < 10 ^ 29 → n ≤ k → k ≤ n + 10 → R (.int m) k
theorem ok_law_far {f : Addr} {fd : FuncData} (F : Fun K "_law_far" "_law_far" s_law_far f fd) (hm : mg "_law_far" = some (.ref f)) (B : BI mg) (h_law_draw : FnC P w K mg base 1 "_law_draw" ["_law_deck_here", "_law_many"] [] S_law_draw) : FnC P w K mg base 2 "_law_far" ["_law_deck_here", "_law_many"] [] S_law_far := by
  refine fnc F hm sc_law_far (F.binds (ps := ["_law_deck_here", "_law_many"]) fun _ _ _ _ _ _ us hl => match us, hl with | [_, _], _ => rfl)
    (fun q hq => nomatch hq) ?_ (fun cdv A outer s H E hgd hr => ⟨_, (dss_cons (ds_asg de_int (dg_name (pg_name (i := 2) sc_law_far.nd rfl (Or.inl rfl))))
      (dss_cons (ds_for PassesOwn.never rfl (di_range1 B.range rfl (da_cons (de_add (SE.of (de_fdiv (SE.of (de_len B.len rfl (sa_cons (SE.of (de_str1 B.str rfl (sa_cons (se_var (pv 1)) sa_nil))) sa_nil))) (SE.of de_int))) (SE.of de_int)) da_nil)) (dg_name (pg_name (i := 3) sc_law_far.nd rfl (Or.inl rfl))) (dss_one (ds_asg (de_add (SE.of (de_mul (se_var (pv 2)) (SE.of (de_pow (SE.of de_int) (SE.of de_int))))) (SE.of (de_fnC h_law_draw hgd hr (da_cons (de_var (pv 0)) (da_cons (de_pow (SE.of de_int) (SE.of de_int)) da_nil))))) (dg_name (pg_name (i := 2) sc_law_far.nd rfl (Or.inl rfl))))))
      (dss_one (ds_ret (SE.of (de_mod (se_var (pv 2)) (se_var (pv 1)))))))), ?_⟩)
  · rintro ds n R ⟨rfl, _⟩; rfl
  · rintro ds n R ⟨rfl, hn, hR⟩
    walk_at "pl"
    have e1 : (toString (100000000000000000000000000000 : Int) : String) = "100000000000000000000000000000" := by decide +kernel
    have e2 : (Str.ofString (toString (100000000000000000000000000000 : Int))).length = 30 := by rw [e1]; decide +kernel
    rw [e2]
    refine ⟨by decide +kernel, by decide, dOk 30 6 (by decide) (by decide), by decide, by decide, ?_⟩
    rw [show ((((30 : Nat) : Int).fdiv 6) + 1).toNat = 6 by decide]
    refine (fun (loop : ∀ (j : Nat) (lo : Int) (x : Nat) (c3 : Cell) (k : Nat), n ≤ k → k + j ≤ n + 6 → forW ?t ?b (intsD lo j) ?Ps [Cell.sh D.res, Cell.sh (.int 100000000000000000000000000000), Cell.sh (.int (x : Int)), c3] k) => loop 6 0 0 _ n (Nat.le_refl _) (Nat.le_refl _)) ?_
    intro j
    induction j with
    | zero =>
      intro lo x c3 k k1 k2
      rw [show intsD lo 0 = [] from rfl, forW_nil]
      try walk_at "pl"
      rw [fmod_pos (by decide)]
      refine ⟨by decide, ?_⟩
      have := hR (x % 100000000000000000000000000000) k (by omega) k1 (by omega)
      exact this
    | succ j ih =>
      intro lo x c3 k k1 k2
      rw [intsD_succ, forW_cons]
      try walk_at "pl"
      refine ⟨⟨by decide, by decide, by decide⟩, MulOk.right (by decide) (by decide), ⟨by decide, by decide, by decide⟩, ?_⟩
      refine callS_of _ _ ⟨_, rfl, by decide, by decide, by omega, fun z z0 z1 => ?_⟩
      obtain ⟨y, rfl⟩ := Int.eq_ofNat_of_zero_le z0
      try walk_at "pl"
      exact ih _ (x * 1000000 + y) _ (k + 1) (by omega) (by omega)
/-- a part of a lot, as a tuple or a dict -/
def Holds (d : D) (l : List Nat) : Prop := d = .tup (nD l) ∨ ∃ ks es, d = .dic ks es ∧ ks.length = es.length ∧ ∀ k : Key, k ∈ ks ↔ ∃ y ∈ l, k = .inl (y : Int)
theorem in_holds {d : D} {l : List Nat} {x : Nat} (h : Holds d l) {Q : D → Prop} (q : Q (.bl (decide (x ∈ l)))) : oInN false (.int (x : Int)) d Q := by
  rcases h with rfl | ⟨ks, es, rfl, hl, hk⟩
  · rw [o_in_tup]
    exact ⟨rfl, flat_nD l, by rw [if_neg (by decide), mem_nD]; exact q⟩
  · rw [o_in_dic]
    exact ⟨hl, by rw [if_neg (by decide), hask_iff hk]; exact q⟩
theorem notin_holds {d : D} {l : List Nat} {x : Nat} (h : Holds d l) {Q : D → Prop} (q : Q (.bl (!decide (x ∈ l)))) : oInN true (.int (x : Int)) d Q := by
  rcases h with rfl | ⟨ks, es, rfl, hl, hk⟩
  · rw [o_in_tup]
    exact ⟨rfl, flat_nD l, by rw [if_pos rfl, mem_nD]; exact q⟩
  · rw [o_in_dic]
    exact ⟨hl, by rw [if_pos rfl, hask_iff hk]; exact q⟩
def S_law_in : PL.Spec := fun ds n R => ∃ (d0 d3 : D) (l : Lot) (x : Nat), ds = [.tup [d0, .int l.first, .int l.lap, d3], .int x] ∧ Holds d0 l.few ∧ Holds d3 l.rests ∧ 0 < l.lap ∧ R (.bl (l.has x)) n
theorem ok_law_in {f : Addr} {fd : FuncData} (F : Fun K "_law_in" "_law_in" s_law_in f fd) (hm : mg "_law_in" = some (.ref f)) (B : BI mg) : FnC P w K mg base 1 "_law_in" ["_law_lot_here", "_law_length"] [] S_law_in := by
  refine fnc F hm sc_law_in (F.binds (ps := ["_law_lot_here", "_law_length"]) fun _ _ _ _ _ _ us hl => match us, hl with | [_, _], _ => rfl)
    (fun q hq => nomatch hq) ?_ (fun cdv A outer s H E hgd hr => ⟨_, (dss_one (ds_ret (SE.of (de_or (de_in hr.units (se_var (pv 1)) (SE.of (de_sub_ix (se_var (pv 0)) (SE.of de_int)))) (de_one (de_and (de_ge (se_var (pv 1)) (SE.of (de_sub_ix (se_var (pv 0)) (SE.of de_int)))) (de_one (de_in hr.units (SE.of (de_mod (se_var (pv 1)) (SE.of (de_sub_ix (se_var (pv 0)) (SE.of de_int))))) (SE.of (de_sub_ix (se_var (pv 0)) (SE.of de_int))))))))))), ?_⟩)
  · rintro ds n R ⟨d0, d3, l, x, rfl, _⟩; rfl
  · rintro ds n R ⟨d0, d3, l, x, rfl, h0, h3, hl, hR⟩
    walk_at "pl"
    have hb : l.has x = (decide (x ∈ l.few) || (decide (l.first ≤ x) && decide (x % l.lap ∈ l.rests))) := rfl
    rw [hb] at hR
    refine in_holds h0 ?_
    cases c : decide (x ∈ l.few) with
    | true =>
      rw [c] at hR
      exact hR
    | false =>
      rw [c, Bool.false_or] at hR
      try walk_at "pl"
      by_cases c2 : l.first ≤ x
      · rw [if_pos (by omega), fmod_pos (by omega)]
        rw [decide_eq_true c2, Bool.true_and] at hR
        exact ⟨by omega, in_holds (x := x % l.lap) h3 hR⟩
      · rw [if_neg (by omega)]
        rw [decide_eq_false c2, Bool.false_and] at hR
        exact hR
theorem pairs_z (l : List Nat) : asPairs ((nD l).map fun d => .tup [d, .int 0]) = some (l.map fun (x : Nat) => ((.inl (x : Int) : Key), D.int 0)) := by
  induction l with
  | nil => rfl
  | cons x l ih =>
    show (match dKey (.int (x : Int)), asPairs ((nD l).map fun d => .tup [d, .int 0]) with | some j, some ps => some ((j, D.int 0) :: ps) | _, _ => none) = _
    rw [ih]
    rfl
theorem holds_z (l : List Nat) : Holds (.dic (mergeD (l.map fun (x : Nat) => ((.inl (x : Int) : Key), D.int 0)) [] []).1 (mergeD (l.map fun (x : Nat) => ((.inl (x : Int) : Key), D.int 0)) [] []).2) l := by
  refine .inr ⟨_, _, rfl, mergeD_len _ _ _ rfl, fun k => ?_⟩
  rw [mergeD_keys]
  simp only [List.not_mem_nil, false_or, List.map_map, List.mem_map]
  constructor
  · rintro ⟨y, hy, rfl⟩; exact ⟨y, hy, rfl⟩
  · rintro ⟨y, hy, rfl⟩; exact ⟨y, hy, rfl⟩
theorem okL {l : List Nat} (h1 : l.length ≤ 7000) (h2 : ∀ x ∈ l, x ≤ 100000) : okD (.lst (nD l)) := okD_lst.mpr (okD_tup.mp (okN h1 h2))
theorem okNilL : okD (.lst []) := okL (l := []) (by decide) (fun _ h => nomatch h)
theorem eq_nilL (l : List Nat) : eqD (.lst (nD l)) (.lst []) = decide (l = []) := by
  cases l with
  | nil => rfl
  | cons x l => rfl
theorem ints_range' (lo k : Nat) : intsD (lo : Int) k = nD (List.range' lo k) := by
  unfold intsD nD
  rw [List.range'_eq_map_range, List.map_map]
  refine List.map_congr_left fun x _ => ?_
  show D.int ((lo : Int) + (x : Int)) = D.int ((lo + x : Nat) : Int)
  rw [Int.natCast_add]
theorem nD_filter (p : Nat → Bool) (l : List Nat) : (nD l).filter (fun d => p (intOf d).toNat) = nD (l.filter p) := by
  unfold nD
  rw [List.filter_map]
  rfl
theorem ints_range0 (k : Nat) : intsD 0 k = nD (List.range k) := by
  unfold intsD nD
  refine List.map_congr_left fun x _ => ?_
  show D.int (0 + (x : Int)) = D.int (x : Int)
  rw [Int.zero_add]
/-- the look of the law at a step -/
def lookS (l : Lot) (s : Nat) : Bool := decide (l.rests.filter (fun r => !decide ((r + s) % l.lap ∈ l.rests)) = [])
theorem look_per {l : Lot} (h : l.Ok) {s : Nat} (hs : s ∣ l.lap) : lookS l s = true ↔ Per l.P s := by
  rw [← per_iff h.lap h.per hs]
  unfold lookS
  rw [decide_eq_true_iff, List.filter_eq_nil_iff, ← h.rs]
  constructor
  · intro q r hr
    have := q r hr
    simpa using this
  · intro q r hr
    have := q r hr
    simpa using this
theorem okBl {b : Bool} : okD (.bl b) := ⟨rfl, by simp only [depD]; decide, by simp only [bulkD]; decide⟩
theorem eq_bl (a b : Bool) : eqD (.bl a) (.bl b) = decide (a = b) := by cases a <;> cases b <;> rfl
def S_law_least : PL.Spec := fun ds n R => ∃ l m : Lot, ds = [.tup (ptD l)] ∧ Fit l ∧ LeastOf l m ∧ R (.tup (ptD m)) n
theorem ok_law_least {f : Addr} {fd : FuncData} (F : Fun K "_law_least" "_law_least" s_law_least f fd) (hm : mg "_law_least" = some (.ref f)) (B : BI mg) (h_law_in : FnC P w K mg base 1 "_law_in" ["_law_lot_here", "_law_length"] [] S_law_in) : FnC P w K mg base 2 "_law_least" ["_law_told_here"] [] S_law_least := by
  refine fnc F hm sc_law_least (F.binds (ps := ["_law_told_here"]) fun _ _ _ _ _ _ us hl => match us, hl with | [_], _ => rfl)
    (fun q hq => nomatch hq) ?_ (fun cdv A outer s H E hgd hr => ⟨_, (dss_cons (ds_asg (de_tup (da_cons (DE.of (fe_dict B.dict rfl (da_cons (DE.of (fe_lc (own := [("_law_k", 9)]) (di_iter (de_sub_ix (se_var (pv 0)) (SE.of de_int))) sc_law_least.nd (blkOk_by (N := ["_law_told_here", "_law_lot_here", "_law_some", "_law_around", "_law_first", "_law_few", "_law_rests", "_law_step", "_law_length", "_law_k"]) (sc := defScope s_law_least) (own := [("_law_k", 9)]) (by decide +kernel)) (by decide) (fun _ _ _ _ _ => (dg_name (pg_name (i := 9) sc_law_least.nd rfl (Or.inl rfl)))) (fun _ _ _ _ _ => dts_nil) (fun _ _ _ _ _ => (de_tup (da_cons (de_var (pv 9)) (da_cons de_int da_nil)))))) da_nil))) (da_cons (de_sub_ix (se_var (pv 0)) (SE.of de_int)) (da_cons (de_sub_ix (se_var (pv 0)) (SE.of de_int)) (da_cons (DE.of (fe_dict B.dict rfl (da_cons (DE.of (fe_lc (own := [("_law_k", 9)]) (di_iter (de_sub_ix (se_var (pv 0)) (SE.of de_int))) sc_law_least.nd (blkOk_by (N := ["_law_told_here", "_law_lot_here", "_law_some", "_law_around", "_law_first", "_law_few", "_law_rests", "_law_step", "_law_length", "_law_k"]) (sc := defScope s_law_least) (own := [("_law_k", 9)]) (by decide +kernel)) (by decide) (fun _ _ _ _ _ => (dg_name (pg_name (i := 9) sc_law_least.nd rfl (Or.inl rfl)))) (fun _ _ _ _ _ => dts_nil) (fun _ _ _ _ _ => (de_tup (da_cons (de_var (pv 9)) (da_cons de_int da_nil)))))) da_nil))) da_nil))))) (dg_name (pg_name (i := 1) sc_law_least.nd rfl (Or.inr rfl))))
      (dss_cons (ds_setF (ds_setLc (i := 2) (own := [("_law_step", 7)]) (di_range2 B.range rfl (da_cons de_int (da_cons (de_add (SE.of (de_sub_ix (se_var (pv 1)) (SE.of de_int))) (SE.of de_int)) da_nil))) sc_law_least.nd (blkOk_by (N := ["_law_told_here", "_law_lot_here", "_law_some", "_law_around", "_law_first", "_law_few", "_law_rests", "_law_step", "_law_length", "_law_k"]) (sc := defScope s_law_least) (own := [("_law_step", 7)]) (by decide +kernel)) (by decide) (fun _ _ _ _ _ => (dg_name (pg_name (i := 7) sc_law_least.nd rfl (Or.inl rfl)))) (fun _ _ _ _ _ => (dts_one (dt_eq hr.units (SE.of (de_mod (SE.of (de_sub_ix (se_var (pv 1)) (SE.of de_int))) (se_var (pv 7)))) (SE.of de_int)))) (fun _ _ _ _ _ => (de_var (pv 7))) (sw_true rfl rfl rfl (by decide +kernel))))
      (dss_cons (ds_setF (ds_setLc (i := 2) (own := [("_law_step", 7)]) (di_iter (de_var (pv 2))) sc_law_least.nd (blkOk_by (N := ["_law_told_here", "_law_lot_here", "_law_some", "_law_around", "_law_first", "_law_few", "_law_rests", "_law_step", "_law_length", "_law_k"]) (sc := defScope s_law_least) (own := [("_law_step", 7)]) (by decide +kernel)) (by decide) (fun _ _ _ _ _ => (dg_name (pg_name (i := 7) sc_law_least.nd rfl (Or.inr rfl)))) (fun _ _ _ _ _ => (dts_one (dt_eq hr.units (SE.of (DE.of (fe_lc (own := [("_law_k", 9)]) (di_iter (de_sub_ix (se_var (pv 0)) (SE.of de_int))) sc_law_least.nd (blkOk_by (N := ["_law_told_here", "_law_lot_here", "_law_some", "_law_around", "_law_first", "_law_few", "_law_rests", "_law_step", "_law_length", "_law_k"]) (own := [("_law_k", 9)]) (by kernel_rfl)) (by decide) (fun _ _ _ _ _ => (dg_name (pg_name (i := 9) sc_law_least.nd rfl (Or.inl rfl)))) (fun _ _ _ _ _ => (dts_one (dt_notin hr.units (SE.of (de_mod (SE.of (de_add (se_var (pv 9)) (se_var (pv 7)))) (SE.of (de_sub_ix (se_var (pv 1)) (SE.of de_int))))) (SE.of (de_sub_ix (se_var (pv 1)) (SE.of de_int)))))) (fun _ _ _ _ _ => (de_var (pv 9)))))) (SE.of (DE.of (fe_lst da_nil)))))) (fun _ _ _ _ _ => (de_var (pv 7))) (sw_true rfl rfl rfl (by decide +kernel))))
      (dss_cons (ds_asg (de_tup (da_cons (de_sub_ix (se_var (pv 2)) (SE.of de_int)) (da_cons (de_sub_ix (se_var (pv 1)) (SE.of de_int)) da_nil))) (dg_tup (m := 2) (dgs_cons (dg_name (pg_name (i := 3) sc_law_least.nd rfl (Or.inr rfl))) (dgs_cons (dg_name (pg_name (i := 4) sc_law_least.nd rfl (Or.inl rfl))) dgs_nil))))
      (dss_cons (ds_while PassesOwn.never (dt_w (dw_and (dt_gt (se_var (pv 4)) (SE.of de_int)) (dw_and1 (dt_eq hr.units (SE.of (de_fnC h_law_in hgd hr (da_cons (de_var (pv 1)) (da_cons (de_sub (se_var (pv 4)) (SE.of de_int)) da_nil)))) (SE.of (de_fnC h_law_in hgd hr (da_cons (de_var (pv 1)) (da_cons (de_add (SE.of (de_sub (se_var (pv 4)) (SE.of de_int))) (se_var (pv 3))) da_nil)))))))) (dss_one (ds_asg (de_sub (se_var (pv 4)) (SE.of de_int)) (dg_name (pg_name (i := 4) sc_law_least.nd rfl (Or.inl rfl))))))
      (dss_cons (ds_asg (de_tuple B.tuple rfl (sa_cons (SE.of (DE.of (fe_lc (own := [("_law_length", 8)]) (di_range1 B.range rfl (da_cons (de_var (pv 4)) da_nil)) sc_law_least.nd (blkOk_by (N := ["_law_told_here", "_law_lot_here", "_law_some", "_law_around", "_law_first", "_law_few", "_law_rests", "_law_step", "_law_length", "_law_k"]) (sc := defScope s_law_least) (own := [("_law_length", 8)]) (by decide +kernel)) (by decide) (fun _ _ _ _ _ => (dg_name (pg_name (i := 8) sc_law_least.nd rfl (Or.inl rfl)))) (fun _ _ _ _ _ => (dts_one (dt_val (de_fnC h_law_in hgd hr (da_cons (de_var (pv 1)) (da_cons (de_var (pv 8)) da_nil)))))) (fun _ _ _ _ _ => (de_var (pv 8)))))) sa_nil)) (dg_name (pg_name (i := 5) sc_law_least.nd rfl (Or.inl rfl))))
      (dss_cons (ds_setF (ds_setLc (i := 6) (own := [("_law_length", 8)]) (di_range2 B.range rfl (da_cons (de_var (pv 4)) (da_cons (de_add (se_var (pv 4)) (se_var (pv 3))) da_nil))) sc_law_least.nd (blkOk_by (N := ["_law_told_here", "_law_lot_here", "_law_some", "_law_around", "_law_first", "_law_few", "_law_rests", "_law_step", "_law_length", "_law_k"]) (sc := defScope s_law_least) (own := [("_law_length", 8)]) (by decide +kernel)) (by decide) (fun _ _ _ _ _ => (dg_name (pg_name (i := 8) sc_law_least.nd rfl (Or.inl rfl)))) (fun _ _ _ _ _ => (dts_one (dt_val (de_fnC h_law_in hgd hr (da_cons (de_var (pv 1)) (da_cons (de_var (pv 8)) da_nil)))))) (fun _ _ _ _ _ => (de_mod (se_var (pv 8)) (se_var (pv 3)))) (sw_true rfl rfl rfl (by decide +kernel))))
      (dss_one (ds_ret (SE.of (de_tup (da_cons (de_var (pv 5)) (da_cons (de_var (pv 4)) (da_cons (de_var (pv 3)) (da_cons (de_tuple B.tuple rfl (sa_cons (SE.of (DE.of (fe_sorted B.sorted rfl (sa_cons (se_var (pv 6)) sa_nil)))) sa_nil)) da_nil))))))))))))))), ?_⟩)
  · rintro ds n R ⟨l, m, rfl, _⟩; rfl
  · rintro ds n R ⟨l, m, rfl, hl, hm, hR⟩
    have b0 : ∀ x ∈ l.few, x < l.first := hl.ok.lt
    have b1 : ∀ x ∈ l.rests, x < l.lap := hl.ok.rlt
    have f1 := hl.first
    have f2 := hl.few
    have f3 := hl.lap
    have f0 := hl.ok.lap
    have f4 : l.rests.length ≤ l.lap := by rw [hl.ok.rs]; exact rs_len _ _
    have mp := hm.lap.pos
    have ml : m.lap ≤ l.lap := Nat.le_of_dvd f0 hm.lap.dv
    unfold ptD
    walk_at "pl"
    refine ⟨by rw [nD_len]; omega, lcW_m (fun d => .tup [d, .int 0]) (fun d hd acc L hL => ?_) ?_⟩
    · walk_at "pl"
      exact hL
    rw [pairs_z]
    refine ⟨by rw [nD_len]; omega, lcW_m (fun d => .tup [d, .int 0]) (fun d hd acc L hL => ?_) ?_⟩
    · walk_at "pl"
      exact hL
    rw [pairs_z]
    have H0 := holds_z l.few
    have H3 := holds_z l.rests
    try walk_at "pl"
    generalize D.dic (mergeD (l.few.map fun (x : Nat) => ((.inl (x : Int) : Key), D.int 0)) [] []).1 (mergeD (l.few.map fun (x : Nat) => ((.inl (x : Int) : Key), D.int 0)) [] []).2 = d0 at H0 ⊢
    generalize D.dic (mergeD (l.rests.map fun (x : Nat) => ((.inl (x : Int) : Key), D.int 0)) [] []).1 (mergeD (l.rests.map fun (x : Nat) => ((.inl (x : Int) : Key), D.int 0)) [] []).2 = d3 at H3 ⊢
    rw [show ((l.lap : Int) + 1 - 1).toNat = l.lap by omega, show intsD 1 l.lap = nD (List.range' 1 l.lap) from ints_range' 1 l.lap]
    refine ⟨⟨by omega, by omega⟩, by rw [nD_len, List.length_range']; omega, ?_⟩
    refine lcW_flt (fun d => decide (l.lap % (intOf d).toNat = 0)) id _ _ (fun d hd acc L hL => ?_) ?_
    · obtain ⟨x, hx, rfl⟩ := List.mem_map.mp hd
      rw [List.mem_range'_1] at hx
      have hL : (if decide (l.lap % x = 0) = true then L (acc ++ [.int (x : Int)]) n else L acc n) := hL
      walk_at "pl"
      rw [fmod_pos (by omega)]
      refine ⟨by omega, ?_⟩
      by_cases c : l.lap % x = 0
      · rw [if_pos (by exact_mod_cast c)]
        rw [if_pos (decide_eq_true c)] at hL
        exact hL
      · rw [if_neg (by exact_mod_cast c)]
        rw [if_neg (fun z => c (of_decide_eq_true z))] at hL
        exact hL
    rw [List.nil_append, List.map_id, nD_filter (fun s => decide (l.lap % s = 0))]
    have hs1 : ((List.range' 1 l.lap).filter fun s => decide (l.lap % s = 0)).length ≤ l.lap := by
      have := List.length_filter_le (fun s => decide (l.lap % s = 0)) (List.range' 1 l.lap)
      rwa [List.length_range'] at this
    try walk_at "pl"
    refine ⟨by rw [nD_len]; omega, ?_⟩
    refine lcW_flt (fun d => lookS l (intOf d).toNat) id _ _ (fun d hd acc L hL => ?_) ?_
    · obtain ⟨x, hx, rfl⟩ := List.mem_map.mp hd
      have hL : (if lookS l x = true then L (acc ++ [.int (x : Int)]) n else L acc n) := hL
      walk_at "pl"
      refine ⟨by rw [nD_len]; omega, ?_⟩
      refine lcW_flt (fun d => !decide (((intOf d).toNat + x) % l.lap ∈ l.rests)) id _ _ (fun d hd acc2 L2 hL2 => ?_) ?_
      · obtain ⟨r, hr, rfl⟩ := List.mem_map.mp hd
        have hL2 : (if (!decide ((r + x) % l.lap ∈ l.rests)) = true then L2 (acc2 ++ [.int (r : Int)]) n else L2 acc2 n) := hL2
        try walk_at "pl"
        rw [fmod_pos (by omega)]
        refine ⟨by omega, notin_holds (x := (r + x) % l.lap) H3 ?_⟩
        exact hL2
      · rw [List.nil_append, List.map_id, nD_filter (fun r => !decide ((r + x) % l.lap ∈ l.rests))]
        have hs2 : (l.rests.filter fun r => !decide ((r + x) % l.lap ∈ l.rests)).length ≤ l.rests.length := List.length_filter_le _ _
        refine oEq_D (okL (by omega) fun y hy => by have := b1 y (List.mem_filter.mp hy).1; omega) okNilL ?_
        rw [eq_nilL]
        exact hL
    obtain ⟨t, ht⟩ := steps_head f0 hm.lap (lookS l) (fun s hs => look_per hl.ok hs)
    rw [List.nil_append, List.map_id, nD_filter (lookS l), ht, show nD (m.lap :: t) = .int (m.lap : Nat) :: nD t from rfl]
    try walk_at "pl"
    refine ⟨fun k ρ nn => ∃ f : Nat, k = f ∧ ρ = [Cell.sh (D.tup [D.tup (nD l.few), D.int l.first, D.int l.lap, D.tup (nD l.rests)]), Cell.sh (D.tup [d0, D.int l.first, D.int l.lap, d3]), Cell.sh (D.lst (.int (m.lap : Nat) :: nD t)), Cell.sh (.int m.lap), Cell.sh (.int f), Cell.any, Cell.any, Cell.any, Cell.any, Cell.any] ∧ nn = n ∧ Dn l.few l.P l.first f, ⟨l.first, l.first, rfl, rfl, rfl, Dn.start _ _ _⟩, ?_⟩
    rintro k ρ nn ⟨f, ek, rfl, en, hd⟩
    subst ek en
    have hf1 := hd.le
    walk_at "pl"
    refine (fun (leave : IsF l.few l.P l.first k → ?Z) => ?use) ?_
    case use =>
      by_cases c : k = 0
      · rw [if_neg (by omega)]
        exact leave (hd.isF (.inl c))
      · rw [if_pos (by omega), show (k : Int) - 1 = ((k - 1 : Nat) : Int) by omega]
        refine callS_of _ _ ⟨d0, d3, l, k - 1, rfl, H0, H3, f0, ?_⟩
        try walk_at "pl"
        rw [show (k : Int) - 1 + (m.lap : Int) = ((k - 1 + m.lap : Nat) : Int) by omega]
        refine callS_of _ _ ⟨d0, d3, l, k - 1 + m.lap, rfl, H0, H3, f0, ?_⟩
        refine oEq_D okBl okBl ?_
        rw [eq_bl]
        have hlk := hd.look hl.ok.lt hm.lap.per mp (by omega)
        try walk_at "pl"
        by_cases c2 : (k - 1 ∈ l.few ↔ l.P (k - 1) = true)
        · rw [if_pos (show l.has (k - 1) = l.has (k - 1 + m.lap) from hlk.mpr c2)]
          exact ⟨k - 1, by omega, k - 1, rfl, by rw [show (k : Int) - 1 = ((k - 1 : Nat) : Int) by omega], hd.step (by omega) c2⟩
        · rw [if_neg (show ¬ (l.has (k - 1) = l.has (k - 1 + m.lap)) from fun z => c2 (hlk.mp z))]
          exact leave (hd.isF (.inr c2))
    intro hF
    have e : k = m.first := hF.uniq hm.first
    subst e
    try walk_at "pl"
    rw [Int.toNat_natCast, show ((m.first : Int) + (m.lap : Int) - (m.first : Int)).toNat = m.lap by omega, ints_range0, ints_range']
    refine ⟨by omega, by omega, by rw [nD_len, List.length_range]; omega, ?_⟩
    refine lcW_flt (fun d => l.has (intOf d).toNat) id _ _ (fun d hd acc L hL => ?_) ?_
    · obtain ⟨x, hx, rfl⟩ := List.mem_map.mp hd
      try walk_at "pl"
      exact callS_of _ _ ⟨d0, d3, l, x, rfl, H0, H3, f0, hL⟩
    rw [List.nil_append, List.map_id, nD_filter l.has, law_few hl.ok hm]
    refine ⟨by omega, by rw [nD_len, List.length_range']; omega, ?_⟩
    refine lcW_flt (fun d => l.has (intOf d).toNat) (fun d => .int (intOf d % (m.lap : Int))) _ _ (fun d hd acc L hL => ?_) ?_
    · obtain ⟨x, hx, rfl⟩ := List.mem_map.mp hd
      have hL : (if l.has x = true then L (acc ++ [.int ((x : Int) % (m.lap : Int))]) nn else L acc nn) := hL
      try walk_at "pl"
      refine callS_of _ _ ⟨d0, d3, l, x, rfl, H0, H3, f0, ?_⟩
      try walk_at "pl"
      by_cases c : l.has x = true
      · rw [if_pos c] at hL ⊢
        rw [fmod_pos (by omega)]
        exact ⟨by omega, hL⟩
      · rw [if_neg c] at hL ⊢
        exact hL
    have e5 : ([] : List D) ++ ((nD (List.range' m.first m.lap)).filter fun d => l.has (intOf d).toNat).map (fun d => D.int (intOf d % (m.lap : Int))) = (((List.range' m.first m.lap).filter l.has).map fun x => ((x % m.lap : Nat) : Int)).map D.int := by
      rw [List.nil_append, nD_filter l.has]
      unfold nD
      rw [List.map_map, List.map_map]
      rfl
    rw [e5, asInts_map]
    intro ys hp hs
    have h0 : ∀ y ∈ ys, 0 ≤ y := fun y hy => by
      obtain ⟨x, _, e⟩ := List.mem_map.mp (hp.mem_iff.mp hy)
      omega
    have hp2 : (ys.map Int.toNat).Perm (((List.range' m.first m.lap).filter l.has).map (· % m.lap)) := by
      have := hp.map Int.toNat
      rw [List.map_map] at this
      refine this.trans (List.Perm.of_eq (List.map_congr_left fun x _ => ?_))
      show ((x % m.lap : Nat) : Int).toNat = _
      rw [Int.toNat_natCast]
    have hs2 : (ys.map Int.toNat).Pairwise (· ≤ ·) := by
      rw [List.pairwise_map]
      refine hs.imp_of_mem fun {a b} ha hb hab => ?_
      have := h0 a ha
      have := h0 b hb
      omega
    have hn : (((List.range' m.first m.lap).filter l.has).map (· % m.lap)).Nodup := (res_nodup m.first m.lap).sublist ((List.filter_sublist).map _)
    have e6 : ys.map Int.toNat = m.rests := law_rests hl.ok hm (sorted_lt hp2 hn hs2) fun y => by
      rw [hp2.mem_iff, List.mem_map]
      constructor
      · rintro ⟨x, hx, rfl⟩
        obtain ⟨q1, q2⟩ := List.mem_filter.mp hx
        rw [List.mem_range'_1] at q1
        exact ⟨x, q1.1, q1.2, q2, rfl⟩
      · rintro ⟨x, q1, q2, q3, rfl⟩
        exact ⟨x, List.mem_filter.mpr ⟨List.mem_range'_1.mpr ⟨q1, q2⟩, q3⟩, rfl⟩
    rw [nats_of h0, e6]
    try walk_at "pl"
    exact hR
def S_law_told : PL.Spec := fun ds n R => ∃ m : Lot, ds = [insD m] ∧ R (.tup (ptD m)) n
theorem ok_law_told {f : Addr} {fd : FuncData} (F : Fun K "_law_told" "_law_told" s_law_told f fd) (hm : mg "_law_told" = some (.ref f)) (B : BI mg) (T_Lengths : ClsT K 3) : FnC P w K mg base 1 "_law_told" ["_law_lot_here"] [] S_law_told := by
  refine fnc F hm sc_law_told (F.binds (ps := ["_law_lot_here"]) fun _ _ _ _ _ _ us hl => match us, hl with | [_], _ => rfl)
    (fun q hq => nomatch hq) ?_ (fun cdv A outer s H E hgd hr => ⟨_, (dss_one (ds_ret (SE.of (de_tup (da_cons (de_fld (k := 3) (i := 3) T_Lengths (se_var (pv 0))) (da_cons (de_fld (k := 3) (i := 2) T_Lengths (se_var (pv 0))) (da_cons (de_fld (k := 3) (i := 0) T_Lengths (se_var (pv 0))) (da_cons (de_fld (k := 3) (i := 1) T_Lengths (se_var (pv 0))) da_nil)))))))), ?_⟩)
  · rintro ds n R ⟨m, rfl, _⟩; rfl
  · rintro ds n R ⟨m, rfl, hR⟩
    unfold insD
    walk_at "pl"
    exact hR
end
end K58

set_option pp.maxSteps 1500
namespace K58
open PySem PySem.Spec L2 PL M58
local macro_rules | `(tactic| walk_at "pl") => `(tactic| simp (maxSteps := 3000000) (dsimp := false) only [env0, envI, nxI, ↓q_srtsc, ↓q_inm, ↓q_eqm, ↓q_isia, ↓q_isic, ↓q_gfset, ↓asBl_f, ↓asBl_t, ↓q_gseq, ↓q_dk, ↓q_dict, ↓o_dictp, ↓q_lrg1, ↓q_lrg2, ↓q_zips, ↓o_zips, ↓o_maxl, List.map_cons, List.map_nil, List.length_cons, List.length_nil, List.replicate_succ, List.replicate_zero, List.cons_append, List.nil_append, List.getElem?_cons_zero, List.getElem?_cons_succ, List.set_cons_zero, List.set_cons_succ, Nat.reduceAdd, Nat.reduceSub, Nat.zero_add, ↓q_seq, ↓q_rowsD, ↓q_srt3, ↓q_rev2, ↓o_augs_int, ↓o_augd_int, ↓q_fnx, ↓q_fnxk, ↓q_raise, ↓q_try, ↓q_xf, ↓q_xis, ↓o_xf, ↓q_dsk, ↓q_pa0, ↓q_pa, ↓q_fld, ↓q_fset, ↓q_srt, ↓q_srtset, ↓q_lset, ↓q_laug, ↓q_extend, ↓o_lta_int, ↓o_lta_str, ↓o_lta_tup, ↓o_ins, ↓q_dc, ↓q_goals, ↓o_rep, kl_nil, kl_cons, Nat.reduceMod, ↓o_augm_int, ↓o_ltI, ↓q_dget, ↓q_dgett, ↓q_int, ↓q_dput, ↓q_dputt, ↓q_mnil, ↓q_msh, ↓q_mown, ↓q_parm, ↓q_rd3, ↓q_chain, ↓o_in_lst, ↓o_in_tup, ↓o_in_dic, ↓o_isn, ↓o_mult, ↓o_suma_lstI, ↓o_suma_tupI, ↓o_sumI, ↓o_lend, ↓o_tuplel, k_int, k_str, setC_cons, setC_nil, ↓q_next, ↓q_brk, ↓q_cnt, ↓q_ret, ↓q_ifs, ↓q_drop, ↓q_asg, ↓q_own, ↓q_par, ↓q_par3, ↓q_append, ↓q_for, ↓q_gset, ↓q_gtup, ↓q_gcons, ↓q_gnil, ↓q_aug, ↓q_var, ↓q_rd, ↓q_c, ↓q_bin, ↓q_un, ↓q_b, ↓q_not, ↓q_and, ↓q_or, ↓q_andv, ↓q_orv, ↓q_notv, ↓q_if, ↓q_nil, ↓q_cons, ↓q_consts, ↓q_tup, ↓q_lst, ↓q_sl, ↓q_no, ↓q_part, ↓q_rev, ↓q_call, ↓q_fn, ↓q_fnb, ↓q_fnk, ↓q_isi, ↓q_join, ↓q_lc, ↓q_yes, ↓q_r1, ↓q_r2, ↓q_iter, ↓q_enum, ↓q_enumk, ↓q_zip, ↓q_frz, ↓q_fmt, ↓q_js0, ↓q_js, ↓o_add_int, ↓o_add_str, ↓o_add_lst, ↓o_add_tup, ↓o_sub, ↓o_mul_int, ↓o_mul_lst, ↓o_mod, ↓o_div, ↓o_pow, ↓o_lt_int, ↓o_lt_str, ↓o_le, ↓o_gt, ↓o_ge, ↓o_ix_lst, ↓o_ix_tup, ↓o_ix_str, ↓o_sl_lst, ↓o_sl_tup, ↓o_sl_str, ↓o_len_lst, ↓o_len_tup, ↓o_len_str, ↓o_int_int, ↓o_int_bl, ↓o_int_str, ↓o_list_lst, ↓o_list_tup, ↓o_tuple_lst, ↓o_tuple_tup, ↓o_abs, ↓o_max, ↓o_min, ↓o_str, ↓o_all, ↓o_any, ↓o_aug_int, ↓i_lst, ↓i_tup, ↓i_str, ↓w_nil, ↓w_cons, ↓pk_cons', ↓pk_nil', ↓oEq_int, ↓oNe_int, ↓oEq_str, ↓oNe_str, noOwn, List.all_cons, List.all_nil, Bool.and_self, Bool.and_true, Bool.true_and, b_nd, decide_eq_true_eq, true_and, and_true, atI0, atI1, atI2, atI3, ↓ty_non, ↓ty_bl, ↓ty_int, ↓ty_str, ↓ty_lst, ↓ty_tup, ↓ty_dic, kk_NoneType_bool, kk_NoneType_int, kk_NoneType_str, kk_NoneType_list, kk_NoneType_tuple, kk_NoneType_dict, kk_bool_bool, kk_bool_int, kk_bool_str, kk_bool_list, kk_bool_tuple, kk_bool_dict, kk_int_bool, kk_int_int, kk_int_str, kk_int_list, kk_int_tuple, kk_int_dict, kk_str_bool, kk_str_int, kk_str_str, kk_str_list, kk_str_tuple, kk_str_dict, kk_list_bool, kk_list_int, kk_list_str, kk_list_list, kk_list_tuple, kk_list_dict, kk_tuple_bool, kk_tuple_int, kk_tuple_str, kk_tuple_list, kk_tuple_tuple, kk_tuple_dict, kk_dict_bool, kk_dict_int, kk_dict_str, kk_dict_list, kk_dict_tuple, kk_dict_dict, Bool.not_true, Bool.not_false, Bool.false_eq_true, if_true, if_false, ↓reduceIte, Bool.not_eq_true, List.isEmpty_nil, List.isEmpty_cons, not_true_eq_false, not_false_eq_true, decide_true, decide_false, List.flatten_cons, List.flatten_nil, sizeLine_val, Nat.reduceLeDiff, Nat.reduceLT, Nat.reduceMul, Int.reducePow, Int.reduceNeg, Int.reduceLE, Int.reduceLT, Int.reduceToNat, Int.reduceAdd, Int.reduceSub, Int.reduceMul])
local macro_rules | `(tactic| walk_at "dep") => `(tactic| (simp only [depD, depL, bulkD, bulkL]; first | decide | omega | (rw [← Nat.ble_eq]; rfl)))
local macro_rules | `(tactic| walk_at "nice") => `(tactic| (simp only [niceD, niceL, Bool.and_true, Bool.true_and, Bool.and_eq_true, decide_eq_true_eq, and_true, true_and]))
section
variable {P : Program} {w : World} {K : PySem.W.Frag} {mg : Str → Option Value} {base : Heap}
/-- a comprehension with draws: some of the items, each costs at most c draws -/
theorem lcW_sub {t : TPG} {tt : TPT} {te : TPE} {ρ : PEnv} (c : Nat) {R : List D → Nat → Prop} {ds : List D} {n : Nat} (h : ∀ d ∈ ds, ∀ (m : Nat) (acc : List D) (L : List D → Nat → Prop), n ≤ m → m + c ≤ n + c * ds.length → (∀ k, m ≤ k → k ≤ m + c → L (acc ++ [d]) k) → (∀ k, m ≤ k → k ≤ m + c → L acc k) → t d ρ m fun ρ1 n1 => tt ρ1 n1 fun b n2 => if b = true then te ρ1 n2 fun y n3 => L (acc ++ [y]) n3 else L acc n2)
    (hR : ∀ (ys : List D) (k : Nat), ys.Sublist ds → n ≤ k → k ≤ n + c * ds.length → R ys k) : lcW t tt te ds [] ρ n R := by
  have go : ∀ (es pre acc : List D) (m : Nat), pre ++ es = ds → acc.Sublist pre → n ≤ m → m ≤ n + c * pre.length → lcW t tt te es acc ρ m R := by
    intro es
    induction es with
    | nil =>
      intro pre acc m e hs h1 h2
      rw [List.append_nil] at e
      subst e
      exact hR acc m hs h1 h2
    | cons d es ih =>
      intro pre acc m e hs h1 h2
      rw [lcW_cons]
      have hl : pre.length + 1 + es.length = ds.length := by rw [← e]; simp; omega
      have hb : c * (pre.length + 1) ≤ c * ds.length := Nat.mul_le_mul_left _ (by omega)
      rw [Nat.mul_succ] at hb
      have hd : d ∈ ds := by rw [← e]; simp
      have e2 : (pre ++ [d]) ++ es = ds := by rw [← e]; simp
      have l2 : (pre ++ [d]).length = pre.length + 1 := by simp
      refine h d hd m acc (fun acc n => lcW t tt te es acc ρ n R) h1 (by omega) (fun k k1 k2 => ?_) fun k k1 k2 => ?_
      · exact ih (pre ++ [d]) (acc ++ [d]) k e2 (hs.append (List.Sublist.refl _)) (by omega) (by rw [l2, Nat.mul_succ]; omega)
      · exact ih (pre ++ [d]) acc k e2 (by simpa using hs.append (List.nil_sublist [d])) (by omega) (by rw [l2, Nat.mul_succ]; omega)
  exact go ds [] [] n rfl (List.Sublist.refl _) (Nat.le_refl _) (by simp)
theorem sub_nD {ys : List D} {l : List Nat} (h : ys.Sublist (nD l)) : ∃ l', ys = nD l' ∧ l'.Sublist l := by
  obtain ⟨l', h1, h2⟩ := List.sublist_map_iff.mp h
  exact ⟨l', h2, h1⟩
structure Small (l : Lot) : Prop where
  ok : l.Ok
  first : l.first ≤ 14
  lap : l.lap ≤ 12
theorem few_len {l : Lot} (h : l.Ok) : l.few.length ≤ l.first := by
  have hsub : l.few = (List.range l.first).filter fun x => decide (x ∈ l.few) := pw_ext h.few (List.Pairwise.filter _ List.pairwise_lt_range) fun x => by
    rw [List.mem_filter, List.mem_range, decide_eq_true_iff]
    exact ⟨fun z => ⟨h.lt x z, z⟩, fun z => z.2⟩
  rw [hsub]
  have := List.length_filter_le (fun x => decide (x ∈ l.few)) (List.range l.first)
  rwa [List.length_range] at this
theorem rests_len {l : Lot} (h : l.Ok) : l.rests.length ≤ l.lap := by rw [h.rs]; exact rs_len _ _
theorem Small.fit {l : Lot} (h : Small l) : Fit l := ⟨h.ok, by have := h.first; omega, by have := few_len h.ok; have := h.first; omega, by have := h.lap; omega⟩
def S_law_lot : PL.Spec := fun ds n R => ds = [.res] ∧ n + 60 ≤ lim ∧ ∀ (l : Lot) (k : Nat), Small l → n ≤ k → k ≤ n + 60 → R (.tup (ptD l)) k
theorem ok_law_lot {f : Addr} {fd : FuncData} (F : Fun K "_law_lot" "_law_lot" s_law_lot f fd) (hm : mg "_law_lot" = some (.ref f)) (B : BI mg) (h_law_draw : FnC P w K mg base 1 "_law_draw" ["_law_deck_here", "_law_many"] [] S_law_draw) (h_law_pick : FnC P w K mg base 2 "_law_pick" ["_law_deck_here", "_law_some"] [] S_law_pick) : FnC P w K mg base 3 "_law_lot" ["_law_deck_here"] [] S_law_lot := by
  refine fnc F hm sc_law_lot (F.binds (ps := ["_law_deck_here"]) fun _ _ _ _ _ _ us hl => match us, hl with | [_], _ => rfl)
    (fun q hq => nomatch hq) ?_ (fun cdv A outer s H E hgd hr => ⟨_, (dss_cons (ds_asg (de_tup (da_cons (de_fnC h_law_pick hgd hr (da_cons (de_var (pv 0)) (da_cons (DE.of (fe_lst (da_consts rfl))) da_nil))) (da_cons (de_fnC h_law_pick hgd hr (da_cons (de_var (pv 0)) (da_cons (DE.of (fe_lst (da_consts rfl))) da_nil))) da_nil))) (dg_tup (m := 2) (dgs_cons (dg_name (pg_name (i := 1) sc_law_lot.nd rfl (Or.inl rfl))) (dgs_cons (dg_name (pg_name (i := 2) sc_law_lot.nd rfl (Or.inr rfl))) dgs_nil))))
      (dss_cons (ds_asg (de_tuple B.tuple rfl (sa_cons (SE.of (DE.of (fe_lc (own := [("_law_rest", 7)]) (di_range1 B.range rfl (da_cons (de_var (pv 2)) da_nil)) sc_law_lot.nd (blkOk_by (N := ["_law_deck_here", "_law_first", "_law_around", "_law_rests", "_law_way", "_law_few", "_law_length", "_law_rest"]) (sc := defScope s_law_lot) (own := [("_law_rest", 7)]) (by decide +kernel)) (by decide) (fun _ _ _ _ _ => (dg_name (pg_name (i := 7) sc_law_lot.nd rfl (Or.inl rfl)))) (fun _ _ _ _ _ => (dts_one (dt_gt (SE.of (de_fnC h_law_draw hgd (hr.mono (by decide)) (da_cons (de_var (pv 0)) (da_cons de_int da_nil)))) (SE.of de_int)))) (fun _ _ _ _ _ => (de_var (pv 7)))))) sa_nil)) (dg_name (pg_name (i := 3) sc_law_lot.nd rfl (Or.inr rfl))))
      (dss_cons (ds_asg (de_fnC h_law_draw hgd (hr.mono (by decide)) (da_cons (de_var (pv 0)) (da_cons de_int da_nil))) (dg_name (pg_name (i := 4) sc_law_lot.nd rfl (Or.inr rfl))))
      (dss_cons (ds_if (dt_eq hr.units (se_var (pv 4)) (SE.of de_int)) (dss_one (ds_asg (de_tuple B.tuple rfl (sa_cons (SE.of (DE.of (fe_lc (own := [("_law_rest", 7)]) (di_range1 B.range rfl (da_cons (de_var (pv 2)) da_nil)) sc_law_lot.nd (blkOk_by (N := ["_law_deck_here", "_law_first", "_law_around", "_law_rests", "_law_way", "_law_few", "_law_length", "_law_rest"]) (sc := defScope s_law_lot) (own := [("_law_rest", 7)]) (by decide +kernel)) (by decide) (fun _ _ _ _ _ => (dg_name (pg_name (i := 7) sc_law_lot.nd rfl (Or.inl rfl)))) (fun _ _ _ _ _ => (dts_one (dt_w (dw_or (dt_eq hr.units (SE.of (de_mod (se_var (pv 7)) (SE.of de_int))) (SE.of de_int)) (dw_or1 (dt_gt (SE.of (de_mod (se_var (pv 2)) (SE.of de_int))) (SE.of de_int))))))) (fun _ _ _ _ _ => (de_var (pv 7)))))) sa_nil)) (dg_name (pg_name (i := 3) sc_law_lot.nd rfl (Or.inr rfl))))) dss_nil)
      (dss_cons (ds_setF (ds_setLc (i := 5) (own := [("_law_length", 6)]) (di_range1 B.range rfl (da_cons (de_var (pv 1)) da_nil)) sc_law_lot.nd (blkOk_by (N := ["_law_deck_here", "_law_first", "_law_around", "_law_rests", "_law_way", "_law_few", "_law_length", "_law_rest"]) (sc := defScope s_law_lot) (own := [("_law_length", 6)]) (by decide +kernel)) (by decide) (fun _ _ _ _ _ => (dg_name (pg_name (i := 6) sc_law_lot.nd rfl (Or.inl rfl)))) (fun _ _ _ _ _ => (dts_one (dt_w (dw_or (dt_in hr.units (SE.of (de_mod (se_var (pv 6)) (se_var (pv 2)))) (se_var (pv 3))) (dw_or1 (dt_w (dw_and (dt_gt (se_var (pv 4)) (SE.of de_int)) (dw_and1 (dt_eq hr.units (SE.of (de_fnC h_law_draw hgd (hr.mono (by decide)) (da_cons (de_var (pv 0)) (da_cons de_int da_nil)))) (SE.of de_int)))))))))) (fun _ _ _ _ _ => (de_var (pv 6))) (sw_true rfl rfl rfl (by decide +kernel))))
      (dss_cons (ds_setF (ds_setLc (i := 5) (own := [("_law_length", 6)]) (di_iter (de_var (pv 5))) sc_law_lot.nd (blkOk_by (N := ["_law_deck_here", "_law_first", "_law_around", "_law_rests", "_law_way", "_law_few", "_law_length", "_law_rest"]) (sc := defScope s_law_lot) (own := [("_law_length", 6)]) (by decide +kernel)) (by decide) (fun _ _ _ _ _ => (dg_name (pg_name (i := 6) sc_law_lot.nd rfl (Or.inl rfl)))) (fun _ _ _ _ _ => (dts_one (dt_w (dw_or (dt_lt (se_var (pv 4)) (SE.of de_int)) (dw_or1 (dt_eq hr.units (SE.of (de_fnC h_law_draw hgd (hr.mono (by decide)) (da_cons (de_var (pv 0)) (da_cons de_int da_nil)))) (SE.of de_int))))))) (fun _ _ _ _ _ => (de_var (pv 6))) (sw_true rfl rfl rfl (by decide +kernel))))
      (dss_one (ds_ret (SE.of (de_tup (da_cons (de_tuple B.tuple rfl (sa_cons (se_var (pv 5)) sa_nil)) (da_cons (de_var (pv 1)) (da_cons (de_var (pv 2)) (da_cons (de_var (pv 3)) da_nil)))))))))))))), ?_⟩)
  · rintro ds n R ⟨rfl, _⟩; rfl
  · rintro ds n R ⟨rfl, hn, hR⟩
    walk_at "pl"
    refine callS_of _ _ ⟨_, rfl, by omega, by decide, by decide, fun d hd => ?_⟩
    obtain ⟨first, rfl, hf0⟩ : ∃ f : Nat, d = .int f ∧ f ≤ 14 := by
      simp only [List.mem_cons, List.not_mem_nil, or_false] at hd
      rcases hd with rfl | rfl | rfl | rfl | rfl | rfl | rfl
      · exact ⟨0, rfl, by decide⟩
      · exact ⟨0, rfl, by decide⟩
      · exact ⟨1, rfl, by decide⟩
      · exact ⟨2, rfl, by decide⟩
      · exact ⟨5, rfl, by decide⟩
      · exact ⟨9, rfl, by decide⟩
      · exact ⟨14, rfl, by decide⟩
    try walk_at "pl"
    refine callS_of _ _ ⟨_, rfl, by omega, by decide, by decide, fun d hd => ?_⟩
    obtain ⟨lap, rfl, hl0, hl⟩ : ∃ f : Nat, d = .int f ∧ 0 < f ∧ f ≤ 12 := by
      simp only [List.mem_cons, List.not_mem_nil, or_false] at hd
      rcases hd with rfl | rfl | rfl | rfl | rfl | rfl | rfl | rfl
      · exact ⟨1, rfl, by decide, by decide⟩
      · exact ⟨2, rfl, by decide, by decide⟩
      · exact ⟨3, rfl, by decide, by decide⟩
      · exact ⟨4, rfl, by decide, by decide⟩
      · exact ⟨6, rfl, by decide, by decide⟩
      · exact ⟨12, rfl, by decide, by decide⟩
      · exact ⟨5, rfl, by decide, by decide⟩
      · exact ⟨1, rfl, by decide, by decide⟩
    try walk_at "pl"
    rw [Int.toNat_natCast, ints_range0]
    refine ⟨by omega, by omega, by rw [nD_len, List.length_range]; omega, ?_⟩
    refine lcW_sub 1 (fun d hd m acc L m1 m2 h1 h2 => ?_) fun ys k hs k1 k2 => ?_
    · rw [nD_len, List.length_range] at m2
      try walk_at "pl"
      refine callS_of _ _ ⟨_, rfl, by decide, by decide, by omega, fun z z0 z1 => ?_⟩
      try walk_at "pl"
      by_cases c : 0 < z
      · rw [if_pos c]; exact h1 _ (by omega) (Nat.le_refl _)
      · rw [if_neg c]; exact h2 _ (by omega) (Nat.le_refl _)
    rw [nD_len, List.length_range] at k2
    obtain ⟨rests, rfl, hrs⟩ := sub_nD hs
    try walk_at "pl"
    refine callS_of _ _ ⟨_, rfl, by decide, by decide, by omega, fun way w0 w1 => ?_⟩
    try walk_at "pl"
    simp only [Int.toNat_natCast, ints_range0]
    have tail : ∀ (rs : List Nat) (k : Nat), rs.Sublist (List.range lap) → n ≤ k → k ≤ n + 16 → lcW (gSet 6) (pOr (pB (pBin (oInN false) (pBin oMod (pRd 6) (pRd 2)) (pRd 3))) (pAnd (pB (pBin oGt (pRd 4) (pC (D.int 0)))) (pB (pBin oEq (pFn S_law_draw (pCons (pVar 0) (pCons (pC (D.int 3)) pNil))) (pC (D.int 0)))))) (pVar 6) (nD (List.range first)) [] [Cell.sh D.res, Cell.sh (D.int first), Cell.sh (D.int lap), Cell.sh (D.tup (nD rs)), Cell.sh (D.int way), Cell.any, Cell.any, Cell.any] k (fun acc k => acc.length ≤ 16777216 ∧ lcW (gSet 6) (pOr (pB (pBin oLt (pRd 4) (pC (D.int 2)))) (pB (pBin oEq (pFn S_law_draw (pCons (pVar 0) (pCons (pC (D.int 2)) pNil))) (pC (D.int 0))))) (pVar 6) acc [] [Cell.sh D.res, Cell.sh (D.int first), Cell.sh (D.int lap), Cell.sh (D.tup (nD rs)), Cell.sh (D.int way), Cell.sh (D.lst acc), Cell.any, Cell.any] k fun acc k => R (D.tup [D.tup acc, D.int first, D.int lap, D.tup (nD rs)]) k) := by
      intro rs k hrs k1 k2
      refine lcW_sub 1 (fun d hd m acc L m1 m2 h1 h2 => ?_) fun ys k' hs q1 q2 => ?_
      · rw [nD_len, List.length_range] at m2
        obtain ⟨x, hx, rfl⟩ := List.mem_map.mp hd
        try walk_at "pl"
        rw [fmod_pos (by omega), ← Int.natCast_emod, mem_nD]
        refine ⟨by omega, rfl, flat_nD rs, ?_⟩
        simp only [decide_eq_true_iff]
        by_cases c1 : x % lap ∈ rs
        · rw [if_pos c1]
          exact h1 _ (Nat.le_refl _) (by omega)
        · rw [if_neg c1]
          by_cases c2 : 0 < way
          · rw [if_pos c2]
            refine callS_of _ _ ⟨_, rfl, by decide, by decide, by omega, fun z z0 z1 => ?_⟩
            try walk_at "pl"
            by_cases c3 : z = 0
            · rw [if_pos c3]; exact h1 _ (by omega) (Nat.le_refl _)
            · rw [if_neg c3]; exact h2 _ (by omega) (Nat.le_refl _)
          · rw [if_neg c2]
            exact h2 _ (Nat.le_refl _) (by omega)
      rw [nD_len, List.length_range] at q2
      obtain ⟨few1, rfl, hf1⟩ := sub_nD hs
      have hl1 := hf1.length_le
      rw [List.length_range] at hl1
      try walk_at "pl"
      refine ⟨by rw [nD_len]; omega, ?_⟩
      refine lcW_sub 1 (fun d hd m acc L m1 m2 h1 h2 => ?_) fun ys k3 hs q3 q4 => ?_
      · rw [nD_len] at m2
        try walk_at "pl"
        by_cases c2 : way < 2
        · rw [if_pos c2]
          exact h1 _ (Nat.le_refl _) (by omega)
        · rw [if_neg c2]
          refine callS_of _ _ ⟨_, rfl, by decide, by decide, by omega, fun z z0 z1 => ?_⟩
          try walk_at "pl"
          by_cases c3 : z = 0
          · rw [if_pos c3]; exact h1 _ (by omega) (Nat.le_refl _)
          · rw [if_neg c3]; exact h2 _ (by omega) (Nat.le_refl _)
      rw [nD_len] at q4
      obtain ⟨few, rfl, hf⟩ := sub_nD hs
      have hfr := hf.trans hf1
      try walk_at "pl"
      refine hR ⟨few, first, lap, rs⟩ k3 ⟨⟨List.Pairwise.sublist hfr List.pairwise_lt_range, fun x hx => List.mem_range.mp (hfr.subset hx), hl0, List.Pairwise.sublist hrs List.pairwise_lt_range, fun x hx => List.mem_range.mp (hrs.subset hx)⟩, hf0, hl⟩ (by omega) (by omega)
    by_cases c : way = 0
    · rw [if_pos c]
      refine ⟨by omega, by omega, by rw [nD_len, List.length_range]; omega, ?_⟩
      refine lcW_flt (fun d => decide ((intOf d).toNat % 2 = 0) || decide (0 < lap % 2)) id _ _ (fun d hd acc L hL => ?_) ?_
      · obtain ⟨x, hx, rfl⟩ := List.mem_map.mp hd
        have hL : (if (decide (x % 2 = 0) || decide (0 < lap % 2)) = true then L (acc ++ [.int (x : Int)]) (k + 1) else L acc (k + 1)) := hL
        try walk_at "pl"
        rw [fmod_pos (by decide), fmod_pos (by decide)]
        refine ⟨by decide, ?_⟩
        by_cases c1 : x % 2 = 0
        · rw [if_pos (by omega)]
          rw [decide_eq_true c1] at hL
          exact hL
        · rw [if_neg (by omega)]
          rw [decide_eq_false c1, Bool.false_or] at hL
          refine ⟨by decide, ?_⟩
          by_cases c2 : 0 < lap % 2
          · rw [if_pos (by omega)]
            rw [decide_eq_true c2] at hL
            exact hL
          · rw [if_neg (by omega)]
            rw [decide_eq_false c2] at hL
            exact hL
      rw [List.nil_append, List.map_id, nD_filter (fun x => decide (x % 2 = 0) || decide (0 < lap % 2))]
      try walk_at "pl"
      refine ⟨by omega, by omega, by rw [nD_len, List.length_range]; omega, ?_⟩
      have hs2 : ((List.range lap).filter fun x => decide (x % 2 = 0) || decide (0 < lap % 2)).Sublist (List.range lap) := List.filter_sublist
      have hk2 : n ≤ k + 1 ∧ k + 1 ≤ n + 16 := ⟨by omega, by omega⟩
      generalize ((List.range lap).filter fun x => decide (x % 2 = 0) || decide (0 < lap % 2)) = rs2 at hs2 ⊢
      generalize k + 1 = k9 at hk2 ⊢
      exact tail rs2 k9 hs2 hk2.1 hk2.2
    · rw [if_neg c]
      refine ⟨by omega, by omega, by rw [nD_len, List.length_range]; omega, ?_⟩
      have hk2 : n ≤ k + 1 ∧ k + 1 ≤ n + 16 := ⟨by omega, by omega⟩
      generalize k + 1 = k9 at hk2 ⊢
      exact tail rests k9 hrs hk2.1 hk2.2
def S_law_heard : PL.Spec := fun ds n R => ∃ (ps : List D) (way : Int) (d : D), ds = [d, .int way] ∧ (d = .tup ps ∨ d = .lst ps) ∧ ((∃ l m : Lot, ps = ptD l ∧ Fit l ∧ LeastOf l m ∧ R (.tup (ptD m)) n) ∨ (∃ (d0 d1 d2 d3 : D) (s : Str), ps = [d0, d1, d2, d3] ∧ argD d0 ∧ argD d1 ∧ argD d2 ∧ argD d3 ∧ badPart d0 d1 d2 d3 = some s ∧ R (.lst [.str "bad", .str s, .bl true]) n))
theorem ok_law_heard {f : Addr} {fd : FuncData} (F : Fun K "_law_heard" "_law_heard" s_law_heard f fd) (hm : mg "_law_heard" = some (.ref f)) (B : BI mg) {CC_15 CS_15 : Addr} (CT_15 : CatT K mg 15 CC_15 CS_15) (h_Lengths : MkCX P w K mg base 3 "Lengths" 3 "self" ["few", "first", "around", "rests"] [(["rests", "around", "first", "few"], [3, 2, 1, 0])] S_Lengths_init) (h_law_told : FnC P w K mg base 1 "_law_told" ["_law_lot_here"] [] S_law_told) : FnC P w K mg base 5 "_law_heard" ["_law_parts", "_law_way"] [] S_law_heard := by
  refine fnc F hm sc_law_heard (F.binds (ps := ["_law_parts", "_law_way"]) fun _ _ _ _ _ _ us hl => match us, hl with | [_, _], _ => rfl)
    (fun q hq => nomatch hq) ?_ (fun cdv A outer s H E hgd hr => ⟨_, (dss_cons (ds_asg de_non (dg_name (pg_name (i := 2) sc_law_heard.nd rfl (Or.inl rfl))))
      (dss_cons (ds_asg (de_var (pv 0)) (dg_seq (m := 4) (dgs_cons (dg_name (pg_name (i := 3) sc_law_heard.nd rfl (Or.inl rfl))) (dgs_cons (dg_name (pg_name (i := 4) sc_law_heard.nd rfl (Or.inl rfl))) (dgs_cons (dg_name (pg_name (i := 5) sc_law_heard.nd rfl (Or.inl rfl))) (dgs_cons (dg_name (pg_name (i := 6) sc_law_heard.nd rfl (Or.inl rfl))) dgs_nil))))))
      (dss_cons (ds_try (k0 := 15) (i := 7) CT_15.cat rfl rfl sc_law_heard.nd rfl rfl (fun g ew pn xe hK tk hp => (lss_one (ls_if (dt_eq hr.units (se_var (pv 1)) (SE.of de_int)) hK (lss_one (ls_asg hK (le_fnC h_law_told hK hgd (hr.mono (by decide)) (la_cons (le_makeXK (ks := ["rests", "around", "first", "few"]) (ix := [3, 2, 1, 0]) h_Lengths (.head _) hK tk hgd hr (lk_q (dk_cons (de_var (pv 6)) (dk_cons (de_var (pv 5)) (dk_cons (de_var (pv 4)) (dk_cons (de_var (pv 3)) dk_nil)))) hK)) la_nil)) (dg_name (pg_name (i := 2) sc_law_heard.nd rfl (Or.inl rfl))))) (lss_one (ls_asg hK (le_fnC h_law_told hK hgd (hr.mono (by decide)) (la_cons (le_makeX h_Lengths hK tk hgd hr (la_cons (le_q (de_var (pv 3)) hK) (la_cons (le_q (de_var (pv 4)) hK) (la_cons (le_q (de_var (pv 5)) hK) (la_cons (le_q (de_var (pv 6)) hK) la_nil))))) la_nil)) (dg_name (pg_name (i := 2) sc_law_heard.nd rfl (Or.inl rfl))))))))
      (fun a da oe pn hz hfl => (dss_one (ds_asg (DE.of (fe_lst (da_cons de_str (da_cons (de_xf (k := 15) CT_15.xf CT_15.no hz hfl (de_var (pv 7))) (da_cons (de_xis (k := 15) CT_15.sup CT_15.gS B.isinstance hz hfl (de_var (pv 7))) da_nil))))) (dg_name (pg_name (i := 2) sc_law_heard.nd rfl (Or.inl rfl)))))))
      (dss_one (ds_ret (se_var (pv 2))))))), ?_⟩)
  · rintro ds n R ⟨ps, way, d, rfl, _⟩; rfl
  · rintro ds n R ⟨ps, way, d, rfl, hd, hps⟩
    rcases hd with rfl | rfl
    all_goals
      walk_at "pl"
      rcases hps with ⟨l, m, rfl, hl, hm, hR⟩ | ⟨d0, d1, d2, d3, s, rfl, h0, h1, h2, h3, hb, hR⟩
      · unfold ptD
        refine ⟨rfl, ?_⟩
        try walk_at "pl"
        by_cases c : way = 1
        · rw [if_pos c]
          refine .inl ⟨l, m, rfl, hl, hm, ?_⟩
          walk_at "pl"
          refine (show S_law_told _ _ _ from ⟨m, rfl, ?_⟩)
          try walk_at "pl"
          exact hR
        · rw [if_neg c]
          refine callY_of _ _ (.inl ⟨l, m, rfl, hl, hm, ?_⟩)
          refine (show S_law_told _ _ _ from ⟨m, rfl, ?_⟩)
          try walk_at "pl"
          exact hR
      · refine ⟨rfl, ?_⟩
        try walk_at "pl"
        by_cases c : way = 1
        · rw [if_pos c]
          refine .inr ⟨d0, d1, d2, d3, s, rfl, h0, h1, h2, h3, hb, rfl, fun a da => ?_⟩
          try walk_at "pl"
          exact hR
        · rw [if_neg c]
          refine callY_of _ _ (.inr ⟨d0, d1, d2, d3, s, rfl, h0, h1, h2, h3, hb, rfl, fun a da => ?_⟩)
          try walk_at "pl"
          exact hR
/-- what the law puts in the place of a part -/
def oddAt (l : Lot) (at' : Nat) (d : D) : Prop := argD d ∧ ∀ d0 d1 d2 d3 : D, True
end
end K58

set_option pp.maxSteps 1500
namespace K58
open PySem PySem.Spec L2 PL M58
local macro_rules | `(tactic| walk_at "pl") => `(tactic| simp (maxSteps := 3000000) (dsimp := false) only [env0, envI, nxI, ↓q_srtsc, ↓q_inm, ↓q_eqm, ↓q_isia, ↓q_isic, ↓q_gfset, ↓asBl_f, ↓asBl_t, ↓q_gseq, ↓q_dk, ↓q_dict, ↓o_dictp, ↓q_lrg1, ↓q_lrg2, ↓q_zips, ↓o_zips, ↓o_maxl, List.map_cons, List.map_nil, List.length_cons, List.length_nil, List.replicate_succ, List.replicate_zero, List.cons_append, List.nil_append, List.getElem?_cons_zero, List.getElem?_cons_succ, List.set_cons_zero, List.set_cons_succ, Nat.reduceAdd, Nat.reduceSub, Nat.zero_add, ↓q_seq, ↓q_rowsD, ↓q_srt3, ↓q_rev2, ↓o_augs_int, ↓o_augd_int, ↓q_fnx, ↓q_fnxk, ↓q_raise, ↓q_try, ↓q_xf, ↓q_xis, ↓o_xf, ↓q_dsk, ↓q_pa0, ↓q_pa, ↓q_fld, ↓q_fset, ↓q_srt, ↓q_srtset, ↓q_lset, ↓q_laug, ↓q_extend, ↓o_lta_int, ↓o_lta_str, ↓o_lta_tup, ↓o_ins, ↓q_dc, ↓q_goals, ↓o_rep, kl_nil, kl_cons, Nat.reduceMod, ↓o_augm_int, ↓o_ltI, ↓q_dget, ↓q_dgett, ↓q_int, ↓q_dput, ↓q_dputt, ↓q_mnil, ↓q_msh, ↓q_mown, ↓q_parm, ↓q_rd3, ↓q_chain, ↓o_in_lst, ↓o_in_tup, ↓o_in_dic, ↓o_isn, ↓o_mult, ↓o_suma_lstI, ↓o_suma_tupI, ↓o_sumI, ↓o_lend, ↓o_tuplel, k_int, k_str, setC_cons, setC_nil, ↓q_next, ↓q_brk, ↓q_cnt, ↓q_ret, ↓q_ifs, ↓q_drop, ↓q_asg, ↓q_own, ↓q_par, ↓q_par3, ↓q_append, ↓q_for, ↓q_gset, ↓q_gtup, ↓q_gcons, ↓q_gnil, ↓q_aug, ↓q_var, ↓q_rd, ↓q_c, ↓q_bin, ↓q_un, ↓q_b, ↓q_not, ↓q_and, ↓q_or, ↓q_andv, ↓q_orv, ↓q_notv, ↓q_if, ↓q_nil, ↓q_cons, ↓q_consts, ↓q_tup, ↓q_lst, ↓q_sl, ↓q_no, ↓q_part, ↓q_rev, ↓q_call, ↓q_fn, ↓q_fnb, ↓q_fnk, ↓q_isi, ↓q_join, ↓q_lc, ↓q_yes, ↓q_r1, ↓q_r2, ↓q_iter, ↓q_enum, ↓q_enumk, ↓q_zip, ↓q_frz, ↓q_fmt, ↓q_js0, ↓q_js, ↓o_add_int, ↓o_add_str, ↓o_add_lst, ↓o_add_tup, ↓o_sub, ↓o_mul_int, ↓o_mul_lst, ↓o_mod, ↓o_div, ↓o_pow, ↓o_lt_int, ↓o_lt_str, ↓o_le, ↓o_gt, ↓o_ge, ↓o_ix_lst, ↓o_ix_tup, ↓o_ix_str, ↓o_sl_lst, ↓o_sl_tup, ↓o_sl_str, ↓o_len_lst, ↓o_len_tup, ↓o_len_str, ↓o_int_int, ↓o_int_bl, ↓o_int_str, ↓o_list_lst, ↓o_list_tup, ↓o_tuple_lst, ↓o_tuple_tup, ↓o_abs, ↓o_max, ↓o_min, ↓o_str, ↓o_all, ↓o_any, ↓o_aug_int, ↓i_lst, ↓i_tup, ↓i_str, ↓w_nil, ↓w_cons, ↓pk_cons', ↓pk_nil', ↓oEq_int, ↓oNe_int, ↓oEq_str, ↓oNe_str, noOwn, List.all_cons, List.all_nil, Bool.and_self, Bool.and_true, Bool.true_and, b_nd, decide_eq_true_eq, true_and, and_true, atI0, atI1, atI2, atI3, ↓ty_non, ↓ty_bl, ↓ty_int, ↓ty_str, ↓ty_lst, ↓ty_tup, ↓ty_dic, kk_NoneType_bool, kk_NoneType_int, kk_NoneType_str, kk_NoneType_list, kk_NoneType_tuple, kk_NoneType_dict, kk_bool_bool, kk_bool_int, kk_bool_str, kk_bool_list, kk_bool_tuple, kk_bool_dict, kk_int_bool, kk_int_int, kk_int_str, kk_int_list, kk_int_tuple, kk_int_dict, kk_str_bool, kk_str_int, kk_str_str, kk_str_list, kk_str_tuple, kk_str_dict, kk_list_bool, kk_list_int, kk_list_str, kk_list_list, kk_list_tuple, kk_list_dict, kk_tuple_bool, kk_tuple_int, kk_tuple_str, kk_tuple_list, kk_tuple_tuple, kk_tuple_dict, kk_dict_bool, kk_dict_int, kk_dict_str, kk_dict_list, kk_dict_tuple, kk_dict_dict, Bool.not_true, Bool.not_false, Bool.false_eq_true, if_true, if_false, ↓reduceIte, Bool.not_eq_true, List.isEmpty_nil, List.isEmpty_cons, not_true_eq_false, not_false_eq_true, decide_true, decide_false, List.flatten_cons, List.flatten_nil, sizeLine_val, Nat.reduceLeDiff, Nat.reduceLT, Nat.reduceMul, Int.reducePow, Int.reduceNeg, Int.reduceLE, Int.reduceLT, Int.reduceToNat, Int.reduceAdd, Int.reduceSub, Int.reduceMul])
local macro_rules | `(tactic| walk_at "dep") => `(tactic| (simp only [depD, depL, bulkD, bulkL]; first | decide | omega | (rw [← Nat.ble_eq]; rfl)))
local macro_rules | `(tactic| walk_at "nice") => `(tactic| (simp only [niceD, niceL, Bool.and_true, Bool.true_and, Bool.and_eq_true, decide_eq_true_eq, and_true, true_and]))
section
variable {P : Program} {w : World} {K : PySem.W.Frag} {mg : Str → Option Value} {base : Heap}
/-- what is none in the place of a part -/
def Bad (l : Lot) (k : Nat) (d : D) : Prop := argD d ∧ match k with
  | 0 => ascB d = false
  | 1 => (isInt d && decide (0 ≤ intOf d) && endB (.tup (nD l.few)) (intOf d)) = false
  | 2 => (isInt d && decide (1 ≤ intOf d)) = false
  | _ => (ascB d && endB d l.lap) = false
theorem arg_of {d : D} (h : plainD d = true) (h2 : ∀ xs, d ≠ .tup xs) : argD d := ⟨h, fun xs e => absurd e (h2 xs)⟩
theorem arg_tup {xs : List D} (h1 : xs.length ≤ 5000) (h2 : xs.all plainD = true) (h3 : okD (.tup xs)) : argD (.tup xs) := ⟨rfl, fun ys e => by cases e; exact ⟨h1, h2, h3⟩⟩
theorem ok_ints {xs : List Int} (h1 : xs.length ≤ 5000) (h2 : ∀ x ∈ xs, x.natAbs ≤ 10 ^ 20) : okD (.tup (xs.map .int)) := by
  have key : niceL (xs.map .int) = true ∧ depL (xs.map D.int) ≤ 1 ∧ bulkL (xs.map D.int) = xs.length := by
    clear h1
    induction xs with
    | nil => exact ⟨rfl, by decide, rfl⟩
    | cons x xs ih =>
      obtain ⟨i1, i2, i3⟩ := ih fun y hy => h2 y (List.mem_cons_of_mem _ hy)
      have hx : x.natAbs < 2 ^ 1900 := Nat.lt_of_le_of_lt (h2 x List.mem_cons_self) (Nat.lt_of_lt_of_le (show 10 ^ 20 < 2 ^ 100 by decide) (Nat.pow_le_pow_right (by decide) (by decide)))
      rw [List.map_cons]
      refine ⟨?_, ?_, ?_⟩
      · simp only [niceL, niceD, i1, Bool.and_true]; exact decide_eq_true hx
      · simp only [depL, depD]; omega
      · simp only [bulkL, bulkD, i3, List.length_cons]; omega
  refine okD_tup.mpr ⟨key.1, by omega, by omega⟩
theorem arg_ints (xs : List Int) (h1 : xs.length ≤ 5000) (h2 : ∀ x ∈ xs, x.natAbs ≤ 10 ^ 20) : argD (.tup (xs.map .int)) := arg_tup (by rw [List.length_map]; exact h1) (List.all_eq_true.mpr fun d hd => by
  obtain ⟨x, _, rfl⟩ := List.mem_map.mp hd
  rfl) (ok_ints h1 h2)
theorem okT {d : D} (h1 : niceD d = true) (h2 : (decide (depD d ≤ 60)) = true) (h3 : (decide (bulkD d ≤ 8000)) = true) : okD d := ⟨h1, of_decide_eq_true h2, of_decide_eq_true h3⟩
theorem bad0 {l : Lot} : ∀ d ∈ [D.non, D.int 0, D.lst [], D.tup [D.int (-1)], D.tup [D.int 1, D.int 0], D.tup [D.int 0, D.int 0], D.tup [D.bl true], D.tup [D.str (Str.ofString "0")], D.tup [D.non], D.dic [] [], D.tup [D.tup [D.int 0]], D.lst (nD l.few ++ [D.int 1]), D.str (Str.ofString "01")], Bad l 0 d := by
  intro d hd
  simp only [List.mem_cons, List.not_mem_nil, or_false] at hd
  rcases hd with rfl | rfl | rfl | rfl | rfl | rfl | rfl | rfl | rfl | rfl | rfl | rfl | rfl
  · exact ⟨arg_of rfl (fun _ h => nomatch h), rfl⟩
  · exact ⟨arg_of rfl (fun _ h => nomatch h), rfl⟩
  · exact ⟨arg_of rfl (fun _ h => nomatch h), rfl⟩
  · exact ⟨arg_ints [-1] (by decide) (by decide), rfl⟩
  · exact ⟨arg_ints [1, 0] (by decide) (by decide), rfl⟩
  · exact ⟨arg_ints [0, 0] (by decide) (by decide), rfl⟩
  · exact ⟨arg_tup (by decide) rfl (okT (by decide +kernel) (by decide +kernel) (by decide +kernel)), rfl⟩
  · exact ⟨arg_tup (by decide) rfl (okT (by decide +kernel) (by decide +kernel) (by decide +kernel)), rfl⟩
  · exact ⟨arg_tup (by decide) rfl (okT (by decide +kernel) (by decide +kernel) (by decide +kernel)), rfl⟩
  · exact ⟨arg_of rfl (fun _ h => nomatch h), rfl⟩
  · exact ⟨arg_tup (by decide) rfl (okT (by decide +kernel) (by decide +kernel) (by decide +kernel)), rfl⟩
  · exact ⟨arg_of rfl (fun _ h => nomatch h), rfl⟩
  · exact ⟨arg_of rfl (fun _ h => nomatch h), rfl⟩
theorem bad1 {l : Lot} {t : D} (ht : t = .bl false ∨ ∃ m : Int, t = .int m ∧ endB (.tup (nD l.few)) m = false) : ∀ d ∈ [D.non, D.int (-1), D.bl true, D.str (Str.ofString "0"), D.tup [], D.lst [D.int 0], t, D.int (-100000000000000000000), D.tup [D.int 0]], Bad l 1 d := by
  intro d hd
  simp only [List.mem_cons, List.not_mem_nil, or_false] at hd
  rcases hd with rfl | rfl | rfl | rfl | rfl | rfl | rfl | rfl | rfl
  · exact ⟨arg_of rfl (fun _ h => nomatch h), rfl⟩
  · exact ⟨arg_of rfl (fun _ h => nomatch h), rfl⟩
  · exact ⟨arg_of rfl (fun _ h => nomatch h), rfl⟩
  · exact ⟨arg_of rfl (fun _ h => nomatch h), rfl⟩
  · exact ⟨arg_ints [] (by decide) (by decide), rfl⟩
  · exact ⟨arg_of rfl (fun _ h => nomatch h), rfl⟩
  · rcases ht with rfl | ⟨m, rfl, hm⟩
    · exact ⟨arg_of rfl (fun _ h => nomatch h), rfl⟩
    · refine ⟨arg_of rfl (fun _ h => nomatch h), ?_⟩
      show (true && decide (0 ≤ m) && endB (.tup (nD l.few)) m) = false
      rw [hm, Bool.and_false]
  · exact ⟨arg_of rfl (fun _ h => nomatch h), rfl⟩
  · exact ⟨arg_ints [0] (by decide) (by decide), rfl⟩
theorem bad2 {l : Lot} : ∀ d ∈ [D.non, D.int 0, D.int (-1), D.bl true, D.str (Str.ofString "1"), D.tup [D.int 1], D.lst [], D.bl false, D.int (-100000000000000000000)], Bad l 2 d := by
  intro d hd
  simp only [List.mem_cons, List.not_mem_nil, or_false] at hd
  rcases hd with rfl | rfl | rfl | rfl | rfl | rfl | rfl | rfl | rfl
  · exact ⟨arg_of rfl (fun _ h => nomatch h), rfl⟩
  · exact ⟨arg_of rfl (fun _ h => nomatch h), rfl⟩
  · exact ⟨arg_of rfl (fun _ h => nomatch h), rfl⟩
  · exact ⟨arg_of rfl (fun _ h => nomatch h), rfl⟩
  · exact ⟨arg_of rfl (fun _ h => nomatch h), rfl⟩
  · exact ⟨arg_ints [1] (by decide) (by decide), rfl⟩
  · exact ⟨arg_of rfl (fun _ h => nomatch h), rfl⟩
  · exact ⟨arg_of rfl (fun _ h => nomatch h), rfl⟩
  · exact ⟨arg_of rfl (fun _ h => nomatch h), rfl⟩
theorem bad3 {l : Lot} (hl : Fit l) : ∀ d ∈ [D.non, D.int 0, D.lst [], D.tup [D.int (-1)], D.tup [D.int ↑l.lap], D.tup [D.int 0, D.int 0], D.tup [D.bl true], D.tup [D.str (Str.ofString "0")], D.tup [D.int (↑l.lap - 1), D.int 0, D.int 0], D.dic [] [], D.tup [D.int 100000000000000000000]], Bad l 3 d := by
  have hp : (l.lap : Int) ≤ 3000 := by have := hl.lap; omega
  intro d hd
  simp only [List.mem_cons, List.not_mem_nil, or_false] at hd
  rcases hd with rfl | rfl | rfl | rfl | rfl | rfl | rfl | rfl | rfl | rfl | rfl
  · exact ⟨arg_of rfl (fun _ h => nomatch h), rfl⟩
  · exact ⟨arg_of rfl (fun _ h => nomatch h), rfl⟩
  · exact ⟨arg_of rfl (fun _ h => nomatch h), rfl⟩
  · exact ⟨arg_ints [-1] (by decide) (by decide), rfl⟩
  · refine ⟨arg_ints [(l.lap : Int)] (by simp) (fun x hx => by rw [List.mem_singleton] at hx; omega), ?_⟩
    show (_ && decide ((l.lap : Int) < (l.lap : Int))) = false
    rw [decide_eq_false (by omega), Bool.and_false]
  · exact ⟨arg_ints [0, 0] (by decide) (by decide), rfl⟩
  · exact ⟨arg_tup (by decide) rfl (okT (by decide +kernel) (by decide +kernel) (by decide +kernel)), rfl⟩
  · exact ⟨arg_tup (by decide) rfl (okT (by decide +kernel) (by decide +kernel) (by decide +kernel)), rfl⟩
  · refine ⟨arg_ints [(l.lap : Int) - 1, 0, 0] (by simp) (fun x hx => by simp only [List.mem_cons, List.not_mem_nil, or_false] at hx; omega), ?_⟩
    show ((_ && (_ && false)) && _) = false
    rw [Bool.and_false, Bool.and_false, Bool.false_and]
  · exact ⟨arg_of rfl (fun _ h => nomatch h), rfl⟩
  · refine ⟨arg_ints [100000000000000000000] (by decide) (by decide), ?_⟩
    show (_ && decide ((100000000000000000000 : Int) < (l.lap : Int))) = false
    rw [decide_eq_false (by omega), Bool.and_false]
theorem top_end {l : Lot} (hl : l.Ok) {m : Int} (h0 : 0 ≤ m) (hm : m ∈ l.few.map (fun (x : Nat) => (x : Int)) ++ [-1]) : endB (.tup (nD l.few)) m = false := by
  rcases List.mem_append.mp hm with z | z
  · obtain ⟨x, hx, rfl⟩ := List.mem_map.mp z
    have hne : l.few ≠ [] := List.ne_nil_of_mem hx
    have hle : x ≤ l.few.getLast hne := by
      have hd := List.dropLast_concat_getLast hne
      have hp := hl.few
      rw [← hd] at hx hp
      rcases List.mem_append.mp hx with q | q
      · exact Nat.le_of_lt ((List.pairwise_append.mp hp).2.2 x q _ (List.mem_singleton.mpr rfl))
      · rw [List.mem_singleton.mp q]; exact Nat.le_refl _
    show ((nD l.few).isEmpty || decide (lastD (nD l.few) < (x : Int))) = false
    rw [lastD_nD hne, decide_eq_false (by omega), Bool.or_false]
    cases hc : l.few with
    | nil => exact absurd hc hne
    | cons _ _ => rfl
  · rw [List.mem_singleton] at z; omega
def S_law_odd : PL.Spec := fun ds n R => ∃ (l : Lot) (k : Nat), ds = [.res, .tup (ptD l), .int k] ∧ n + 2 ≤ lim ∧ Fit l ∧ k < 4 ∧ ∀ d, Bad l k d → R d (n + 1)
theorem ok_law_odd {f : Addr} {fd : FuncData} (F : Fun K "_law_odd" "_law_odd" s_law_odd f fd) (hm : mg "_law_odd" = some (.ref f)) (B : BI mg) (h_law_pick : FnC P w K mg base 2 "_law_pick" ["_law_deck_here", "_law_some"] [] S_law_pick) : FnC P w K mg base 3 "_law_odd" ["_law_deck_here", "_law_lot_here", "_law_at"] [] S_law_odd := by
  refine fnc F hm sc_law_odd (F.binds (ps := ["_law_deck_here", "_law_lot_here", "_law_at"]) fun _ _ _ _ _ _ us hl => match us, hl with | [_, _, _], _ => rfl)
    (fun q hq => nomatch hq) ?_ (fun cdv A outer s H E hgd hr => ⟨_, (dss_cons (ds_asg (de_maxL B.max rfl (sa_cons (SE.of (de_add (SE.of (DE.of (fe_list B.list rfl (sa_cons (SE.of (de_sub_ix (se_var (pv 1)) (SE.of de_int))) sa_nil)))) (SE.of (DE.of (fe_lst (da_cons (de_neg (SE.of de_int)) da_nil)))))) sa_nil)) (dg_name (pg_name (i := 3) sc_law_odd.nd rfl (Or.inl rfl))))
      (dss_cons (ds_own (i := 4) (fe_lst (da_cons (DE.of (fe_lst (da_cons de_non (da_cons de_int (da_cons (DE.of (fe_lst da_nil)) (da_cons (de_tup (da_cons (de_neg (SE.of de_int)) da_nil)) (da_cons (de_tup (da_cons de_int (da_cons de_int da_nil))) (da_cons (de_tup (da_cons de_int (da_cons de_int da_nil))) (da_cons (de_tup (da_cons de_bl da_nil)) (da_cons (de_tup (da_cons de_str da_nil)) (da_cons (de_tup (da_cons de_non da_nil)) (da_cons (DE.of fe_dnew) (da_cons (de_tup (da_cons (de_tup (da_cons de_int da_nil)) da_nil)) (da_cons (de_add (SE.of (DE.of (fe_list B.list rfl (sa_cons (SE.of (de_sub_ix (se_var (pv 1)) (SE.of de_int))) sa_nil)))) (SE.of (DE.of (fe_lst (da_cons de_int da_nil))))) (da_cons de_str da_nil))))))))))))))) da_nil)) (pg_name (i := 4) sc_law_odd.nd rfl (Or.inl rfl)))
      (dss_cons (ds_append (pv 4) (DE.of (fe_lst (da_cons de_non (da_cons (de_neg (SE.of de_int)) (da_cons de_bl (da_cons de_str (da_cons (de_tup da_nil) (da_cons (DE.of (fe_lst (da_cons de_int da_nil))) (da_cons (de_ife (dt_ge (se_var (pv 3)) (SE.of de_int)) (de_var (pv 3)) de_bl) (da_cons (de_neg (SE.of (de_pow (SE.of de_int) (SE.of de_int)))) (da_cons (de_tup (da_cons de_int da_nil)) da_nil))))))))))))
      (dss_cons (ds_append (pv 4) (DE.of (fe_lst (da_cons de_non (da_cons de_int (da_cons (de_neg (SE.of de_int)) (da_cons de_bl (da_cons de_str (da_cons (de_tup (da_cons de_int da_nil)) (da_cons (DE.of (fe_lst da_nil)) (da_cons de_bl (da_cons (de_neg (SE.of (de_pow (SE.of de_int) (SE.of de_int)))) da_nil))))))))))))
      (dss_cons (ds_append (pv 4) (DE.of (fe_lst (da_cons de_non (da_cons de_int (da_cons (DE.of (fe_lst da_nil)) (da_cons (de_tup (da_cons (de_neg (SE.of de_int)) da_nil)) (da_cons (de_tup (da_cons (de_sub_ix (se_var (pv 1)) (SE.of de_int)) da_nil)) (da_cons (de_tup (da_cons de_int (da_cons de_int da_nil))) (da_cons (de_tup (da_cons de_bl da_nil)) (da_cons (de_tup (da_cons de_str da_nil)) (da_cons (de_tup (da_cons (de_sub (SE.of (de_sub_ix (se_var (pv 1)) (SE.of de_int))) (SE.of de_int)) (da_cons de_int (da_cons de_int da_nil)))) (da_cons (DE.of fe_dnew) (da_cons (de_tup (da_cons (de_pow (SE.of de_int) (SE.of de_int)) da_nil)) da_nil))))))))))))))
      (dss_one (ds_ret (SE.of (de_fnC h_law_pick hgd hr (da_cons (de_var (pv 0)) (da_cons (de_sub_ix (se_var (pv 4)) (se_var (pv 2))) da_nil))))))))))), ?_⟩)
  · rintro ds n R ⟨l, k, rfl, _⟩; rfl
  · rintro ds n R ⟨l, k, rfl, hn, hl, hk, hR⟩
    unfold ptD
    walk_at "pl"
    have h1 : (nD l.few).length ≤ 16777215 := by rw [nD_len]; have := hl.few; omega
    have e : asInts (nD l.few ++ [D.int (-1)]) = some (l.few.map (fun (x : Nat) => (x : Int)) ++ [-1]) := by
      have : nD l.few ++ [D.int (-1)] = (l.few.map (fun (x : Nat) => (x : Int)) ++ [-1]).map D.int := by
        unfold nD
        rw [List.map_append, List.map_map]; rfl
      rw [this, asInts_map]
    refine ⟨h1, ?_⟩
    rw [e]
    refine ⟨by simp, fun m hm hge => ⟨h1, ?_⟩⟩
    have hp : CPow 10 20 := by unfold CPow; decide
    have go : ∀ t : D, (t = .bl false ∨ ∃ m : Int, t = .int m ∧ endB (.tup (nD l.few)) m = false) → (match atI [D.lst [D.non, D.int 0, D.lst [], D.tup [D.int (-1)], D.tup [D.int 1, D.int 0], D.tup [D.int 0, D.int 0], D.tup [D.bl true], D.tup [D.str (Str.ofString "0")], D.tup [D.non], D.dic [] [], D.tup [D.tup [D.int 0]], D.lst (nD l.few ++ [D.int 1]), D.str (Str.ofString "01")], D.lst [D.non, D.int (-1), D.bl true, D.str (Str.ofString "0"), D.tup [], D.lst [D.int 0], t, D.int (-100000000000000000000), D.tup [D.int 0]], D.lst [D.non, D.int 0, D.int (-1), D.bl true, D.str (Str.ofString "1"), D.tup [D.int 1], D.lst [], D.bl false, D.int (-100000000000000000000)], D.lst [D.non, D.int 0, D.lst [], D.tup [D.int (-1)], D.tup [D.int ↑l.lap], D.tup [D.int 0, D.int 0], D.tup [D.bl true], D.tup [D.str (Str.ofString "0")], D.tup [D.int (↑l.lap - 1), D.int 0, D.int 0], D.dic [] [], D.tup [D.int 100000000000000000000]]] ↑k with
        | some z => callZ S_law_pick [D.res, z] n R (shut R)
        | none => False) := by
      intro t ht
      obtain rfl | rfl | rfl | rfl : k = 0 ∨ k = 1 ∨ k = 2 ∨ k = 3 := by omega
      · refine callS_of (u := shut _) _ _ ⟨_, rfl, by omega, by simp, by simp, fun d hd => hR d (bad0 d hd)⟩
      · refine callS_of (u := shut _) _ _ ⟨_, rfl, by omega, by simp, by simp, fun d hd => hR d (bad1 ht d hd)⟩
      · refine callS_of (u := shut _) _ _ ⟨_, rfl, by omega, by simp, by simp, fun d hd => hR d (bad2 d hd)⟩
      · refine callS_of (u := shut _) _ _ ⟨_, rfl, by omega, by simp, by simp, fun d hd => hR d (bad3 hl d hd)⟩
    by_cases c : 0 ≤ m
    · rw [if_pos c]
      exact ⟨hp, hp, hp, go (.int m) (.inr ⟨m, rfl, top_end hl.ok c hm⟩)⟩
    · rw [if_neg c]
      exact ⟨hp, hp, hp, go (.bl false) (.inl rfl)⟩
/-- the first of the first k parts that is none -/
def bp (k : Nat) (d0 d1 d2 d3 : D) : Option Str :=
  if 0 < k ∧ ascB d0 = false then some "few"
  else if 1 < k ∧ (isInt d1 && decide (0 ≤ intOf d1) && endB d0 (intOf d1)) = false then some "first"
  else if 2 < k ∧ (isInt d2 && decide (1 ≤ intOf d2)) = false then some "around"
  else if 3 < k ∧ (ascB d3 && endB d3 (intOf d2)) = false then some "rests"
  else none
theorem bp_4 (d0 d1 d2 d3 : D) : bp 4 d0 d1 d2 d3 = badPart d0 d1 d2 d3 := by
  unfold bp badPart
  simp only [show 0 < 4 by decide, show 1 < 4 by decide, show 2 < 4 by decide, show 3 < 4 by decide, true_and]
theorem bp_mono {k : Nat} {d0 d1 d2 d3 : D} {s : Str} (h : bp k d0 d1 d2 d3 = some s) : bp (k + 1) d0 d1 d2 d3 = some s := by
  unfold bp at h ⊢
  by_cases c0 : 0 < k ∧ ascB d0 = false
  · rw [if_pos c0] at h
    rw [if_pos ⟨by omega, c0.2⟩]; exact h
  rw [if_neg c0] at h
  by_cases c1 : 1 < k ∧ (isInt d1 && decide (0 ≤ intOf d1) && endB d0 (intOf d1)) = false
  · rw [if_pos c1] at h
    rw [if_neg (fun z => c0 ⟨by omega, z.2⟩), if_pos ⟨by omega, c1.2⟩]; exact h
  rw [if_neg c1] at h
  by_cases c2 : 2 < k ∧ (isInt d2 && decide (1 ≤ intOf d2)) = false
  · rw [if_pos c2] at h
    rw [if_neg (fun z => c0 ⟨by omega, z.2⟩), if_neg (fun z => c1 ⟨by omega, z.2⟩), if_pos ⟨by omega, c2.2⟩]; exact h
  rw [if_neg c2] at h
  by_cases c3 : 3 < k ∧ (ascB d3 && endB d3 (intOf d2)) = false
  · rw [if_pos c3] at h
    rw [if_neg (fun z => c0 ⟨by omega, z.2⟩), if_neg (fun z => c1 ⟨by omega, z.2⟩), if_neg (fun z => c2 ⟨by omega, z.2⟩), if_pos ⟨by omega, c3.2⟩]; exact h
  rw [if_neg c3] at h
  cases h
theorem bp_1 (d0 d1 d2 d3 e1 e2 e3 : D) : bp 1 d0 d1 d2 d3 = bp 1 d0 e1 e2 e3 := by
  unfold bp
  simp only [show ¬ 1 < 1 by decide, show ¬ 2 < 1 by decide, show ¬ 3 < 1 by decide, false_and, if_false]
theorem bp_2 (d0 d1 d2 d3 e2 e3 : D) : bp 2 d0 d1 d2 d3 = bp 2 d0 d1 e2 e3 := by
  unfold bp
  simp only [show ¬ 2 < 2 by decide, show ¬ 3 < 2 by decide, false_and, if_false]
theorem bp_3 (d0 d1 d2 d3 e3 : D) : bp 3 d0 d1 d2 d3 = bp 3 d0 d1 d2 e3 := by
  unfold bp
  simp only [show ¬ 3 < 3 by decide, false_and, if_false]
def nmK : Nat → Str
  | 0 => "few"
  | 1 => "first"
  | 2 => "around"
  | _ => "rests"
theorem arg_pt {l : Lot} (hl : Fit l) : argD (.tup (nD l.few)) ∧ argD (.int l.first) ∧ argD (.int l.lap) ∧ argD (.tup (nD l.rests)) := by
  have f1 := hl.first
  have f3 := hl.lap
  have f4 := rests_len hl.ok
  refine ⟨arg_nD hl.few fun x hx => ?_, arg_of rfl (fun _ h => nomatch h), arg_of rfl (fun _ h => nomatch h), arg_nD (by omega) fun x hx => ?_⟩
  · have := hl.ok.lt x hx; omega
  · have := hl.ok.rlt x hx; omega
theorem end_lt {xs : List Nat} {b : Nat} (h : ∀ x ∈ xs, x < b) : endB (.tup (nD xs)) (b : Int) = true := by
  show ((nD xs).isEmpty || decide (lastD (nD xs) < (b : Int))) = true
  by_cases c : xs = []
  · rw [c]; rfl
  · have := h _ (List.getLast_mem c)
    rw [lastD_nD c, decide_eq_true (by omega), Bool.or_true]
/-- how far the parts are spoiled -/
structure St (l : Lot) (k : Nat) (d0 d1 d2 d3 : D) (bad : List D) : Prop where
  a0 : argD d0
  a1 : argD d1
  a2 : argD d2
  a3 : argD d3
  len : bad.length ≤ k
  nm : ∀ d ∈ bad, ∃ j, d = .str (nmK j)
  st : (bad = [] ∧ d0 = .tup (nD l.few) ∧ d1 = .int l.first ∧ d2 = .int l.lap ∧ d3 = .tup (nD l.rests)) ∨ ∃ (j : Nat) (t : List D), bad = .str (nmK j) :: t ∧ bp k d0 d1 d2 d3 = some (nmK j)
theorem St.start {l : Lot} (hl : Fit l) : St l 0 (.tup (nD l.few)) (.int l.first) (.int l.lap) (.tup (nD l.rests)) [] := by
  obtain ⟨a0, a1, a2, a3⟩ := arg_pt hl
  exact ⟨a0, a1, a2, a3, Nat.le_refl _, (fun _ h => nomatch h), .inl ⟨rfl, rfl, rfl, rfl, rfl⟩⟩
theorem St.next {l : Lot} {k : Nat} {d0 d1 d2 d3 : D} {bad : List D} (h : St l k d0 d1 d2 d3 bad) : St l (k + 1) d0 d1 d2 d3 bad :=
  ⟨h.a0, h.a1, h.a2, h.a3, Nat.le_succ_of_le h.len, h.nm, h.st.imp id fun ⟨j, t, e, q⟩ => ⟨j, t, e, bp_mono q⟩⟩
theorem st_len {bad : List D} {k : Nat} {x : D} (h : bad.length ≤ k) : (bad ++ [x]).length ≤ k + 1 := by rw [List.length_append]; exact Nat.succ_le_succ h
theorem nm_app {bad : List D} (h : ∀ d ∈ bad, ∃ j, d = .str (nmK j)) (j : Nat) : ∀ d ∈ bad ++ [.str (nmK j)], ∃ j, d = .str (nmK j) := fun d hd => by
  rcases List.mem_append.mp hd with z | z
  · exact h d z
  · exact ⟨j, List.mem_singleton.mp z⟩
theorem St.s0 {l : Lot} {d0 d1 d2 d3 d : D} {bad : List D} (h : St l 0 d0 d1 d2 d3 bad) (hd : Bad l 0 d) : St l 1 d d1 d2 d3 (bad ++ [.str (nmK 0)]) := by
  refine ⟨hd.1, h.a1, h.a2, h.a3, st_len h.len, nm_app h.nm 0, .inr ?_⟩
  have e := List.length_eq_zero_iff.mp (Nat.le_zero.mp h.len)
  subst e
  refine ⟨0, [], rfl, ?_⟩
  unfold bp
  rw [if_pos ⟨by decide, hd.2⟩]
  rfl
theorem St.s1 {l : Lot} (hl : Fit l) {d0 d1 d2 d3 d : D} {bad : List D} (h : St l 1 d0 d1 d2 d3 bad) (hd : Bad l 1 d) : St l 2 d0 d d2 d3 (bad ++ [.str (nmK 1)]) := by
  refine ⟨h.a0, hd.1, h.a2, h.a3, st_len h.len, nm_app h.nm 1, .inr ?_⟩
  rcases h.st with ⟨rfl, rfl, rfl, rfl, rfl⟩ | ⟨j, t, rfl, q⟩
  · refine ⟨1, [], rfl, ?_⟩
    unfold bp
    rw [asc_nD hl.ok.few, if_neg (by decide), if_pos ⟨by decide, hd.2⟩]
    rfl
  · exact ⟨j, _, rfl, bp_mono (by rw [bp_1 d0 d d2 d3 d1 d2 d3]; exact q)⟩
theorem first_good {l : Lot} (hl : Fit l) : (isInt (.int l.first) && decide (0 ≤ intOf (.int l.first)) && endB (.tup (nD l.few)) (intOf (.int l.first))) = true := by
  show (true && decide (0 ≤ (l.first : Int)) && endB (.tup (nD l.few)) (l.first : Int)) = true
  rw [end_lt hl.ok.lt, decide_eq_true (by omega)]; rfl
theorem lap_good {l : Lot} (hl : Fit l) : (isInt (.int l.lap) && decide (1 ≤ intOf (.int l.lap))) = true := by
  have := hl.ok.lap
  show (true && decide (1 ≤ (l.lap : Int))) = true
  rw [decide_eq_true (by omega)]; rfl
theorem St.s2 {l : Lot} (hl : Fit l) {d0 d1 d2 d3 d : D} {bad : List D} (h : St l 2 d0 d1 d2 d3 bad) (hd : Bad l 2 d) : St l 3 d0 d1 d d3 (bad ++ [.str (nmK 2)]) := by
  refine ⟨h.a0, h.a1, hd.1, h.a3, st_len h.len, nm_app h.nm 2, .inr ?_⟩
  rcases h.st with ⟨rfl, rfl, rfl, rfl, rfl⟩ | ⟨j, t, rfl, q⟩
  · refine ⟨2, [], rfl, ?_⟩
    unfold bp
    rw [asc_nD hl.ok.few, if_neg (by decide), first_good hl, if_neg (by decide), if_pos ⟨by decide, hd.2⟩]
    rfl
  · exact ⟨j, _, rfl, bp_mono (by rw [bp_2 d0 d1 d d3 d2 d3]; exact q)⟩
theorem St.s3 {l : Lot} (hl : Fit l) {d0 d1 d2 d3 d : D} {bad : List D} (h : St l 3 d0 d1 d2 d3 bad) (hd : Bad l 3 d) : St l 4 d0 d1 d2 d (bad ++ [.str (nmK 3)]) := by
  refine ⟨h.a0, h.a1, h.a2, hd.1, st_len h.len, nm_app h.nm 3, .inr ?_⟩
  rcases h.st with ⟨rfl, rfl, rfl, rfl, rfl⟩ | ⟨j, t, rfl, q⟩
  · refine ⟨3, [], rfl, ?_⟩
    unfold bp
    rw [asc_nD hl.ok.few, if_neg (by decide), first_good hl, if_neg (by decide), lap_good hl, if_neg (by decide), if_pos ⟨by decide, hd.2⟩]
    rfl
  · exact ⟨j, _, rfl, bp_mono (by rw [bp_3 d0 d1 d2 d d3]; exact q)⟩
theorem okNm (j : Nat) : okD (.str (nmK j)) := by
  match j with
  | 0 => exact okT (by decide +kernel) (by decide +kernel) (by decide +kernel)
  | 1 => exact okT (by decide +kernel) (by decide +kernel) (by decide +kernel)
  | 2 => exact okT (by decide +kernel) (by decide +kernel) (by decide +kernel)
  | _ + 3 => exact okT (d := .str "rests") (by decide +kernel) (by decide +kernel) (by decide +kernel)
theorem okBadL (j : Nat) : okD (.lst [.str "bad", .str (nmK j), .bl true]) := by
  match j with
  | 0 => exact okT (by decide +kernel) (by decide +kernel) (by decide +kernel)
  | 1 => exact okT (by decide +kernel) (by decide +kernel) (by decide +kernel)
  | 2 => exact okT (by decide +kernel) (by decide +kernel) (by decide +kernel)
  | _ + 3 => exact okT (d := .lst [.str "bad", .str "rests", .bl true]) (by decide +kernel) (by decide +kernel) (by decide +kernel)
theorem bulkNm (j : Nat) : bulkD (.str (nmK j)) ≤ 100 := by
  match j with
  | 0 => decide +kernel
  | 1 => decide +kernel
  | 2 => decide +kernel
  | _ + 3 => exact (show bulkD (.str "rests") ≤ 100 by decide +kernel)
theorem ok_names : ∀ {bad : List D}, (∀ d ∈ bad, ∃ j, d = .str (nmK j)) → bad.length ≤ 4 → okD (.lst bad) := by
  have key : ∀ {bad : List D}, (∀ d ∈ bad, ∃ j, d = .str (nmK j)) → niceL bad = true ∧ depL bad ≤ 1 ∧ bulkL bad ≤ bad.length * 101 := by
    intro bad
    induction bad with
    | nil => intro _; exact ⟨rfl, by decide, Nat.le_refl _⟩
    | cons d bad ih =>
      intro h
      obtain ⟨i1, i2, i3⟩ := ih fun y hy => h y (List.mem_cons_of_mem _ hy)
      obtain ⟨j, rfl⟩ := h d List.mem_cons_self
      have hn := (okNm j).1
      have hb := bulkNm j
      refine ⟨?_, ?_, ?_⟩
      · simp only [niceL, hn, i1, Bool.and_true]
      · simp only [depL, depD]; omega
      · simp only [bulkL, List.length_cons]; omega
  intro bad h hl
  obtain ⟨k1, k2, k3⟩ := key h
  exact okD_lst.mpr ⟨k1, by omega, by omega⟩
theorem bulk_nD (l : List Nat) : bulkL (nD l) = l.length := by
  induction l with
  | nil => rfl
  | cons x l ih =>
    show bulkL (.int x :: nD l) = _
    simp only [bulkL, bulkD, ih, List.length_cons]; omega
theorem dep_nD (l : List Nat) : depL (nD l) ≤ 1 := by
  induction l with
  | nil => decide
  | cons x l ih =>
    show depL (.int x :: nD l) ≤ 1
    simp only [depL, depD]; omega
theorem nice_nat {x : Nat} (h : x ≤ 100000) : niceD (.int (x : Int)) = true := by
  simp only [niceD]
  exact decide_eq_true (Nat.lt_of_le_of_lt h (Nat.lt_of_lt_of_le (show 100000 < 2 ^ 100 by decide) (Nat.pow_le_pow_right (by decide) (by decide))))
theorem okPt {l : Lot} (hl : Fit l) (hs : l.few.length + l.lap ≤ 7000) : okD (.tup (ptD l)) := by
  obtain ⟨a0, a1, a2, a3⟩ := arg_pt hl
  have h0 := okD_tup.mp (a0.2 _ rfl).2.2
  have h3 := okD_tup.mp (a3.2 _ rfl).2.2
  have f1 := hl.first
  have f3 := hl.lap
  have f4 := rests_len hl.ok
  have e1 := nice_nat (x := l.first) (by omega)
  have e2 := nice_nat (x := l.lap) (by omega)
  have b0 := bulk_nD l.few
  have b3 := bulk_nD l.rests
  have c0 := dep_nD l.few
  have c3 := dep_nD l.rests
  refine okD_tup.mpr ⟨?_, ?_, ?_⟩
  · unfold ptD
    simp only [niceL, niceD, h0.1, h3.1, Bool.and_true, Bool.true_and] at e1 e2 ⊢
    rw [e1, e2]; rfl
  · unfold ptD
    simp only [depL, depD]
    omega
  · unfold ptD
    simp only [bulkL, bulkD, b0, b3]; omega
theorem fit_of {l m : Lot} (hl : Fit l) (h : LeastOf l m) : Fit m ∧ m.few.length + m.lap ≤ l.few.length + l.lap := by
  have e1 : m.first ≤ l.first := h.first.le
  have e2 : m.lap ≤ l.lap := Nat.le_of_dvd hl.ok.lap h.lap.dv
  have e3 : m.few.length ≤ l.few.length := by rw [h.few]; exact List.length_filter_le _ _
  exact ⟨⟨h.ok hl.ok, Nat.le_trans e1 hl.first, Nat.le_trans e3 hl.few, Nat.le_trans e2 hl.lap⟩, by omega⟩
def S_law_is_made_right : PL.Spec := fun ds n R => ∃ l : Lot, ds = [.res, .tup (ptD l)] ∧ n + 50 ≤ lim ∧ Fit l ∧ l.few.length + l.lap ≤ 7000 ∧ ∀ k, n ≤ k → k ≤ n + 50 → R (.bl true) k
theorem ok_law_is_made_right {f : Addr} {fd : FuncData} (F : Fun K "_law_is_made_right" "_law_is_made_right" s_law_is_made_right f fd) (hm : mg "_law_is_made_right" = some (.ref f)) (B : BI mg) (h_law_least : FnC P w K mg base 2 "_law_least" ["_law_told_here"] [] S_law_least) (h_law_heard : FnC P w K mg base 5 "_law_heard" ["_law_parts", "_law_way"] [] S_law_heard) (h_law_draw : FnC P w K mg base 1 "_law_draw" ["_law_deck_here", "_law_many"] [] S_law_draw) (h_law_odd : FnC P w K mg base 3 "_law_odd" ["_law_deck_here", "_law_lot_here", "_law_at"] [] S_law_odd) : FnC P w K mg base 6 "_law_is_made_right" ["_law_deck_here", "_law_lot_here"] [] S_law_is_made_right := by
  refine fnc F hm sc_law_is_made_right (F.binds (ps := ["_law_deck_here", "_law_lot_here"]) fun _ _ _ _ _ _ us hl => match us, hl with | [_, _], _ => rfl)
    (fun q hq => nomatch hq) ?_ (fun cdv A outer s H E hgd hr => ⟨_, (dss_cons (ds_asg (de_fnC h_law_least hgd (hr.mono (by decide)) (da_cons (de_var (pv 1)) da_nil)) (dg_name (pg_name (i := 2) sc_law_is_made_right.nd rfl (Or.inl rfl))))
      (dss_cons (ds_if (dt_w (dw_or (dt_ne hr.units (SE.of (de_repr B.repr rfl hr.units hgd (sa_cons (SE.of (de_fnC h_law_heard hgd hr (da_cons (de_var (pv 1)) (da_cons (de_fnC h_law_draw hgd (hr.mono (by decide)) (da_cons (de_var (pv 0)) (da_cons de_int da_nil))) da_nil)))) sa_nil))) (SE.of (de_repr B.repr rfl hr.units hgd (sa_cons (se_var (pv 2)) sa_nil)))) (dw_or1 (dt_ne hr.units (SE.of (de_repr B.repr rfl hr.units hgd (sa_cons (SE.of (de_fnC h_law_heard hgd hr (da_cons (de_var (pv 2)) (da_cons de_int da_nil)))) sa_nil))) (SE.of (de_repr B.repr rfl hr.units hgd (sa_cons (se_var (pv 2)) sa_nil))))))) (dss_one (ds_ret (SE.of de_bl))) dss_nil)
      (dss_cons (ds_for PassesOwn.never rfl (di_range1 B.range rfl (da_cons de_int da_nil)) (dg_name (pg_name (i := 3) sc_law_is_made_right.nd rfl (Or.inl rfl))) (dss_cons (ds_parM2 (i := 4) (j := 5) sc_law_is_made_right.nd (by decide) (dm_own (fe_list B.list rfl (sa_cons (se_var (pv 1)) sa_nil)) (dm_own (fe_lst da_nil) dm_nil)) (by rfl))
      (dss_cons (ds_for PassesOwn.never rfl (di_range1 B.range rfl (da_cons de_int da_nil)) (dg_name (pg_name (i := 6) sc_law_is_made_right.nd rfl (Or.inl rfl))) (dss_one (ds_if (dt_eq hr.units (SE.of (de_fnC h_law_draw hgd (hr.mono (by decide)) (da_cons (de_var (pv 0)) (da_cons de_int da_nil)))) (SE.of de_int)) (dss_cons (ds_lset (pv 4) (se_var (pv 6)) (de_fnC h_law_odd hgd (hr.mono (by decide)) (da_cons (de_var (pv 0)) (da_cons (de_var (pv 1)) (da_cons (de_var (pv 6)) da_nil)))))
      (dss_one (ds_append (pv 5) (de_sub_ix (SE.of (DE.of (fe_lst (da_consts rfl)))) (se_var (pv 6)))))) dss_nil)))
      (dss_one (ds_frz 4 (ds_if (dt_w (dw_and (dt_ne hr.units (se_var (pv 5)) (SE.of (DE.of (fe_lst da_nil)))) (dw_and1 (dt_ne hr.units (SE.of (de_repr B.repr rfl hr.units hgd (sa_cons (SE.of (de_fnC h_law_heard hgd hr (da_cons (de_var (pv 4)) (da_cons (de_mod (se_var (pv 3)) (SE.of de_int)) da_nil)))) sa_nil))) (SE.of (de_repr B.repr rfl hr.units hgd (sa_cons (SE.of (DE.of (fe_lst (da_cons de_str (da_cons (de_sub_ix (se_var (pv 5)) (SE.of de_int)) (da_cons de_bl da_nil)))))) sa_nil))))))) (dss_one (ds_ret (SE.of de_bl))) dss_nil))))))
      (dss_one (ds_ret (SE.of de_bl)))))), ?_⟩)
  · rintro ds n R ⟨l, rfl, _⟩; rfl
  · rintro ds n R ⟨l, rfl, hn, hl, hs, hR⟩
    obtain ⟨m, hm⟩ := LeastOf.ex hl.ok
    walk_at "pl"
    refine callS_of _ _ ⟨l, m, rfl, hl, hm, ?_⟩
    try walk_at "pl"
    refine callS_of _ _ ⟨_, rfl, by decide, by decide, by omega, fun z z0 z1 => ?_⟩
    try walk_at "pl"
    have okm := okPt (fit_of hl hm).1 (by have := (fit_of hl hm).2; omega)
    refine callS_of _ _ ⟨ptD l, z, _, rfl, .inl rfl, .inl ⟨l, m, rfl, hl, hm, ?_⟩⟩
    try walk_at "pl"
    refine oRepr_ok okm ?_
    try walk_at "pl"
    refine oRepr_ok okm ?_
    try walk_at "pl"
    refine callS_of _ _ ⟨ptD m, 0, _, rfl, .inl rfl, .inl ⟨m, m, rfl, (fit_of hl hm).1, hm.self hl.ok, ?_⟩⟩
    try walk_at "pl"
    refine oRepr_ok okm ?_
    try walk_at "pl"
    refine oRepr_ok okm ?_
    try walk_at "pl"
    refine (fun (loop : ∀ (k : Nat) (lo : Nat) (c3 c4 c5 c6 : Cell) (nn : Nat), n ≤ nn → nn + k * 8 ≤ n + 25 → forW ?tg ?bd (intsD lo k) ?Ps [Cell.sh D.res, Cell.sh (D.tup (ptD l)), Cell.sh (D.tup (ptD m)), c3, c4, c5, c6] nn) => loop 3 0 _ _ _ _ (n + 1) (by omega) (by omega)) ?_
    intro k
    induction k with
    | zero =>
      intro lo c3 c4 c5 c6 nn hn0 hn'
      rw [intsD_zero, forW_nil]
      try walk_at "pl"
      exact hR nn hn0 (by omega)
    | succ k ih =>
      intro lo c3 c4 c5 c6 nn hn0 hn'
      simp only [intsD_succ, forW_cons]
      try walk_at "pl"
      refine (fun (go : ∀ (k2 j : Nat) (d0 d1 d2 d3 : D) (bad : List D) (c6 : Cell) (n2 : Nat), j + k2 = 4 → St l j d0 d1 d2 d3 bad → nn ≤ n2 → n2 + 2 * k2 ≤ nn + 8 → forW ?tg2 ?bd2 (intsD j k2) ?Ps2 [Cell.sh D.res, Cell.sh (D.tup (ptD l)), Cell.sh (D.tup (ptD m)), Cell.sh (D.int lo), Cell.own (D.lst [d0, d1, d2, d3]), Cell.own (D.lst bad), c6] n2) => go 4 0 _ _ _ _ [] _ nn rfl (St.start hl) (Nat.le_refl _) (Nat.le_refl _)) ?_
      intro k2
      induction k2 with
      | zero =>
        intro j d0 d1 d2 d3 bad c6 n2 hj hS q1 q2
        obtain rfl : j = 4 := by omega
        rw [intsD_zero, forW_nil]
        try walk_at "pl"
        refine oNe_nil (ok_names hS.nm hS.len) ?_
        rcases hS.st with ⟨rfl, _⟩ | ⟨j, t, rfl, q⟩
        · try walk_at "pl"
          exact ih (lo + 1) _ _ _ _ n2 (by omega) (by omega)
        · try walk_at "pl"
          rw [bp_4] at q
          refine ⟨by decide, callS_of _ _ ⟨[d0, d1, d2, d3], _, _, rfl, .inr rfl, .inr ⟨d0, d1, d2, d3, nmK j, rfl, hS.a0, hS.a1, hS.a2, hS.a3, q, ?_⟩⟩⟩
          try walk_at "pl"
          refine oRepr_ok (okBadL j) ?_
          try walk_at "pl"
          refine oRepr_ok (okBadL j) ?_
          try walk_at "pl"
          exact ih (lo + 1) _ _ _ _ n2 (by omega) (by omega)
      | succ k2 ih2 =>
        intro j d0 d1 d2 d3 bad c6 n2 hj hS q1 q2
        simp only [intsD_succ, forW_cons]
        try walk_at "pl"
        refine callS_of _ _ ⟨_, rfl, by decide, by decide, by omega, fun x x0 x1 => ?_⟩
        try walk_at "pl"
        by_cases c : x = 0
        · rw [if_pos c]
          refine callS_of _ _ ⟨l, j, rfl, by omega, hl, by omega, fun d hd => ?_⟩
          have hb1 : bad.length < 16777216 := by have := hS.len; omega
          obtain rfl | rfl | rfl | rfl : j = 0 ∨ j = 1 ∨ j = 2 ∨ j = 3 := by omega
          · try walk_at "pl"
            exact And.intro hb1 (ih2 1 _ _ _ _ _ _ (n2 + 2) (by omega) (hS.s0 hd) (by omega) (by omega))
          · try walk_at "pl"
            exact And.intro hb1 (ih2 2 _ _ _ _ _ _ (n2 + 2) (by omega) (hS.s1 hl hd) (by omega) (by omega))
          · try walk_at "pl"
            exact And.intro hb1 (ih2 3 _ _ _ _ _ _ (n2 + 2) (by omega) (hS.s2 hl hd) (by omega) (by omega))
          · try walk_at "pl"
            exact And.intro hb1 (ih2 4 _ _ _ _ _ _ (n2 + 2) (by omega) (hS.s3 hl hd) (by omega) (by omega))
        · rw [if_neg c]
          exact ih2 (j + 1) d0 d1 d2 d3 bad _ (n2 + 1) (by omega) hS.next (by omega) (by omega)
end
end K58

set_option pp.maxSteps 1500
namespace K58
open PySem PySem.Spec L2 PL M58
local macro_rules | `(tactic| walk_at "pl") => `(tactic| simp (maxSteps := 3000000) (dsimp := false) only [env0, envI, nxI, ↓q_srtsc, ↓q_inm, ↓q_eqm, ↓q_isia, ↓q_isic, ↓q_gfset, ↓asBl_f, ↓asBl_t, ↓q_gseq, ↓q_dk, ↓q_dict, ↓o_dictp, ↓q_lrg1, ↓q_lrg2, ↓q_zips, ↓o_zips, ↓o_maxl, List.map_cons, List.map_nil, List.length_cons, List.length_nil, List.replicate_succ, List.replicate_zero, List.cons_append, List.nil_append, List.getElem?_cons_zero, List.getElem?_cons_succ, List.set_cons_zero, List.set_cons_succ, Nat.reduceAdd, Nat.reduceSub, Nat.zero_add, ↓q_seq, ↓q_rowsD, ↓q_srt3, ↓q_rev2, ↓o_augs_int, ↓o_augd_int, ↓q_fnx, ↓q_fnxk, ↓q_raise, ↓q_try, ↓q_xf, ↓q_xis, ↓o_xf, ↓q_dsk, ↓q_pa0, ↓q_pa, ↓q_fld, ↓q_fset, ↓q_srt, ↓q_srtset, ↓q_lset, ↓q_laug, ↓q_extend, ↓o_lta_int, ↓o_lta_str, ↓o_lta_tup, ↓o_ins, ↓q_dc, ↓q_goals, ↓o_rep, kl_nil, kl_cons, Nat.reduceMod, ↓o_augm_int, ↓o_ltI, ↓q_dget, ↓q_dgett, ↓q_int, ↓q_dput, ↓q_dputt, ↓q_mnil, ↓q_msh, ↓q_mown, ↓q_parm, ↓q_rd3, ↓q_chain, ↓o_in_lst, ↓o_in_tup, ↓o_in_dic, ↓o_isn, ↓o_mult, ↓o_suma_lstI, ↓o_suma_tupI, ↓o_sumI, ↓o_lend, ↓o_tuplel, k_int, k_str, setC_cons, setC_nil, ↓q_next, ↓q_brk, ↓q_cnt, ↓q_ret, ↓q_ifs, ↓q_drop, ↓q_asg, ↓q_own, ↓q_par, ↓q_par3, ↓q_append, ↓q_for, ↓q_gset, ↓q_gtup, ↓q_gcons, ↓q_gnil, ↓q_aug, ↓q_var, ↓q_rd, ↓q_c, ↓q_bin, ↓q_un, ↓q_b, ↓q_not, ↓q_and, ↓q_or, ↓q_andv, ↓q_orv, ↓q_notv, ↓q_if, ↓q_nil, ↓q_cons, ↓q_consts, ↓q_tup, ↓q_lst, ↓q_sl, ↓q_no, ↓q_part, ↓q_rev, ↓q_call, ↓q_fn, ↓q_fnb, ↓q_fnk, ↓q_isi, ↓q_join, ↓q_lc, ↓q_yes, ↓q_r1, ↓q_r2, ↓q_iter, ↓q_enum, ↓q_enumk, ↓q_zip, ↓q_frz, ↓q_fmt, ↓q_js0, ↓q_js, ↓o_add_int, ↓o_add_str, ↓o_add_lst, ↓o_add_tup, ↓o_sub, ↓o_mul_int, ↓o_mul_lst, ↓o_mod, ↓o_div, ↓o_pow, ↓o_lt_int, ↓o_lt_str, ↓o_le, ↓o_gt, ↓o_ge, ↓o_ix_lst, ↓o_ix_tup, ↓o_ix_str, ↓o_sl_lst, ↓o_sl_tup, ↓o_sl_str, ↓o_len_lst, ↓o_len_tup, ↓o_len_str, ↓o_int_int, ↓o_int_bl, ↓o_int_str, ↓o_list_lst, ↓o_list_tup, ↓o_tuple_lst, ↓o_tuple_tup, ↓o_abs, ↓o_max, ↓o_min, ↓o_str, ↓o_all, ↓o_any, ↓o_aug_int, ↓i_lst, ↓i_tup, ↓i_str, ↓w_nil, ↓w_cons, ↓pk_cons', ↓pk_nil', ↓oEq_int, ↓oNe_int, ↓oEq_str, ↓oNe_str, noOwn, List.all_cons, List.all_nil, Bool.and_self, Bool.and_true, Bool.true_and, b_nd, decide_eq_true_eq, true_and, and_true, atI0, atI1, atI2, atI3, ↓ty_non, ↓ty_bl, ↓ty_int, ↓ty_str, ↓ty_lst, ↓ty_tup, ↓ty_dic, kk_NoneType_bool, kk_NoneType_int, kk_NoneType_str, kk_NoneType_list, kk_NoneType_tuple, kk_NoneType_dict, kk_bool_bool, kk_bool_int, kk_bool_str, kk_bool_list, kk_bool_tuple, kk_bool_dict, kk_int_bool, kk_int_int, kk_int_str, kk_int_list, kk_int_tuple, kk_int_dict, kk_str_bool, kk_str_int, kk_str_str, kk_str_list, kk_str_tuple, kk_str_dict, kk_list_bool, kk_list_int, kk_list_str, kk_list_list, kk_list_tuple, kk_list_dict, kk_tuple_bool, kk_tuple_int, kk_tuple_str, kk_tuple_list, kk_tuple_tuple, kk_tuple_dict, kk_dict_bool, kk_dict_int, kk_dict_str, kk_dict_list, kk_dict_tuple, kk_dict_dict, Bool.not_true, Bool.not_false, Bool.false_eq_true, if_true, if_false, ↓reduceIte, Bool.not_eq_true, List.isEmpty_nil, List.isEmpty_cons, not_true_eq_false, not_false_eq_true, decide_true, decide_false, List.flatten_cons, List.flatten_nil, sizeLine_val, Nat.reduceLeDiff, Nat.reduceLT, Nat.reduceMul, Int.reducePow, Int.reduceNeg, Int.reduceLE, Int.reduceLT, Int.reduceToNat, Int.reduceAdd, Int.reduceSub, Int.reduceMul])
local macro_rules | `(tactic| walk_at "dep") => `(tactic| (simp only [depD, depL, bulkD, bulkL]; first | decide | omega | (rw [← Nat.ble_eq]; rfl)))
local macro_rules | `(tactic| walk_at "nice") => `(tactic| (simp only [niceD, niceL, Bool.and_true, Bool.true_and, Bool.and_eq_true, decide_eq_true_eq, and_true, true_and]))
section
variable {P : Program} {w : World} {K : PySem.W.Frag} {mg : Str → Option Value} {base : Heap}
theorem rgD_nat (k : Nat) : rgD 0 ((k : Int) + 2) = nD (List.range (k + 2)) := by
  unfold rgD nD
  rw [show ((k : Int) + 2 - 0).toNat = k + 2 by omega]
  refine List.map_congr_left fun i _ => ?_
  rw [Int.zero_add]
theorem lc_ok {m : Lot} {p : D} {c3 : Cell} {k : Nat} {Q : D → Nat → Prop} (h : lcW (gSet 4) (pB (pInM 3 false S_Lengths_contains (pVar 4) (pVar 2))) (pVar 4) [D.bl true, D.bl false, D.int (-1), D.non, D.str (Str.ofString "0"), D.tup [D.int 0], D.lst [], D.dic [] [], D.int (-100000000000000000000), insD m] [] [Cell.sh D.res, Cell.sh p, Cell.sh (insD m), c3, Cell.any] k fun acc k => Q (.lst acc) k) : pLc (pIter (pTup (pCons (pC (D.bl true)) (pCons (pC (D.bl false)) (pCons (pUn (fun i => D.int (-i)) (pC (D.int 1))) (pCons (pC D.non) (pCons (pC (D.str (Str.ofString "0"))) (pCons (pTup (pCons (pC (D.int 0)) pNil)) (pCons (pLst pNil) (pCons (pC (D.dic [] [])) (pCons (pUn (fun i => D.int (-i)) (pBin oPow (pC (D.int 10)) (pC (D.int 20)))) (pCons (pVar 2) pNil)))))))))))) (gSet 4) (pB (pInM 3 false S_Lengths_contains (pVar 4) (pVar 2))) (pVar 4) [4] [Cell.sh D.res, Cell.sh p, Cell.sh (insD m), c3, Cell.any] k Q := by
  walk_at "pl"
  exact ⟨by unfold CPow; decide, h⟩
def S_law_are_lengths_right : PL.Spec := fun ds n R => ∃ l : Lot, ds = [.res, .tup (ptD l)] ∧ n + 50 ≤ lim ∧ Fit l ∧ ∀ k, n ≤ k → k ≤ n + 50 → R (.bl true) k
theorem ok_law_are_lengths_right {f : Addr} {fd : FuncData} (F : Fun K "_law_are_lengths_right" "_law_are_lengths_right" s_law_are_lengths_right f fd) (hm : mg "_law_are_lengths_right" = some (.ref f)) (B : BI mg) (h_Lengths_contains : MetC P w K mg base 2 "__contains__" 3 ["self", "thing"] S_Lengths_contains) (h_Lengths : MkCX P w K mg base 3 "Lengths" 3 "self" ["few", "first", "around", "rests"] [(["rests", "around", "first", "few"], [3, 2, 1, 0])] S_Lengths_init) (h_law_far : FnC P w K mg base 2 "_law_far" ["_law_deck_here", "_law_many"] [] S_law_far) (h_law_in : FnC P w K mg base 1 "_law_in" ["_law_lot_here", "_law_length"] [] S_law_in) (h_law_draw : FnC P w K mg base 1 "_law_draw" ["_law_deck_here", "_law_many"] [] S_law_draw) : FnC P w K mg base 5 "_law_are_lengths_right" ["_law_deck_here", "_law_lot_here"] [] S_law_are_lengths_right := by
  refine fnc F hm sc_law_are_lengths_right (F.binds (ps := ["_law_deck_here", "_law_lot_here"]) fun _ _ _ _ _ _ us hl => match us, hl with | [_, _], _ => rfl)
    (fun q hq => nomatch hq) ?_ (fun cdv A outer s H E hgd hr => ⟨_, (dss_cons (ds_asg (de_make h_Lengths.quiet hgd hr (da_cons (de_sub_ix (se_var (pv 1)) (SE.of de_int)) (da_cons (de_sub_ix (se_var (pv 1)) (SE.of de_int)) (da_cons (de_sub_ix (se_var (pv 1)) (SE.of de_int)) (da_cons (de_sub_ix (se_var (pv 1)) (SE.of de_int)) da_nil))))) (dg_name (pg_name (i := 2) sc_law_are_lengths_right.nd rfl (Or.inr rfl))))
      (dss_cons (ds_for PassesOwn.never rfl (di_iter (de_add (SE.of (DE.of (fe_lrg1 B.list (by rfl) B.range (by rfl) (SE.of (de_add (SE.of (de_sub_ix (se_var (pv 1)) (SE.of de_int))) (SE.of de_int)))))) (SE.of (DE.of (fe_lst (da_cons (de_add (SE.of (de_sub_ix (se_var (pv 1)) (SE.of de_int))) (SE.of (de_fnC h_law_draw hgd (hr.mono (by decide)) (da_cons (de_var (pv 0)) (da_cons de_int da_nil))))) (da_cons (de_fnC h_law_far hgd (hr.mono (by decide)) (da_cons (de_var (pv 0)) (da_cons (de_pow (SE.of de_int) (SE.of de_int)) da_nil))) da_nil))))))) (dg_name (pg_name (i := 3) sc_law_are_lengths_right.nd rfl (Or.inl rfl))) (dss_one (ds_if (dt_ne hr.units (SE.of (de_inM h_Lengths_contains hgd (hr.mono (by decide)) (de_var (pv 3)) (de_var (pv 2)))) (SE.of (de_fnC h_law_in hgd (hr.mono (by decide)) (da_cons (de_var (pv 1)) (da_cons (de_var (pv 3)) da_nil))))) (dss_one (ds_ret (SE.of de_bl))) dss_nil)))
      (dss_one (ds_ret (SE.of (de_eq hr.units (SE.of (DE.of (fe_lc (own := [("_law_it", 4)]) (di_iter (de_tup (da_cons de_bl (da_cons de_bl (da_cons (de_neg (SE.of de_int)) (da_cons de_non (da_cons de_str (da_cons (de_tup (da_cons de_int da_nil)) (da_cons (DE.of (fe_lst da_nil)) (da_cons (DE.of fe_dnew) (da_cons (de_neg (SE.of (de_pow (SE.of de_int) (SE.of de_int)))) (da_cons (de_var (pv 2)) da_nil)))))))))))) sc_law_are_lengths_right.nd (blkOk_by (N := ["_law_deck_here", "_law_lot_here", "_law_code", "_law_length", "_law_it"]) (sc := defScope s_law_are_lengths_right) (own := [("_law_it", 4)]) (by decide +kernel)) (by decide) (fun _ _ _ _ _ => (dg_name (pg_name (i := 4) sc_law_are_lengths_right.nd rfl (Or.inl rfl)))) (fun _ _ _ _ _ => (dts_one (dt_inM h_Lengths_contains hgd (hr.mono (by decide)) (de_var (pv 4)) (de_var (pv 2))))) (fun _ _ _ _ _ => (de_var (pv 4)))))) (SE.of (DE.of (fe_lst da_nil))))))))), ?_⟩)
  · rintro ds n R ⟨l, rfl, _⟩; rfl
  · rintro ds n R ⟨l, rfl, hn, hl, hR⟩
    obtain ⟨m, hm⟩ := LeastOf.ex hl.ok
    unfold ptD
    walk_at "pl"
    refine callS_of _ _ (.inl ⟨l, m, rfl, hl, hm, ?_⟩)
    try walk_at "pl"
    refine ⟨by have := hl.first; omega, callS_of _ _ ⟨_, rfl, by decide, by decide, by omega, fun x x0 x1 => ?_⟩⟩
    obtain ⟨x, rfl⟩ := Int.eq_ofNat_of_zero_le x0
    try walk_at "pl"
    refine ⟨by unfold CPow; decide, callS_of _ _ ⟨rfl, by omega, fun y k y1 k1 k2 => ?_⟩⟩
    try walk_at "pl"
    have e : rgD 0 ((l.first : Int) + 2) ++ [D.int (↑l.first + ↑x), D.int ↑y] = nD (List.range (l.first + 2) ++ [l.first + x, y]) := by
      rw [rgD_nat]
      unfold nD
      rw [List.map_append]; rfl
    have h3 := hl.first
    refine ⟨by rw [rgD_nat, nD_len, List.length_range]; omega, ?_⟩
    rw [e]
    have h2 := (fit_of hl hm).1.ok.lap
    generalize (List.range (l.first + 2) ++ [l.first + x, y]) = ns
    refine (fun (loop : ∀ (ns : List Nat) (c3 : Cell), forW ?tg ?bd (nD ns) ?Ps [Cell.sh D.res, Cell.sh (D.tup [D.tup (nD l.few), D.int ↑l.first, D.int ↑l.lap, D.tup (nD l.rests)]), Cell.sh (insD m), c3, Cell.any] k) => loop ns _) ?_
    intro ns
    induction ns with
    | nil =>
      intro c3
      rw [show nD [] = [] from rfl, forW_nil]
      dsimp only
      rw [q_ret, q_bin]
      dsimp only
      refine lc_ok ?_
      refine lcW_flt (fun _ => false) id _ _ (fun d hd acc L hL => ?_) ?_
      · have hd : kd d = true ∧ hasB m d = false := by
          simp only [List.mem_cons, List.not_mem_nil, or_false] at hd
          rcases hd with rfl | rfl | rfl | rfl | rfl | rfl | rfl | rfl | rfl | rfl <;> exact ⟨rfl, rfl⟩
        try walk_at "pl"
        refine ⟨rfl, callS_of _ _ ⟨m, d, rfl, h2, hd.1, ?_⟩⟩
        rw [hd.2]
        exact hL
      · rw [show ∀ l : List D, l.filter (fun _ => false) = [] from fun l => List.filter_eq_nil_iff.mpr fun _ _ h => nomatch h]
        try walk_at "pl"
        refine oEq_D okNilL okNilL ?_
        exact hR k (by omega) (by omega)
    | cons x ns ih =>
      intro c3
      rw [show nD (x :: ns) = D.int (x : Int) :: nD ns from rfl]
      simp only [forW_cons]
      try walk_at "pl"
      refine ⟨rfl, callS_of _ _ ⟨m, _, rfl, h2, rfl, ?_⟩⟩
      have e2 : hasB m (.int (x : Int)) = l.has x := by
        show (decide (0 ≤ (x : Int)) && (if x < m.first then decide (x ∈ m.few) else decide (x % m.lap ∈ m.rests))) = _
        rw [decide_eq_true (by omega), Bool.true_and, hm.has hl.ok]
      rw [e2]
      try walk_at "pl"
      refine callS_of _ _ ⟨_, _, l, x, rfl, .inl rfl, .inl rfl, hl.ok.lap, ?_⟩
      try walk_at "pl"
      refine oNe_same okBl ?_
      try walk_at "pl"
      exact ih _
theorem lcE_ok {m : Lot} {ps : List D} {p2 x4 x5 x6 x7 : D} {k : Nat} {R : D → Nat → Prop} (h : R (.bl true) k) : pLc (pIter (pTup (pCons (pC D.non) (pCons (pC (D.int 0)) (pCons (pVar 1) (pCons (pC (D.str (Str.ofString "lot"))) (pCons (pCall oList (pCons (pRd 1) pNil)) (pCons (pFn S_law_told (pCons (pVar 3) pNil)) pNil)))))))) (gSet 9) (pB (pEqM 3 false S_Lengths_eq (pVar 3) (pVar 9))) (pVar 9) [9] [Cell.sh D.res, Cell.sh (D.tup ps), Cell.sh p2, Cell.sh (insD m), Cell.sh x4, Cell.sh x5, Cell.sh x6, Cell.sh x7, Cell.any, Cell.any] k fun d n1 => pLst pNil [Cell.sh D.res, Cell.sh (D.tup ps), Cell.sh p2, Cell.sh (insD m), Cell.sh x4, Cell.sh x5, Cell.sh x6, Cell.sh x7, Cell.any, Cell.any] n1 fun e n2 => oEq d e fun z => R z n2 := by
  walk_at "pl"
  refine callS_of _ _ ⟨m, rfl, ?_⟩
  try walk_at "pl"
  refine lcW_flt (fun _ => false) id _ _ (fun d hd acc L hL => ?_) ?_
  · have hd : plainD d = true := by
      simp only [List.mem_cons, List.not_mem_nil, or_false] at hd
      rcases hd with rfl | rfl | rfl | rfl | rfl | rfl <;> rfl
    try walk_at "pl"
    refine ⟨rfl, by rw [hd]; rfl, callS_of _ _ (.inr ⟨m, d, rfl, hd, ?_⟩)⟩
    exact hL
  · rw [show ∀ l : List D, l.filter (fun _ => false) = [] from fun l => List.filter_eq_nil_iff.mpr fun _ _ h => nomatch h]
    try walk_at "pl"
    refine oEq_D okNilL okNilL ?_
    exact h
def S_law_are_equal_right : PL.Spec := fun ds n R => ∃ l l2 : Lot, ds = [.res, .tup (ptD l), .tup (ptD l2)] ∧ n + 50 ≤ lim ∧ Small l ∧ Small l2 ∧ ∀ k, n ≤ k → k ≤ n + 50 → R (.bl true) k
theorem ok_law_are_equal_right {f : Addr} {fd : FuncData} (F : Fun K "_law_are_equal_right" "_law_are_equal_right" s_law_are_equal_right f fd) (hm : mg "_law_are_equal_right" = some (.ref f)) (B : BI mg) (I_Lengths : InsT K 3) (h_Lengths_eq : MetC P w K mg base 1 "__eq__" 3 ["self", "other"] S_Lengths_eq) (h_Lengths : MkCX P w K mg base 3 "Lengths" 3 "self" ["few", "first", "around", "rests"] [(["rests", "around", "first", "few"], [3, 2, 1, 0])] S_Lengths_init) (h_law_draw : FnC P w K mg base 1 "_law_draw" ["_law_deck_here", "_law_many"] [] S_law_draw) (h_law_in : FnC P w K mg base 1 "_law_in" ["_law_lot_here", "_law_length"] [] S_law_in) (h_law_least : FnC P w K mg base 2 "_law_least" ["_law_told_here"] [] S_law_least) (h_law_told : FnC P w K mg base 1 "_law_told" ["_law_lot_here"] [] S_law_told) : FnC P w K mg base 5 "_law_are_equal_right" ["_law_deck_here", "_law_lot_here", "_law_mate"] [] S_law_are_equal_right := by
  refine fnc F hm sc_law_are_equal_right (F.binds (ps := ["_law_deck_here", "_law_lot_here", "_law_mate"]) fun _ _ _ _ _ _ us hl => match us, hl with | [_, _, _], _ => rfl)
    (fun q hq => nomatch hq) ?_ (fun cdv A outer s H E hgd hr => ⟨_, (dss_cons (ds_asg (de_tup (da_cons (de_make h_Lengths.quiet hgd hr (da_cons (de_sub_ix (se_var (pv 1)) (SE.of de_int)) (da_cons (de_sub_ix (se_var (pv 1)) (SE.of de_int)) (da_cons (de_sub_ix (se_var (pv 1)) (SE.of de_int)) (da_cons (de_sub_ix (se_var (pv 1)) (SE.of de_int)) da_nil))))) (da_cons (de_make h_Lengths.quiet hgd hr (da_cons (de_sub_ix (se_var (pv 2)) (SE.of de_int)) (da_cons (de_sub_ix (se_var (pv 2)) (SE.of de_int)) (da_cons (de_sub_ix (se_var (pv 2)) (SE.of de_int)) (da_cons (de_sub_ix (se_var (pv 2)) (SE.of de_int)) da_nil))))) da_nil))) (dg_tup (m := 2) (dgs_cons (dg_name (pg_name (i := 3) sc_law_are_equal_right.nd rfl (Or.inr rfl))) (dgs_cons (dg_name (pg_name (i := 4) sc_law_are_equal_right.nd rfl (Or.inl rfl))) dgs_nil))))
      (dss_cons (ds_asg (de_add (SE.of (de_sub_ix (se_var (pv 1)) (SE.of de_int))) (SE.of (de_mul (SE.of (de_sub_ix (se_var (pv 1)) (SE.of de_int))) (SE.of (de_fnC h_law_draw hgd (hr.mono (by decide)) (da_cons (de_var (pv 0)) (da_cons de_int da_nil))))))) (dg_name (pg_name (i := 5) sc_law_are_equal_right.nd rfl (Or.inl rfl))))
      (dss_cons (ds_asg (de_tuple B.tuple rfl (sa_cons (SE.of (DE.of (fe_lc (own := [("_law_length", 8)]) (di_range1 B.range rfl (da_cons (de_var (pv 5)) da_nil)) sc_law_are_equal_right.nd (blkOk_by (N := ["_law_deck_here", "_law_lot_here", "_law_mate", "_law_one", "_law_other", "_law_far_here", "_law_few", "_law_near", "_law_length", "_law_it"]) (sc := defScope s_law_are_equal_right) (own := [("_law_length", 8)]) (by decide +kernel)) (by decide) (fun _ _ _ _ _ => (dg_name (pg_name (i := 8) sc_law_are_equal_right.nd rfl (Or.inl rfl)))) (fun _ _ _ _ _ => (dts_one (dt_val (de_fnC h_law_in hgd (hr.mono (by decide)) (da_cons (de_var (pv 1)) (da_cons (de_var (pv 8)) da_nil)))))) (fun _ _ _ _ _ => (de_var (pv 8)))))) sa_nil)) (dg_name (pg_name (i := 6) sc_law_are_equal_right.nd rfl (Or.inl rfl))))
      (dss_cons (ds_asg (de_make h_Lengths.quiet hgd hr (da_cons (de_var (pv 6)) (da_cons (de_var (pv 5)) (da_cons (de_sub_ix (se_var (pv 1)) (SE.of de_int)) (da_cons (de_sub_ix (se_var (pv 1)) (SE.of de_int)) da_nil))))) (dg_name (pg_name (i := 7) sc_law_are_equal_right.nd rfl (Or.inl rfl))))
      (dss_cons (ds_if (dt_w (dw_or (dt_neM I_Lengths h_Lengths_eq hgd (hr.mono (by decide)) (de_var (pv 3)) (de_var (pv 7))) (dw_or (dt_not (dt_eqM I_Lengths h_Lengths_eq hgd (hr.mono (by decide)) (de_var (pv 3)) (de_var (pv 7)))) (dw_or1 (dt_ne hr.units (SE.of (de_eqM I_Lengths h_Lengths_eq hgd (hr.mono (by decide)) (de_var (pv 3)) (de_var (pv 4)))) (SE.of (de_eq hr.units (SE.of (de_fnC h_law_least hgd (hr.mono (by decide)) (da_cons (de_var (pv 1)) da_nil))) (SE.of (de_fnC h_law_least hgd (hr.mono (by decide)) (da_cons (de_var (pv 2)) da_nil)))))))))) (dss_one (ds_ret (SE.of de_bl))) dss_nil)
      (dss_one (ds_ret (SE.of (de_eq hr.units (SE.of (DE.of (fe_lc (own := [("_law_it", 9)]) (di_iter (de_tup (da_cons de_non (da_cons de_int (da_cons (de_var (pv 1)) (da_cons de_str (da_cons (DE.of (fe_list B.list rfl (sa_cons (se_var (pv 1)) sa_nil))) (da_cons (de_fnC h_law_told hgd (hr.mono (by decide)) (da_cons (de_var (pv 3)) da_nil)) da_nil)))))))) sc_law_are_equal_right.nd (blkOk_by (N := ["_law_deck_here", "_law_lot_here", "_law_mate", "_law_one", "_law_other", "_law_far_here", "_law_few", "_law_near", "_law_length", "_law_it"]) (sc := defScope s_law_are_equal_right) (own := [("_law_it", 9)]) (by decide +kernel)) (by decide) (fun _ _ _ _ _ => (dg_name (pg_name (i := 9) sc_law_are_equal_right.nd rfl (Or.inl rfl)))) (fun _ _ _ _ _ => (dts_one (dt_eqM I_Lengths h_Lengths_eq hgd (hr.mono (by decide)) (de_var (pv 3)) (de_var (pv 9))))) (fun _ _ _ _ _ => (de_var (pv 9)))))) (SE.of (DE.of (fe_lst da_nil)))))))))))), ?_⟩)
  · rintro ds n R ⟨l, l2, rfl, _⟩; rfl
  · rintro ds n R ⟨l, l2, rfl, hn, hl, hl2, hR⟩
    obtain ⟨m, hm⟩ := LeastOf.ex hl.ok
    obtain ⟨m2, hm2⟩ := LeastOf.ex hl2.ok
    unfold ptD
    walk_at "pl"
    refine callS_of _ _ (.inl ⟨l, m, rfl, hl.fit, hm, ?_⟩)
    try walk_at "pl"
    refine callS_of _ _ (.inl ⟨l2, m2, rfl, hl2.fit, hm2, ?_⟩)
    try walk_at "pl"
    refine callS_of _ _ ⟨_, rfl, by decide, by decide, by omega, fun x x0 x1 => ?_⟩
    obtain ⟨x, rfl⟩ := Int.eq_ofNat_of_zero_le x0
    try walk_at "pl"
    have hm1 : l.lap * x ≤ 12 * 2 := Nat.mul_le_mul hl.lap (by omega)
    have hm0 := hl.first
    have hm00 := hl.lap
    rw [show ((l.first : Int) + (l.lap : Int) * (x : Int)) = ((l.first + l.lap * x : Nat) : Int) by rw [Int.natCast_add, Int.natCast_mul], Int.toNat_natCast, ints_range0]
    obtain ⟨far, hfar⟩ : ∃ f, l.first + l.lap * x = f := ⟨_, rfl⟩
    rw [hfar]
    refine ⟨MulOk.wide (a := 65) (b := 65) (by omega) (by omega), by omega, by omega, by rw [nD_len, List.length_range]; omega, ?_⟩
    refine lcW_flt (fun d => l.has (intOf d).toNat) id _ _ (fun d hd acc L hL => ?_) ?_
    · obtain ⟨y, hy, rfl⟩ := List.mem_map.mp hd
      try walk_at "pl"
      refine callS_of _ _ ⟨_, _, l, y, rfl, .inl rfl, .inl rfl, hl.ok.lap, ?_⟩
      exact hL
    rw [List.nil_append, List.map_id, nD_filter (fun y => l.has y)]
    try walk_at "pl"
    have hlen : ((List.range far).filter l.has).length ≤ far := by
      have := List.length_filter_le l.has (List.range far)
      rwa [List.length_range] at this
    have hnr : Fit ⟨(List.range far).filter l.has, far, l.lap, l.rests⟩ := ⟨⟨List.Pairwise.filter _ List.pairwise_lt_range, fun y hy => List.mem_range.mp (List.mem_filter.mp hy).1, hl.ok.lap, hl.ok.rests, hl.ok.rlt⟩, show far ≤ 5000 by omega, show ((List.range far).filter l.has).length ≤ 5000 by omega, hl.fit.lap⟩
    have hnm : LeastOf ⟨(List.range far).filter l.has, far, l.lap, l.rests⟩ m := hm.far hl.ok rfl rfl (show l.first ≤ far by omega) rfl
    refine callS_of _ _ (.inl ⟨_, m, rfl, hnr, hnm, ?_⟩)
    have ff := few_len hl.ok
    have ff2 := few_len hl2.ok
    have hl3 := hl.lap
    have hl4 := hl2.lap
    have hl5 := hl2.first
    have okm := okPt (fit_of hl.fit hm).1 (by have := (fit_of hl.fit hm).2; omega)
    have okm2 := okPt (fit_of hl2.fit hm2).1 (by have := (fit_of hl2.fit hm2).2; omega)
    clear hnr hnm hlen
    try walk_at "pl"
    refine ⟨rfl, rfl, callS_of _ _ (.inl ⟨m, m, rfl, okm, okm, ?_⟩)⟩
    rw [eqD_refl _ okm.1]
    try walk_at "pl"
    refine ⟨rfl, rfl, callS_of _ _ (.inl ⟨m, m, rfl, okm, okm, ?_⟩)⟩
    rw [eqD_refl _ okm.1]
    try walk_at "pl"
    refine ⟨rfl, rfl, callS_of _ _ (.inl ⟨m, m2, rfl, okm, okm2, ?_⟩)⟩
    try walk_at "pl"
    refine callS_of _ _ ⟨l, m, rfl, hl.fit, hm, ?_⟩
    try walk_at "pl"
    refine callS_of _ _ ⟨l2, m2, rfl, hl2.fit, hm2, ?_⟩
    show oEq (D.tup (ptD m)) (D.tup (ptD m2)) _
    refine oEq_D okm okm2 ?_
    refine oNe_same okBl ?_
    dsimp only
    rw [if_neg (by decide), q_next]
    dsimp only
    rw [q_ret, q_bin]
    simp only [env0, envI, nxI, List.length_cons, List.length_nil, List.map_cons, List.map_nil, List.replicate_succ, List.replicate_zero, List.cons_append, List.nil_append, List.set_cons_zero, List.set_cons_succ, Nat.reduceAdd, Nat.reduceSub, Nat.zero_add]
    exact lcE_ok (hR _ (by omega) (by omega))
end
end K58

set_option pp.maxSteps 1500
namespace K58
open PySem PySem.Spec L2 PL M58
local macro_rules | `(tactic| walk_at "pl") => `(tactic| simp (maxSteps := 3000000) (dsimp := false) only [env0, envI, nxI, ↓q_srtsc, ↓q_inm, ↓q_eqm, ↓q_isia, ↓q_isic, ↓q_gfset, ↓asBl_f, ↓asBl_t, ↓q_gseq, ↓q_dk, ↓q_dict, ↓o_dictp, ↓q_lrg1, ↓q_lrg2, ↓q_zips, ↓o_zips, ↓o_maxl, List.map_cons, List.map_nil, List.length_cons, List.length_nil, List.replicate_succ, List.replicate_zero, List.cons_append, List.nil_append, List.getElem?_cons_zero, List.getElem?_cons_succ, List.set_cons_zero, List.set_cons_succ, Nat.reduceAdd, Nat.reduceSub, Nat.zero_add, ↓q_seq, ↓q_rowsD, ↓q_srt3, ↓q_rev2, ↓o_augs_int, ↓o_augd_int, ↓q_fnx, ↓q_fnxk, ↓q_raise, ↓q_try, ↓q_xf, ↓q_xis, ↓o_xf, ↓q_dsk, ↓q_pa0, ↓q_pa, ↓q_fld, ↓q_fset, ↓q_srt, ↓q_srtset, ↓q_lset, ↓q_laug, ↓q_extend, ↓o_lta_int, ↓o_lta_str, ↓o_lta_tup, ↓o_ins, ↓q_dc, ↓q_goals, ↓o_rep, kl_nil, kl_cons, Nat.reduceMod, ↓o_augm_int, ↓o_ltI, ↓q_dget, ↓q_dgett, ↓q_int, ↓q_dput, ↓q_dputt, ↓q_mnil, ↓q_msh, ↓q_mown, ↓q_parm, ↓q_rd3, ↓q_chain, ↓o_in_lst, ↓o_in_tup, ↓o_in_dic, ↓o_isn, ↓o_mult, ↓o_suma_lstI, ↓o_suma_tupI, ↓o_sumI, ↓o_lend, ↓o_tuplel, k_int, k_str, setC_cons, setC_nil, ↓q_next, ↓q_brk, ↓q_cnt, ↓q_ret, ↓q_ifs, ↓q_drop, ↓q_asg, ↓q_own, ↓q_par, ↓q_par3, ↓q_append, ↓q_for, ↓q_gset, ↓q_gtup, ↓q_gcons, ↓q_gnil, ↓q_aug, ↓q_var, ↓q_rd, ↓q_c, ↓q_bin, ↓q_un, ↓q_b, ↓q_not, ↓q_and, ↓q_or, ↓q_andv, ↓q_orv, ↓q_notv, ↓q_if, ↓q_nil, ↓q_cons, ↓q_consts, ↓q_tup, ↓q_lst, ↓q_sl, ↓q_no, ↓q_part, ↓q_rev, ↓q_call, ↓q_fn, ↓q_fnb, ↓q_fnk, ↓q_isi, ↓q_join, ↓q_lc, ↓q_yes, ↓q_r1, ↓q_r2, ↓q_iter, ↓q_enum, ↓q_enumk, ↓q_zip, ↓q_frz, ↓q_fmt, ↓q_js0, ↓q_js, ↓o_add_int, ↓o_add_str, ↓o_add_lst, ↓o_add_tup, ↓o_sub, ↓o_mul_int, ↓o_mul_lst, ↓o_mod, ↓o_div, ↓o_pow, ↓o_lt_int, ↓o_lt_str, ↓o_le, ↓o_gt, ↓o_ge, ↓o_ix_lst, ↓o_ix_tup, ↓o_ix_str, ↓o_sl_lst, ↓o_sl_tup, ↓o_sl_str, ↓o_len_lst, ↓o_len_tup, ↓o_len_str, ↓o_int_int, ↓o_int_bl, ↓o_int_str, ↓o_list_lst, ↓o_list_tup, ↓o_tuple_lst, ↓o_tuple_tup, ↓o_abs, ↓o_max, ↓o_min, ↓o_str, ↓o_all, ↓o_any, ↓o_aug_int, ↓i_lst, ↓i_tup, ↓i_str, ↓w_nil, ↓w_cons, ↓pk_cons', ↓pk_nil', ↓oEq_int, ↓oNe_int, ↓oEq_str, ↓oNe_str, noOwn, List.all_cons, List.all_nil, Bool.and_self, Bool.and_true, Bool.true_and, b_nd, decide_eq_true_eq, true_and, and_true, atI0, atI1, atI2, atI3, ↓ty_non, ↓ty_bl, ↓ty_int, ↓ty_str, ↓ty_lst, ↓ty_tup, ↓ty_dic, kk_NoneType_bool, kk_NoneType_int, kk_NoneType_str, kk_NoneType_list, kk_NoneType_tuple, kk_NoneType_dict, kk_bool_bool, kk_bool_int, kk_bool_str, kk_bool_list, kk_bool_tuple, kk_bool_dict, kk_int_bool, kk_int_int, kk_int_str, kk_int_list, kk_int_tuple, kk_int_dict, kk_str_bool, kk_str_int, kk_str_str, kk_str_list, kk_str_tuple, kk_str_dict, kk_list_bool, kk_list_int, kk_list_str, kk_list_list, kk_list_tuple, kk_list_dict, kk_tuple_bool, kk_tuple_int, kk_tuple_str, kk_tuple_list, kk_tuple_tuple, kk_tuple_dict, kk_dict_bool, kk_dict_int, kk_dict_str, kk_dict_list, kk_dict_tuple, kk_dict_dict, Bool.not_true, Bool.not_false, Bool.false_eq_true, if_true, if_false, ↓reduceIte, Bool.not_eq_true, List.isEmpty_nil, List.isEmpty_cons, not_true_eq_false, not_false_eq_true, decide_true, decide_false, List.flatten_cons, List.flatten_nil, sizeLine_val, Nat.reduceLeDiff, Nat.reduceLT, Nat.reduceMul, Int.reducePow, Int.reduceNeg, Int.reduceLE, Int.reduceLT, Int.reduceToNat, Int.reduceAdd, Int.reduceSub, Int.reduceMul])
local macro_rules | `(tactic| walk_at "dep") => `(tactic| (simp only [depD, depL, bulkD, bulkL]; first | decide | omega | (rw [← Nat.ble_eq]; rfl)))
local macro_rules | `(tactic| walk_at "nice") => `(tactic| (simp only [niceD, niceL, Bool.and_true, Bool.true_and, Bool.and_eq_true, decide_eq_true_eq, and_true, true_and]))
section
variable {P : Program} {w : World} {K : PySem.W.Frag} {mg : Str → Option Value} {base : Heap}
end
section
variable {P : Program} {w : World} {K : PySem.W.Frag} {mg : Str → Option Value} {base : Heap}
/-- a comprehension with draws that takes no item -/
theorem lcW_none {t : TPG} {tt : TPT} {te : TPE} {ρ : PEnv} (c : Nat) {R : List D → Nat → Prop} {ds : List D} {n : Nat} (h : ∀ d ∈ ds, ∀ (m : Nat) (acc : List D) (L : List D → Nat → Prop), n ≤ m → m + c ≤ n + c * ds.length → (∀ k, m ≤ k → k ≤ m + c → L acc k) → t d ρ m fun ρ1 n1 => tt ρ1 n1 fun b n2 => if b = true then te ρ1 n2 fun y n3 => L (acc ++ [y]) n3 else L acc n2)
    (hR : ∀ (k : Nat), n ≤ k → k ≤ n + c * ds.length → R [] k) : lcW t tt te ds [] ρ n R := by
  have go : ∀ (es pre : List D) (m : Nat), pre ++ es = ds → n ≤ m → m ≤ n + c * pre.length → lcW t tt te es [] ρ m R := by
    intro es
    induction es with
    | nil =>
      intro pre m e h1 h2
      rw [List.append_nil] at e
      subst e
      exact hR m h1 h2
    | cons d es ih =>
      intro pre m e h1 h2
      rw [lcW_cons]
      have hl : pre.length + 1 + es.length = ds.length := by rw [← e]; simp; omega
      have hb : c * (pre.length + 1) ≤ c * ds.length := Nat.mul_le_mul_left _ (by omega)
      rw [Nat.mul_succ] at hb
      have hd : d ∈ ds := by rw [← e]; simp
      have e2 : (pre ++ [d]) ++ es = ds := by rw [← e]; simp
      have l2 : (pre ++ [d]).length = pre.length + 1 := by simp
      refine h d hd m [] (fun acc n => lcW t tt te es acc ρ n R) h1 (by omega) (fun k k1 k2 => ?_)
      exact ih (pre ++ [d]) k e2 (by omega) (by rw [l2, Nat.mul_succ]; omega)
  exact go ds [] n rfl (Nat.le_refl _) (by simp)
def lA : Lot := ⟨[], 0, 2, [0]⟩
def lB : Lot := ⟨[], 0, 1, []⟩
theorem fitX {l : Lot} (h1 : l.few.Pairwise (· < ·)) (h2 : ∀ x ∈ l.few, x < l.first) (h3 : 0 < l.lap) (h4 : l.rests.Pairwise (· < ·)) (h5 : ∀ x ∈ l.rests, x < l.lap) (h6 : l.first ≤ 5000) (h7 : l.few.length ≤ 5000) (h8 : l.lap ≤ 3000) : Fit l := ⟨⟨h1, h2, h3, h4, h5⟩, h6, h7, h8⟩
theorem least_A1 : LeastOf ⟨[0], 2, 4, [0, 2]⟩ lA := by
  have hp : ∀ x, Lot.P ⟨[0], 2, 4, [0, 2]⟩ x = decide (x % 2 = 0) := fun x => by
    show decide (x % 4 ∈ [0, 2]) = _
    refine decide_eq_decide.mpr ?_
    simp only [List.mem_cons, List.not_mem_nil, or_false]
    omega
  refine ⟨⟨by decide, by decide, fun x => ?_, fun d h0 _ h => ?_⟩, ⟨by decide, fun x h1 h2 => ?_, .inl rfl⟩, by decide, by decide⟩
  · rw [hp, hp]; exact decide_eq_decide.mpr (by show (x + 2) % 2 = 0 ↔ _; omega)
  · have e := h 0
    rw [hp, hp] at e
    have e := decide_eq_decide.mp e
    show 2 ≤ d
    omega
  · rw [hp, List.mem_singleton, decide_eq_true_iff]
    have h2 : x < 2 := h2
    omega
theorem least_A2 : LeastOf ⟨[], 0, 2, [0]⟩ lA := by
  have hp : ∀ x, Lot.P ⟨[], 0, 2, [0]⟩ x = decide (x % 2 = 0) := fun x => by
    show decide (x % 2 ∈ [0]) = _
    refine decide_eq_decide.mpr ?_
    simp only [List.mem_cons, List.not_mem_nil, or_false]
  refine ⟨⟨by decide, by decide, fun x => ?_, fun d h0 _ h => ?_⟩, ⟨by decide, fun x h1 h2 => ?_, .inl rfl⟩, by decide, by decide⟩
  · rw [hp, hp]; exact decide_eq_decide.mpr (by show (x + 2) % 2 = 0 ↔ _; omega)
  · have e := h 0
    rw [hp, hp] at e
    have e := decide_eq_decide.mp e
    show 2 ≤ d
    omega
  · exact absurd h2 (Nat.not_lt_zero _)
theorem least_B1 : LeastOf ⟨[], 7, 9, []⟩ lB := by
  have hp : ∀ x, Lot.P ⟨[], 7, 9, []⟩ x = false := fun x => rfl
  refine ⟨⟨by decide, by decide, fun x => ?_, fun d h0 _ h => ?_⟩, ⟨by decide, fun x h1 h2 => ?_, .inl rfl⟩, by decide, by decide⟩
  · rw [hp, hp]
  · exact h0
  · rw [hp]; simp
theorem least_B2 : LeastOf ⟨[], 0, 1, []⟩ lB := by
  have hp : ∀ x, Lot.P ⟨[], 0, 1, []⟩ x = false := fun x => rfl
  refine ⟨⟨by decide, by decide, fun x => ?_, fun d h0 _ h => ?_⟩, ⟨by decide, fun x h1 h2 => ?_, .inl rfl⟩, by decide, by decide⟩
  · rw [hp, hp]
  · exact h0
  · rw [hp]; simp
theorem okAB : okD (.tup (ptD lA)) ∧ okD (.tup (ptD lB)) := ⟨okT (by decide +kernel) (by decide +kernel) (by decide +kernel), okT (by decide +kernel) (by decide +kernel) (by decide +kernel)⟩
theorem fin_ok (ρ : PEnv) (k : Nat) : pAndV (pEqM 3 false S_Lengths_eq (pFn (quiet S_Lengths_init) (pCons (pTup (pCons (pC (D.int 0)) pNil)) (pCons (pC (D.int 2)) (pCons (pC (D.int 4)) (pCons (pTup (pCons (pC (D.int 0)) (pCons (pC (D.int 2)) pNil))) pNil))))) (pFn (quiet S_Lengths_init) (pCons (pTup pNil) (pCons (pC (D.int 0)) (pCons (pC (D.int 2)) (pCons (pTup (pCons (pC (D.int 0)) pNil)) pNil)))))) (pEqM 3 false S_Lengths_eq (pFn (quiet S_Lengths_init) (pCons (pTup pNil) (pCons (pC (D.int 7)) (pCons (pC (D.int 9)) (pCons (pTup pNil) pNil))))) (pFn (quiet S_Lengths_init) (pCons (pTup pNil) (pCons (pC (D.int 0)) (pCons (pC (D.int 1)) (pCons (pTup pNil) pNil)))))) ρ k (fun d _ => d = D.bl true) := by
  walk_at "pl"
  refine callS_of _ _ (.inl ⟨⟨[0], 2, 4, [0, 2]⟩, lA, rfl, fitX (by decide) (by decide) (by decide) (by decide) (by decide) (by decide) (by decide) (by decide), least_A1, ?_⟩)
  try walk_at "pl"
  refine callS_of _ _ (.inl ⟨⟨[], 0, 2, [0]⟩, lA, rfl, fitX (by decide) (by decide) (by decide) (by decide) (by decide) (by decide) (by decide) (by decide), least_A2, ?_⟩)
  try walk_at "pl"
  refine ⟨rfl, rfl, callS_of _ _ (.inl ⟨lA, lA, rfl, okAB.1, okAB.1, ?_⟩)⟩
  rw [eqD_refl _ okAB.1.1]
  try walk_at "pl"
  refine callS_of _ _ (.inl ⟨⟨[], 7, 9, []⟩, lB, rfl, fitX (by decide) (by decide) (by decide) (by decide) (by decide) (by decide) (by decide) (by decide), least_B1, ?_⟩)
  try walk_at "pl"
  refine callS_of _ _ (.inl ⟨⟨[], 0, 1, []⟩, lB, rfl, fitX (by decide) (by decide) (by decide) (by decide) (by decide) (by decide) (by decide) (by decide), least_B2, ?_⟩)
  try walk_at "pl"
  refine ⟨rfl, rfl, callS_of _ _ (.inl ⟨lB, lB, rfl, okAB.2, okAB.2, ?_⟩)⟩
  rw [eqD_refl _ okAB.2.1]
  try walk_at "pl"
theorem ok_law {f : Addr} {fd : FuncData} (F : Fun K "law" "law" s_law f fd) (B : BI mg) {f0 : Addr} {fd0 : FuncData} (D0 : FnG P w K mg base 1 f0 fd0 ["_law_script"] (spDeck K)) (m0 : mg "_law_deck" = some (.ref f0)) (k0 : PySem.W.keepIn K (.ref f0) = true) (b0 : Binds K fd0 ["_law_script"] []) (I_Lengths : InsT K 3) (h_Lengths_eq : MetC P w K mg base 1 "__eq__" 3 ["self", "other"] S_Lengths_eq) (h_Lengths : MkCX P w K mg base 3 "Lengths" 3 "self" ["few", "first", "around", "rests"] [(["rests", "around", "first", "few"], [3, 2, 1, 0])] S_Lengths_init) (h_law_lot : FnC P w K mg base 3 "_law_lot" ["_law_deck_here"] [] S_law_lot) (h_law_draw : FnC P w K mg base 1 "_law_draw" ["_law_deck_here", "_law_many"] [] S_law_draw) (h_law_are_lengths_right : FnC P w K mg base 5 "_law_are_lengths_right" ["_law_deck_here", "_law_lot_here"] [] S_law_are_lengths_right) (h_law_are_equal_right : FnC P w K mg base 5 "_law_are_equal_right" ["_law_deck_here", "_law_lot_here", "_law_mate"] [] S_law_are_equal_right) (h_law_is_made_right : FnC P w K mg base 6 "_law_is_made_right" ["_law_deck_here", "_law_lot_here"] [] S_law_is_made_right) : FnG P w K mg base 7 f fd ["_law_script"] (PL.spL K) := by
  refine law_of (k := 6) F sc_law rfl (fun cdv A outer s H E hgd hr => ⟨ps_deck D0 hgd (hr.mono (by decide)) sc_law.nd m0 k0 b0 (pv 0) (.inr rfl), _, (dss_cons (ds_own (i := 2) (fe_lst (da_cons (de_fnC h_law_lot hgd (hr.mono (by decide)) (da_cons (de_var (pv 1)) da_nil)) (da_cons (de_fnC h_law_lot hgd (hr.mono (by decide)) (da_cons (de_var (pv 1)) da_nil)) da_nil))) (pg_name (i := 2) sc_law.nd rfl (Or.inl rfl)))
      (dss_cons (ds_if (dt_eq hr.units (SE.of (de_fnC h_law_draw hgd (hr.mono (by decide)) (da_cons (de_var (pv 1)) (da_cons de_int da_nil)))) (SE.of de_int)) (dss_cons (ds_asg (de_add (SE.of de_int) (SE.of (de_fnC h_law_draw hgd (hr.mono (by decide)) (da_cons (de_var (pv 1)) (da_cons de_int da_nil))))) (dg_name (pg_name (i := 3) sc_law.nd rfl (Or.inl rfl))))
      (dss_one (ds_append (pv 2) (de_tup (da_cons (de_tup da_nil) (da_cons de_int (da_cons (de_var (pv 3)) (da_cons (de_tuple B.tuple rfl (sa_cons (SE.of (DE.of (fe_lc (own := [("_law_rest", 5)]) (di_range1 B.range rfl (da_cons (de_var (pv 3)) da_nil)) sc_law.nd (blkOk_by (N := ["_law_script", "_law_deck_here", "_law_lots", "_law_around", "_law_lot_here", "_law_rest"]) (sc := defScope s_law) (own := [("_law_rest", 5)]) (by decide +kernel)) (by decide) (fun _ _ _ _ _ => (dg_name (pg_name (i := 5) sc_law.nd rfl (Or.inl rfl)))) (fun _ _ _ _ _ => (dts_one (dt_lt (SE.of (de_mod (se_var (pv 5)) (SE.of de_int))) (SE.of de_int)))) (fun _ _ _ _ _ => (de_var (pv 5)))))) sa_nil)) da_nil)))))))) dss_nil)
      (dss_cons (ds_frz 2 (ds_if (dt_ne hr.units (SE.of (DE.of (fe_lc (own := [("_law_lot_here", 4)]) (di_iter (de_var (pv 2))) sc_law.nd (blkOk_by (N := ["_law_script", "_law_deck_here", "_law_lots", "_law_around", "_law_lot_here", "_law_rest"]) (sc := defScope s_law) (own := [("_law_lot_here", 4)]) (by decide +kernel)) (by decide) (fun _ _ _ _ _ => (dg_name (pg_name (i := 4) sc_law.nd rfl (Or.inl rfl)))) (fun _ _ _ _ _ => (dts_one (dt_not (dt_val (de_fnC h_law_is_made_right hgd hr (da_cons (de_var (pv 1)) (da_cons (de_var (pv 4)) da_nil))))))) (fun _ _ _ _ _ => (de_var (pv 4)))))) (SE.of (DE.of (fe_lst da_nil)))) (dss_one (ds_ret (SE.of de_bl))) dss_nil))
      (dss_cons (ds_if (dt_w (dw_or (dt_not (dt_val (de_fnC h_law_are_lengths_right hgd (hr.mono (by decide)) (da_cons (de_var (pv 1)) (da_cons (de_sub_ix (se_var (pv 2)) (SE.of de_int)) da_nil))))) (dw_or1 (dt_not (dt_val (de_fnC h_law_are_equal_right hgd (hr.mono (by decide)) (da_cons (de_var (pv 1)) (da_cons (de_sub_ix (se_var (pv 2)) (SE.of de_int)) (da_cons (de_sub_ix (se_var (pv 2)) (SE.of de_int)) da_nil))))))))) (dss_one (ds_ret (SE.of de_bl))) dss_nil)
      (dss_one (ds_ret (SE.of (de_and (de_eqM I_Lengths h_Lengths_eq hgd (hr.mono (by decide)) (de_make h_Lengths.quiet hgd (hr.mono (by decide)) (da_cons (de_tup (da_cons de_int da_nil)) (da_cons de_int (da_cons de_int (da_cons (de_tup (da_cons de_int (da_cons de_int da_nil))) da_nil))))) (de_make h_Lengths.quiet hgd (hr.mono (by decide)) (da_cons (de_tup da_nil) (da_cons de_int (da_cons de_int (da_cons (de_tup (da_cons de_int da_nil)) da_nil)))))) (de_one (de_eqM I_Lengths h_Lengths_eq hgd (hr.mono (by decide)) (de_make h_Lengths.quiet hgd (hr.mono (by decide)) (da_cons (de_tup da_nil) (da_cons de_int (da_cons de_int (da_cons (de_tup da_nil) da_nil))))) (de_make h_Lengths.quiet hgd (hr.mono (by decide)) (da_cons (de_tup da_nil) (da_cons de_int (da_cons de_int (da_cons (de_tup da_nil) da_nil))))))))))))))), ?_⟩)
  try walk_at "pl"
  have hlim : ∀ x : Nat, x ≤ 30000 → x ≤ lim := fun x hx => by unfold lim; omega
  have hlim2 : ∀ x : Nat, x ≤ 30000 → x < lim := fun x hx => by unfold lim; omega
  refine callS_of _ _ ⟨rfl, hlim _ (by omega), fun l1 n1 hl1 a1 b1 => ?_⟩
  try walk_at "pl"
  refine callS_of _ _ ⟨rfl, hlim _ (by omega), fun l2 n2 hl2 a2 b2 => ?_⟩
  try walk_at "pl"
  refine callS_of _ _ ⟨_, rfl, by decide, by decide, hlim2 _ (by omega), fun z z0 z1 => ?_⟩
  try walk_at "pl"
  by_cases c : z = 0
  · rw [if_pos c]
    refine callS_of _ _ ⟨_, rfl, by decide, by decide, hlim2 _ (by omega), fun y y0 y1 => ?_⟩
    try walk_at "pl"
    obtain ⟨a, ha⟩ := Int.eq_ofNat_of_zero_le (show 0 ≤ 1 + y by omega)
    rw [ha, Int.toNat_natCast, ints_range0]
    refine ⟨by omega, by omega, by rw [nD_len, List.length_range]; omega, ?_⟩
    refine lcW_flt (fun d => decide ((intOf d).toNat % 7 < 3)) id _ _ (fun d hd acc L hL => ?_) ?_
    · obtain ⟨x, hx, rfl⟩ := List.mem_map.mp hd
      have hL : (if decide (x % 7 < 3) = true then L (acc ++ [.int (x : Int)]) (n2 + 1 + 1) else L acc (n2 + 1 + 1)) := hL
      try walk_at "pl"
      rw [fmod_pos (by decide)]
      refine ⟨by decide, ?_⟩
      by_cases c1 : x % 7 < 3
      · rw [if_pos (by omega)]
        rw [if_pos (decide_eq_true c1)] at hL
        exact hL
      · rw [if_neg (by omega)]
        rw [decide_eq_false c1, if_neg (by decide)] at hL
        exact hL
    rw [List.nil_append, List.map_id, nD_filter (fun x => decide (x % 7 < 3))]
    try walk_at "pl"
    clear c
    have sz : ∀ {l : Lot}, Small l → Fit l ∧ l.few.length + l.lap ≤ 7000 := fun hl => ⟨hl.fit, by have := few_len hl.ok; have := hl.first; have := hl.lap; omega⟩
    have hmem : ∀ d ∈ [D.tup (ptD l1), D.tup (ptD l2), D.tup [D.tup [], D.int 0, D.int ↑a, D.tup (nD (List.filter (fun x => decide (x % 7 < 3)) (List.range a)))]], ∃ l, d = .tup (ptD l) ∧ Fit l ∧ l.few.length + l.lap ≤ 7000 := by
      intro d hd
      simp only [List.mem_cons, List.not_mem_nil, or_false] at hd
      rcases hd with rfl | rfl | rfl
      · exact ⟨l1, rfl, sz hl1⟩
      · exact ⟨l2, rfl, sz hl2⟩
      · exact ⟨⟨[], 0, a, List.filter (fun x => decide (x % 7 < 3)) (List.range a)⟩, rfl, fitX .nil (fun _ h => nomatch h) (show 0 < a by omega) (List.Pairwise.filter _ List.pairwise_lt_range) (fun x hx => List.mem_range.mp (List.mem_filter.mp hx).1) (show 0 ≤ 5000 by decide) (show 0 ≤ 5000 by decide) (show a ≤ 3000 by omega), show 0 + a ≤ 7000 by omega⟩
    clear sz
    refine lcW_none 50 (fun d hd m acc L m1 m2 hL => ?_) fun k k1 k2 => ?_
    · obtain ⟨l, rfl, hl⟩ : ∃ l, d = .tup (ptD l) ∧ Fit l ∧ l.few.length + l.lap ≤ 7000 := hmem d hd
      simp only [List.length_cons, List.length_nil] at m2
      try walk_at "pl"
      refine callS_of _ _ ⟨l, rfl, hlim _ (by omega), hl.1, hl.2, fun k k1 k2 => ?_⟩
      exact hL k k1 k2
    simp only [List.length_cons, List.length_nil] at k2
    refine oNe_same okNilL ?_
    dsimp only
    rw [if_neg (by decide)]
    refine callS_of _ _ ⟨l1, rfl, hlim _ (by omega), hl1.fit, fun k3 k4 k5 => ?_⟩
    try walk_at "pl"
    refine callS_of _ _ ⟨l1, l2, rfl, hlim _ (by omega), hl1, hl2, fun k6 k7 k8 => ?_⟩
    dsimp only
    rw [if_neg (by decide), q_next]
    dsimp only
    rw [q_ret]
    exact fin_ok _ _
  · rw [if_neg c]
    clear c
    have sz : ∀ {l : Lot}, Small l → Fit l ∧ l.few.length + l.lap ≤ 7000 := fun hl => ⟨hl.fit, by have := few_len hl.ok; have := hl.first; have := hl.lap; omega⟩
    have hmem : ∀ d ∈ [D.tup (ptD l1), D.tup (ptD l2)], ∃ l, d = .tup (ptD l) ∧ Fit l ∧ l.few.length + l.lap ≤ 7000 := by
      intro d hd
      simp only [List.mem_cons, List.not_mem_nil, or_false] at hd
      rcases hd with rfl | rfl
      · exact ⟨l1, rfl, sz hl1⟩
      · exact ⟨l2, rfl, sz hl2⟩
    clear sz
    refine lcW_none 50 (fun d hd m acc L m1 m2 hL => ?_) fun k k1 k2 => ?_
    · obtain ⟨l, rfl, hl⟩ : ∃ l, d = .tup (ptD l) ∧ Fit l ∧ l.few.length + l.lap ≤ 7000 := hmem d hd
      simp only [List.length_cons, List.length_nil] at m2
      try walk_at "pl"
      refine callS_of _ _ ⟨l, rfl, hlim _ (by omega), hl.1, hl.2, fun k k1 k2 => ?_⟩
      exact hL k k1 k2
    simp only [List.length_cons, List.length_nil] at k2
    refine oNe_same okNilL ?_
    dsimp only
    rw [if_neg (by decide)]
    refine callS_of _ _ ⟨l1, rfl, hlim _ (by omega), hl1.fit, fun k3 k4 k5 => ?_⟩
    try walk_at "pl"
    refine callS_of _ _ ⟨l1, l2, rfl, hlim _ (by omega), hl1, hl2, fun k6 k7 k8 => ?_⟩
    dsimp only
    rw [if_neg (by decide), q_next]
    dsimp only
    rw [q_ret]
    exact fin_ok _ _
end
theorem all_mk {l : PySem.W.OpenLaw} {w : World} {K : PySem.W.Frag} {h : Heap} {mg : Str → Option Value} {fa : Addr} (X : K.In h) (G : h.Ns mainGlobals mg) (hfa : mg "law" = some (.ref fa))
    {C_Lengths : Addr} (aC_Lengths : PySem.W.nsIn K mainGlobals "Lengths" = some (some (.ref C_Lengths))) (pg_Lengths : PySem.W.plainGet K C_Lengths Str.empty = true) (hd_Lengths : PySem.W.hasDictIn K C_Lengths = true) (po_Lengths : PySem.W.plainOver K C_Lengths = true) (sa_Lengths : PySem.W.findIn K (.ref C_Lengths) "__setattr__" = some (some (.builtin "object.__setattr__"))) (mk_Lengths : PySem.W.makesIn K C_Lengths = true) (kc_Lengths : PySem.W.keepIn K (.ref C_Lengths) = true)
    (na_Lengths_0 : PySem.W.findIn K (.ref C_Lengths) "around" = some none)
    (na_Lengths_1 : PySem.W.findIn K (.ref C_Lengths) "rests" = some none)
    (na_Lengths_2 : PySem.W.findIn K (.ref C_Lengths) "first" = some none)
    (na_Lengths_3 : PySem.W.findIn K (.ref C_Lengths) "few" = some none)
    {f0 : Addr} {od0 an0 : Option Addr} {sl0 : Array (Option Value)} {oc0 kV0 dc0 pm0 cd0 ct0 : Value} (a0 : PySem.W.nsIn K mainGlobals "common_part" = some (some (.ref f0))) (l0 : K.lookup f0 = some ⟨oc0, od0, .func (PySem.W.fnOf "common_part" "common_part" (defArgs s_common_part) (defBody s_common_part) (defScope s_common_part) .none kV0 dc0 pm0 an0 cd0 ct0), sl0⟩) (c0 : PySem.W.codeIn K cd0 "common_part" = true) (k0 : PySem.W.keepIn K (.ref f0) = true)
    {f1 : Addr} {od1 an1 : Option Addr} {sl1 : Array (Option Value)} {oc1 kV1 dc1 pm1 cd1 ct1 : Value} (a1 : PySem.W.nsIn K mainGlobals "is_integer" = some (some (.ref f1))) (l1 : K.lookup f1 = some ⟨oc1, od1, .func (PySem.W.fnOf "is_integer" "is_integer" (defArgs s_is_integer) (defBody s_is_integer) (defScope s_is_integer) .none kV1 dc1 pm1 an1 cd1 ct1), sl1⟩) (c1 : PySem.W.codeIn K cd1 "is_integer" = true) (k1 : PySem.W.keepIn K (.ref f1) = true)
    {f2 : Addr} {od2 an2 : Option Addr} {sl2 : Array (Option Value)} {oc2 kV2 dc2 pm2 cd2 ct2 : Value} (a2 : PySem.W.nsIn K mainGlobals "are_ascending" = some (some (.ref f2))) (l2 : K.lookup f2 = some ⟨oc2, od2, .func (PySem.W.fnOf "are_ascending" "are_ascending" (defArgs s_are_ascending) (defBody s_are_ascending) (defScope s_are_ascending) .none kV2 dc2 pm2 an2 cd2 ct2), sl2⟩) (c2 : PySem.W.codeIn K cd2 "are_ascending" = true) (k2 : PySem.W.keepIn K (.ref f2) = true)
    {f3 : Addr} {od3 an3 : Option Addr} {sl3 : Array (Option Value)} {oc3 kV3 dc3 pm3 cd3 ct3 : Value} (a3 : PySem.W.nsIn K mainGlobals "first_parts" = some (some (.ref f3))) (l3 : K.lookup f3 = some ⟨oc3, od3, .func (PySem.W.fnOf "first_parts" "first_parts" (defArgs s_first_parts) (defBody s_first_parts) (defScope s_first_parts) .none kV3 dc3 pm3 an3 cd3 ct3), sl3⟩) (c3 : PySem.W.codeIn K cd3 "first_parts" = true) (k3 : PySem.W.keepIn K (.ref f3) = true)
    {f4 : Addr} {od4 an4 : Option Addr} {sl4 : Array (Option Value)} {oc4 kV4 dc4 pm4 cd4 ct4 : Value} (a4 : PySem.W.nsIn K mainGlobals "least_round" = some (some (.ref f4))) (l4 : K.lookup f4 = some ⟨oc4, od4, .func (PySem.W.fnOf "least_round" "least_round" (defArgs s_least_round) (defBody s_least_round) (defScope s_least_round) .none kV4 dc4 pm4 an4 cd4 ct4), sl4⟩) (c4 : PySem.W.codeIn K cd4 "least_round" = true) (k4 : PySem.W.keepIn K (.ref f4) = true)
    {f5 : Addr} {od5 an5 : Option Addr} {sl5 : Array (Option Value)} {oc5 kV5 dc5 pm5 cd5 ct5 : Value} (a5 : PySem.W.nsIn K mainGlobals "last_lacking" = some (some (.ref f5))) (l5 : K.lookup f5 = some ⟨oc5, od5, .func (PySem.W.fnOf "last_lacking" "last_lacking" (defArgs s_last_lacking) (defBody s_last_lacking) (defScope s_last_lacking) .none kV5 dc5 pm5 an5 cd5 ct5), sl5⟩) (c5 : PySem.W.codeIn K cd5 "last_lacking" = true) (k5 : PySem.W.keepIn K (.ref f5) = true)
    {f6 : Addr} {od6 an6 : Option Addr} {sl6 : Array (Option Value)} {oc6 kV6 dc6 pm6 cd6 ct6 : Value} (a6 : PySem.W.nsIn K mainGlobals "least_first" = some (some (.ref f6))) (l6 : K.lookup f6 = some ⟨oc6, od6, .func (PySem.W.fnOf "least_first" "least_first" (defArgs s_least_first) (defBody s_least_first) (defScope s_least_first) .none kV6 dc6 pm6 an6 cd6 ct6), sl6⟩) (c6 : PySem.W.codeIn K cd6 "least_first" = true) (k6 : PySem.W.keepIn K (.ref f6) = true)
    {f7 : Addr} {od7 an7 : Option Addr} {sl7 : Array (Option Value)} {oc7 kV7 dc7 pm7 cd7 ct7 : Value} (a7 : PySem.W.nsIn K mainGlobals "_law_deck" = some (some (.ref f7))) (l7 : K.lookup f7 = some ⟨oc7, od7, .func (PySem.W.fnOf "_law_deck" "_law_deck" (defArgs s_law_deck) (defBody s_law_deck) (defScope s_law_deck) .none kV7 dc7 pm7 an7 cd7 ct7), sl7⟩) (c7 : PySem.W.codeIn K cd7 "_law_deck" = true) (k7 : PySem.W.keepIn K (.ref f7) = true)
    {f8 : Addr} {od8 an8 : Option Addr} {sl8 : Array (Option Value)} {oc8 kV8 dc8 pm8 cd8 ct8 : Value} (a8 : PySem.W.nsIn K mainGlobals "_law_draw" = some (some (.ref f8))) (l8 : K.lookup f8 = some ⟨oc8, od8, .func (PySem.W.fnOf "_law_draw" "_law_draw" (defArgs s_law_draw) (defBody s_law_draw) (defScope s_law_draw) .none kV8 dc8 pm8 an8 cd8 ct8), sl8⟩) (c8 : PySem.W.codeIn K cd8 "_law_draw" = true) (k8 : PySem.W.keepIn K (.ref f8) = true)
    {f9 : Addr} {od9 an9 : Option Addr} {sl9 : Array (Option Value)} {oc9 kV9 dc9 pm9 cd9 ct9 : Value} (a9 : PySem.W.nsIn K mainGlobals "_law_pick" = some (some (.ref f9))) (l9 : K.lookup f9 = some ⟨oc9, od9, .func (PySem.W.fnOf "_law_pick" "_law_pick" (defArgs s_law_pick) (defBody s_law_pick) (defScope s_law_pick) .none kV9 dc9 pm9 an9 cd9 ct9), sl9⟩) (c9 : PySem.W.codeIn K cd9 "_law_pick" = true) (k9 : PySem.W.keepIn K (.ref f9) = true)
    {f10 : Addr} {od10 an10 : Option Addr} {sl10 : Array (Option Value)} {oc10 kV10 dc10 pm10 cd10 ct10 : Value} (a10 : PySem.W.nsIn K mainGlobals "_law_far" = some (some (.ref f10))) (l10 : K.lookup f10 = some ⟨oc10, od10, .func (PySem.W.fnOf "_law_far" "_law_far" (defArgs s_law_far) (defBody s_law_far) (defScope s_law_far) .none kV10 dc10 pm10 an10 cd10 ct10), sl10⟩) (c10 : PySem.W.codeIn K cd10 "_law_far" = true) (k10 : PySem.W.keepIn K (.ref f10) = true)
    {f11 : Addr} {od11 an11 : Option Addr} {sl11 : Array (Option Value)} {oc11 kV11 dc11 pm11 cd11 ct11 : Value} (a11 : PySem.W.nsIn K mainGlobals "_law_in" = some (some (.ref f11))) (l11 : K.lookup f11 = some ⟨oc11, od11, .func (PySem.W.fnOf "_law_in" "_law_in" (defArgs s_law_in) (defBody s_law_in) (defScope s_law_in) .none kV11 dc11 pm11 an11 cd11 ct11), sl11⟩) (c11 : PySem.W.codeIn K cd11 "_law_in" = true) (k11 : PySem.W.keepIn K (.ref f11) = true)
    {f12 : Addr} {od12 an12 : Option Addr} {sl12 : Array (Option Value)} {oc12 kV12 dc12 pm12 cd12 ct12 : Value} (a12 : PySem.W.nsIn K mainGlobals "_law_least" = some (some (.ref f12))) (l12 : K.lookup f12 = some ⟨oc12, od12, .func (PySem.W.fnOf "_law_least" "_law_least" (defArgs s_law_least) (defBody s_law_least) (defScope s_law_least) .none kV12 dc12 pm12 an12 cd12 ct12), sl12⟩) (c12 : PySem.W.codeIn K cd12 "_law_least" = true) (k12 : PySem.W.keepIn K (.ref f12) = true)
    {f13 : Addr} {od13 an13 : Option Addr} {sl13 : Array (Option Value)} {oc13 kV13 dc13 pm13 cd13 ct13 : Value} (a13 : PySem.W.nsIn K mainGlobals "_law_lot" = some (some (.ref f13))) (l13 : K.lookup f13 = some ⟨oc13, od13, .func (PySem.W.fnOf "_law_lot" "_law_lot" (defArgs s_law_lot) (defBody s_law_lot) (defScope s_law_lot) .none kV13 dc13 pm13 an13 cd13 ct13), sl13⟩) (c13 : PySem.W.codeIn K cd13 "_law_lot" = true) (k13 : PySem.W.keepIn K (.ref f13) = true)
    {f14 : Addr} {od14 an14 : Option Addr} {sl14 : Array (Option Value)} {oc14 kV14 dc14 pm14 cd14 ct14 : Value} (a14 : PySem.W.nsIn K mainGlobals "_law_told" = some (some (.ref f14))) (l14 : K.lookup f14 = some ⟨oc14, od14, .func (PySem.W.fnOf "_law_told" "_law_told" (defArgs s_law_told) (defBody s_law_told) (defScope s_law_told) .none kV14 dc14 pm14 an14 cd14 ct14), sl14⟩) (c14 : PySem.W.codeIn K cd14 "_law_told" = true) (k14 : PySem.W.keepIn K (.ref f14) = true)
    {f15 : Addr} {od15 an15 : Option Addr} {sl15 : Array (Option Value)} {oc15 kV15 dc15 pm15 cd15 ct15 : Value} (a15 : PySem.W.nsIn K mainGlobals "_law_heard" = some (some (.ref f15))) (l15 : K.lookup f15 = some ⟨oc15, od15, .func (PySem.W.fnOf "_law_heard" "_law_heard" (defArgs s_law_heard) (defBody s_law_heard) (defScope s_law_heard) .none kV15 dc15 pm15 an15 cd15 ct15), sl15⟩) (c15 : PySem.W.codeIn K cd15 "_law_heard" = true) (k15 : PySem.W.keepIn K (.ref f15) = true)
    {f16 : Addr} {od16 an16 : Option Addr} {sl16 : Array (Option Value)} {oc16 kV16 dc16 pm16 cd16 ct16 : Value} (a16 : PySem.W.nsIn K mainGlobals "_law_odd" = some (some (.ref f16))) (l16 : K.lookup f16 = some ⟨oc16, od16, .func (PySem.W.fnOf "_law_odd" "_law_odd" (defArgs s_law_odd) (defBody s_law_odd) (defScope s_law_odd) .none kV16 dc16 pm16 an16 cd16 ct16), sl16⟩) (c16 : PySem.W.codeIn K cd16 "_law_odd" = true) (k16 : PySem.W.keepIn K (.ref f16) = true)
    {f17 : Addr} {od17 an17 : Option Addr} {sl17 : Array (Option Value)} {oc17 kV17 dc17 pm17 cd17 ct17 : Value} (a17 : PySem.W.nsIn K mainGlobals "_law_is_made_right" = some (some (.ref f17))) (l17 : K.lookup f17 = some ⟨oc17, od17, .func (PySem.W.fnOf "_law_is_made_right" "_law_is_made_right" (defArgs s_law_is_made_right) (defBody s_law_is_made_right) (defScope s_law_is_made_right) .none kV17 dc17 pm17 an17 cd17 ct17), sl17⟩) (c17 : PySem.W.codeIn K cd17 "_law_is_made_right" = true) (k17 : PySem.W.keepIn K (.ref f17) = true)
    {f18 : Addr} {od18 an18 : Option Addr} {sl18 : Array (Option Value)} {oc18 kV18 dc18 pm18 cd18 ct18 : Value} (a18 : PySem.W.nsIn K mainGlobals "_law_are_lengths_right" = some (some (.ref f18))) (l18 : K.lookup f18 = some ⟨oc18, od18, .func (PySem.W.fnOf "_law_are_lengths_right" "_law_are_lengths_right" (defArgs s_law_are_lengths_right) (defBody s_law_are_lengths_right) (defScope s_law_are_lengths_right) .none kV18 dc18 pm18 an18 cd18 ct18), sl18⟩) (c18 : PySem.W.codeIn K cd18 "_law_are_lengths_right" = true) (k18 : PySem.W.keepIn K (.ref f18) = true)
    {f19 : Addr} {od19 an19 : Option Addr} {sl19 : Array (Option Value)} {oc19 kV19 dc19 pm19 cd19 ct19 : Value} (a19 : PySem.W.nsIn K mainGlobals "_law_are_equal_right" = some (some (.ref f19))) (l19 : K.lookup f19 = some ⟨oc19, od19, .func (PySem.W.fnOf "_law_are_equal_right" "_law_are_equal_right" (defArgs s_law_are_equal_right) (defBody s_law_are_equal_right) (defScope s_law_are_equal_right) .none kV19 dc19 pm19 an19 cd19 ct19), sl19⟩) (c19 : PySem.W.codeIn K cd19 "_law_are_equal_right" = true) (k19 : PySem.W.keepIn K (.ref f19) = true)
    {f20 : Addr} {od20 an20 : Option Addr} {sl20 : Array (Option Value)} {oc20 kV20 dc20 pm20 cd20 ct20 : Value} (a20 : PySem.W.nsIn K mainGlobals "law" = some (some (.ref f20))) (l20 : K.lookup f20 = some ⟨oc20, od20, .func (PySem.W.fnOf "law" "law" (defArgs s_law) (defBody s_law) (defScope s_law) .none kV20 dc20 pm20 an20 cd20 ct20), sl20⟩) (c20 : PySem.W.codeIn K cd20 "law" = true) (k20 : PySem.W.keepIn K (.ref f20) = true)
    {f21 : Addr} {od21 an21 : Option Addr} {sl21 : Array (Option Value)} {oc21 kV21 dc21 pm21 cd21 ct21 : Value} (a21 : PySem.W.findIn K (.ref C_Lengths) "__init__" = some (some (.ref f21))) (i21 : PySem.W.isFn K (.ref f21) = true) (l21 : K.lookup f21 = some ⟨oc21, od21, .func (PySem.W.fnOf "__init__" "Lengths.__init__" (defArgs s_Lengths_init) (defBody s_Lengths_init) (defScope s_Lengths_init) .none kV21 dc21 pm21 an21 cd21 ct21), sl21⟩) (c21 : PySem.W.codeIn K cd21 "Lengths.__init__" = true) (k21 : PySem.W.keepIn K (.ref f21) = true)
    {f22 : Addr} {od22 an22 : Option Addr} {sl22 : Array (Option Value)} {oc22 kV22 dc22 pm22 cd22 ct22 : Value} (a22 : PySem.W.findIn K (.ref C_Lengths) "__eq__" = some (some (.ref f22))) (i22 : PySem.W.isFn K (.ref f22) = true) (l22 : K.lookup f22 = some ⟨oc22, od22, .func (PySem.W.fnOf "__eq__" "Lengths.__eq__" (defArgs s_Lengths_eq) (defBody s_Lengths_eq) (defScope s_Lengths_eq) .none kV22 dc22 pm22 an22 cd22 ct22), sl22⟩) (c22 : PySem.W.codeIn K cd22 "Lengths.__eq__" = true) (k22 : PySem.W.keepIn K (.ref f22) = true)
    {f23 : Addr} {od23 an23 : Option Addr} {sl23 : Array (Option Value)} {oc23 kV23 dc23 pm23 cd23 ct23 : Value} (a23 : PySem.W.findIn K (.ref C_Lengths) "__contains__" = some (some (.ref f23))) (i23 : PySem.W.isFn K (.ref f23) = true) (l23 : K.lookup f23 = some ⟨oc23, od23, .func (PySem.W.fnOf "__contains__" "Lengths.__contains__" (defArgs s_Lengths_contains) (defBody s_Lengths_contains) (defScope s_Lengths_contains) .none kV23 dc23 pm23 an23 cd23 ct23), sl23⟩) (c23 : PySem.W.codeIn K cd23 "Lengths.__contains__" = true) (k23 : PySem.W.keepIn K (.ref f23) = true)
    (z0 : PySem.W.nsIn K mainGlobals "len" = some none)
    (z1 : PySem.W.nsIn K mainGlobals "range" = some none)
    (z2 : PySem.W.nsIn K mainGlobals "enumerate" = some none)
    (z3 : PySem.W.nsIn K mainGlobals "zip" = some none)
    (z4 : PySem.W.nsIn K mainGlobals "repr" = some none)
    (z5 : PySem.W.nsIn K mainGlobals "int" = some none)
    (z6 : PySem.W.nsIn K mainGlobals "list" = some none)
    (z7 : PySem.W.nsIn K mainGlobals "tuple" = some none)
    (z8 : PySem.W.nsIn K mainGlobals "isinstance" = some none)
    (z9 : PySem.W.nsIn K mainGlobals "bool" = some none)
    (z10 : PySem.W.nsIn K mainGlobals "str" = some none)
    (z11 : PySem.W.nsIn K mainGlobals "dict" = some none)
    (z12 : PySem.W.nsIn K mainGlobals "abs" = some none)
    (z13 : PySem.W.nsIn K mainGlobals "max" = some none)
    (z14 : PySem.W.nsIn K mainGlobals "min" = some none)
    (z15 : PySem.W.nsIn K mainGlobals "all" = some none)
    (z16 : PySem.W.nsIn K mainGlobals "any" = some none)
    (z17 : PySem.W.nsIn K mainGlobals "sum" = some none)
    (z18 : PySem.W.nsIn K mainGlobals "set" = some none)
    (z19 : PySem.W.nsIn K mainGlobals "sorted" = some none)
    {CS : Addr}
    (aS : PySem.W.nsIn K mainGlobals "SerialError" = some (some (.ref CS)))
    {oS : Value} {dS : Option Addr} {cdS : ClassData} {slS : Array (Option Value)}
    (lS : K.lookup CS = some ⟨oS, dS, .cls cdS, slS⟩)
    (mS : cdS.mro = PySem.SerX.exTail2 CS)
    (fS : PySem.W.findIn K (.ref CS) "__init__" = some (some (.builtin "Exception.__init__")))
    (su : PySem.W.nsIn K mainGlobals "super" = some none)
    (op : PySem.W.nsIn K cStatics "thirdparty.any" = some none)
    (top : (l.prog.main.scope.names.lookup ("super" : Str)).isSome = false)
    (clS : PySem.W.isClsIn K CS = true)
    (tyS : PySem.W.typeIn K (.ref CS) = some (.type "type"))
    (gn : PySem.W.specialIn K (.builtin "object.__class__") "__get__" = some (some (.builtin "getset_descriptor.__get__")))
    (tk : PySem.W.takesIn K (.builtin "object.__class__") = some true)
    {CE15 : Addr}
    (aE15 : PySem.W.nsIn K mainGlobals "BadLot" = some (some (.ref CE15)))
    (no15 : PySem.W.findIn K (.ref CE15) "part" = some none)
    (ex15 : PySem.W.subIn K (.ref CE15) (.type "BaseException") = some true)
    (ty15 : PySem.W.typeIn K (.ref CE15) = some (.type "type"))
    {nm15 q15 : Str} {N15 : Addr} {bs15 : List Value} {sn15 : List Str} {sub15 : List Value} {ab15 : Bool} {col15 : Option Bool} {dd15 : Option Addr} {k0_15 k1_15 k2_15 k3_15 k5_15 : Option Value}
    (lE15 : K.lookup CE15 = some (excClassObj nm15 q15 CE15 N15 bs15 (PySem.SerX.exTail2 CS) true sn15 sub15 ab15 col15 dd15 k0_15 k1_15 k2_15 k3_15 k5_15 "Exception.__new__"))
    (se15 : PySem.W.findIn K (.ref CE15) "__setattr__" = some (some (.builtin "object.__setattr__")))
    (ke15 : PySem.W.keepIn K (.ref CE15) = true)
    {fI15 cc15 cda15 : Addr} {oc_15 ccl15 cl15 : Value} {od_15 cdd15 cld15 : Option Addr} {osl15 ccs15 csl15 : Array (Option Value)} {kV_15 doc15 pm_15 : Value} {an_15 : Option Addr} {ct_15 : Value} {vs15 : Array Value} {tf15 : Tok}
    (aI15 : PySem.W.findIn K (.ref CE15) "__init__" = some (some (.ref fI15)))
    (tI15 : PySem.W.typeIn K (.ref fI15) = some (.type "function"))
    (lI15 : K.lookup fI15 = some ⟨oc_15, od_15, .func { name := "__init__", qualname := "BadLot.__init__", params := PySem.SerX.iA "part" ⟨9, 17, 9, 21⟩ ⟨9, 23, 9, 27⟩, body := .stmts (PySem.SerX.iB "part" ⟨10, 8, 10, 13⟩ ⟨10, 8, 10, 15⟩ ⟨10, 8, 10, 24⟩ ⟨10, 25, 10, 29⟩ ⟨10, 8, 10, 30⟩ ⟨10, 8, 10, 30⟩ ⟨11, 8, 11, 12⟩ ⟨11, 8, 11, 17⟩ ⟨11, 20, 11, 24⟩ ⟨11, 8, 11, 24⟩), scope := PySem.SerX.iS "part", globals := mainGlobals, closure := [("__class__", cc15)], defaults := .none, kwdefaults := kV_15, doc := doc15, pyModule := pm_15, annotations := an_15, code := .ref cda15, closureTuple := ct_15, builtins := builtinsNs }, osl15⟩)
    (cI15 : PySem.W.codeIn K (.ref cda15) "BadLot.__init__" = true)
    (ld15 : K.lookup cda15 = some ⟨ccl15, cdd15, .fields vs15, ccs15⟩)
    (vf15 : vs15[2]? = some (.str l.prog.main.file tf15))
    (lc15 : K.lookup cc15 = some ⟨cl15, cld15, .cell (some (.ref CE15)), csl15⟩)
    (sC15 : PySem.W.subIn K (.ref CE15) (.ref CE15) = some true)
    (ic15 : PySem.W.isClsIn K CE15 = true)
    (ga15 : PySem.W.findIn K (.ref CE15) "__getattribute__" = some (some (.builtin "BaseException.__getattribute__")))
    (gg15 : PySem.W.findIn K (.ref CE15) "__getattr__" = some none)
    (he15 : PySem.W.hasDictIn K CE15 = true)
    (gk15 : PySem.W.findIn K (.ref CE15) "__class__" = some (some (.builtin "object.__class__")))
    (mo15 : PySem.W.mroIn K CE15 (.type "object") = some true)
    (ss15 : PySem.W.subIn K (.ref CE15) (.ref CS) = some true)
    (Igk_Lengths : PySem.W.findIn K (.ref C_Lengths) "__class__" = some (some (.builtin "object.__class__")))
    (Imo_Lengths : PySem.W.mroIn K C_Lengths (.type "object") = some true)
    (Ity_Lengths : PySem.W.typeIn K (.ref C_Lengths) = some (.type "type"))
    (Iic_Lengths : PySem.W.isClsIn K C_Lengths = true)
    (Isf_Lengths_0 : PySem.W.subIn K (.ref C_Lengths) (.type "int") = some false)
    (Isf_Lengths_1 : PySem.W.subIn K (.ref C_Lengths) (.type "bool") = some false)
    (Isf_Lengths_2 : PySem.W.subIn K (.ref C_Lengths) (.type "tuple") = some false)
    (Isf_Lengths_3 : PySem.W.subIn K (.ref C_Lengths) (.type "str") = some false)
    (Isf_Lengths_4 : PySem.W.subIn K (.ref C_Lengths) (.type "list") = some false)
    (Isg_Lengths_0 : PySem.W.subIn K (.type "NoneType") (.ref C_Lengths) = some false)
    (Isg_Lengths_1 : PySem.W.subIn K (.type "bool") (.ref C_Lengths) = some false)
    (Isg_Lengths_2 : PySem.W.subIn K (.type "int") (.ref C_Lengths) = some false)
    (Isg_Lengths_3 : PySem.W.subIn K (.type "str") (.ref C_Lengths) = some false)
    (Isg_Lengths_4 : PySem.W.subIn K (.type "list") (.ref C_Lengths) = some false)
    (Isg_Lengths_5 : PySem.W.subIn K (.type "tuple") (.ref C_Lengths) = some false)
    (Isg_Lengths_6 : PySem.W.subIn K (.type "dict") (.ref C_Lengths) = some false)
    (Iso_Lengths : PySem.W.subIn K (.ref C_Lengths) (.type "object") = some true)
    (Ine_Lengths : PySem.W.findIn K (.ref C_Lengths) "__ne__" = some (some (.builtin "object.__ne__"))) :
    ∃ fd : FuncData, (∀ (s : Shared) (v : Value), BindsTo s fd ⟨[v], []⟩ [("_law_script", v)]) ∧ ∀ base : Heap, K.In base → base.Ns mainGlobals mg → FnG l.prog w K mg base 7 fa fd ["_law_script"] (PL.spL K) := by
  have e := hfa.symm.trans (PySem.W.mg_of X G a20)
  cases e
  have F0 := fun_mk (st := s_common_part) l0 c0 k0
  have m0 := PySem.W.mg_of X G a0
  have F1 := fun_mk (st := s_is_integer) l1 c1 k1
  have m1 := PySem.W.mg_of X G a1
  have F2 := fun_mk (st := s_are_ascending) l2 c2 k2
  have m2 := PySem.W.mg_of X G a2
  have F3 := fun_mk (st := s_first_parts) l3 c3 k3
  have m3 := PySem.W.mg_of X G a3
  have F4 := fun_mk (st := s_least_round) l4 c4 k4
  have m4 := PySem.W.mg_of X G a4
  have F5 := fun_mk (st := s_last_lacking) l5 c5 k5
  have m5 := PySem.W.mg_of X G a5
  have F6 := fun_mk (st := s_least_first) l6 c6 k6
  have m6 := PySem.W.mg_of X G a6
  have F7 := fun_mk (st := s_law_deck) l7 c7 k7
  have m7 := PySem.W.mg_of X G a7
  have F8 := fun_mk (st := s_law_draw) l8 c8 k8
  have m8 := PySem.W.mg_of X G a8
  have F9 := fun_mk (st := s_law_pick) l9 c9 k9
  have m9 := PySem.W.mg_of X G a9
  have F10 := fun_mk (st := s_law_far) l10 c10 k10
  have m10 := PySem.W.mg_of X G a10
  have F11 := fun_mk (st := s_law_in) l11 c11 k11
  have m11 := PySem.W.mg_of X G a11
  have F12 := fun_mk (st := s_law_least) l12 c12 k12
  have m12 := PySem.W.mg_of X G a12
  have F13 := fun_mk (st := s_law_lot) l13 c13 k13
  have m13 := PySem.W.mg_of X G a13
  have F14 := fun_mk (st := s_law_told) l14 c14 k14
  have m14 := PySem.W.mg_of X G a14
  have F15 := fun_mk (st := s_law_heard) l15 c15 k15
  have m15 := PySem.W.mg_of X G a15
  have F16 := fun_mk (st := s_law_odd) l16 c16 k16
  have m16 := PySem.W.mg_of X G a16
  have F17 := fun_mk (st := s_law_is_made_right) l17 c17 k17
  have m17 := PySem.W.mg_of X G a17
  have F18 := fun_mk (st := s_law_are_lengths_right) l18 c18 k18
  have m18 := PySem.W.mg_of X G a18
  have F19 := fun_mk (st := s_law_are_equal_right) l19 c19 k19
  have m19 := PySem.W.mg_of X G a19
  have F20 := fun_mk (st := s_law) l20 c20 k20
  have m20 := PySem.W.mg_of X G a20
  have F21 := fun_mk (st := s_Lengths_init) l21 c21 k21
  have F22 := fun_mk (st := s_Lengths_eq) l22 c22 k22
  have F23 := fun_mk (st := s_Lengths_contains) l23 c23 k23
  have e_Lengths : clsOf K 3 = some C_Lengths := by
    show (match PySem.W.nsIn K mainGlobals ("Lengths" : Str) with | some (some (.ref C)) => some C | _ => none) = _
    rw [aC_Lengths]
  have T_Lengths : ClsT K 3 := ⟨C_Lengths, e_Lengths, ⟨pg_Lengths, hd_Lengths, po_Lengths, sa_Lengths⟩, fun f hf => by
    rcases (show f = "around" ∨ f = "rests" ∨ f = "first" ∨ f = "few" from by simpa [CN, CN0] using hf) with rfl | rfl | rfl | rfl
    · exact na_Lengths_0
    · exact na_Lengths_1
    · exact na_Lengths_2
    · exact na_Lengths_3⟩
  have I_Lengths : InsT K 3 := ⟨⟨C_Lengths, e_Lengths, ⟨pg_Lengths, hd_Lengths, po_Lengths, sa_Lengths⟩, Igk_Lengths, Imo_Lengths, Ity_Lengths, Iic_Lengths, (fun T hT => by
    simp only [List.mem_cons, List.not_mem_nil, or_false] at hT
    rcases hT with rfl | rfl | rfl | rfl | rfl
    · exact Isf_Lengths_0
    · exact Isf_Lengths_1
    · exact Isf_Lengths_2
    · exact Isf_Lengths_3
    · exact Isf_Lengths_4), (fun T hT => by
    simp only [List.mem_cons, List.not_mem_nil, or_false] at hT
    rcases hT with rfl | rfl | rfl | rfl | rfl | rfl | rfl
    · exact Isg_Lengths_0
    · exact Isg_Lengths_1
    · exact Isg_Lengths_2
    · exact Isg_Lengths_3
    · exact Isg_Lengths_4
    · exact Isg_Lengths_5
    · exact Isg_Lengths_6), Iso_Lengths, Ine_Lengths⟩, gn, tk⟩
  have mC_Lengths : mg "Lengths" = (clsOf K 3).map Value.ref := by
    rw [e_Lengths]
    exact PySem.W.mg_of X G aC_Lengths
  have ER_15 := errC_mk (P := l.prog) (k := 15) X G rfl rfl ⟨by decide, by decide, by decide, by decide⟩ (fun _ _ _ _ _ _ _ _ _ _ _ _ _ => by first | rfl | with_unfolding_all rfl) top aE15 su op lE15 lS mS fS se15 no15 ke15 ex15 ty15 aI15 tI15 lI15 cI15 ld15 vf15 lc15 (by decide)
  have CT_15 := catT_mk (k := 15) X G rfl rfl aE15 aS no15 ex15 ty15 ic15 sC15 ga15 gg15 he15 gk15 gn tk mo15 clS tyS ss15
  have B : BI mg := ⟨PySem.W.mg_none_of X G z0, PySem.W.mg_none_of X G z1, PySem.W.mg_none_of X G z2, PySem.W.mg_none_of X G z3, PySem.W.mg_none_of X G z4, PySem.W.mg_none_of X G z5, PySem.W.mg_none_of X G z6, PySem.W.mg_none_of X G z7, PySem.W.mg_none_of X G z8, PySem.W.mg_none_of X G z9, PySem.W.mg_none_of X G z10, PySem.W.mg_none_of X G z11, PySem.W.mg_none_of X G z12, PySem.W.mg_none_of X G z13, PySem.W.mg_none_of X G z14, PySem.W.mg_none_of X G z15, PySem.W.mg_none_of X G z16, PySem.W.mg_none_of X G z17, PySem.W.mg_none_of X G z18, PySem.W.mg_none_of X G z19⟩
  refine ⟨PySem.W.fnOf "law" "law" (defArgs s_law) (defBody s_law) (defScope s_law) .none kV20 dc20 pm20 an20 cd20 ct20, fun s v => .of_eq rfl, fun base _ _ => ?_⟩
  have h_common_part := ok_common_part (P := l.prog) (w := w) (base := base) F0 m0 B
  have h_is_integer := ok_is_integer (P := l.prog) (w := w) (base := base) F1 m1 B I_Lengths
  have h_first_parts := ok_first_parts (P := l.prog) (w := w) (base := base) F3 m3 B
  have h_last_lacking := ok_last_lacking (P := l.prog) (w := w) (base := base) F5 m5 B
  have D0 := deck_ok (P := l.prog) (w := w) (base := base) F7 B
  have h_law_draw := ok_law_draw (P := l.prog) (w := w) (base := base) F8 m8 B
  have h_law_in := ok_law_in (P := l.prog) (w := w) (base := base) F11 m11 B
  have h_law_told := ok_law_told (P := l.prog) (w := w) (base := base) F14 m14 B T_Lengths
  have h_Lengths_eq := ok_Lengths_eq (P := l.prog) (w := w) (base := base) F22 e_Lengths a22 i22 B T_Lengths I_Lengths mC_Lengths
  have h_are_ascending := ok_are_ascending (P := l.prog) (w := w) (base := base) F2 m2 B h_is_integer
  have h_least_round := ok_least_round (P := l.prog) (w := w) (base := base) F4 m4 B h_first_parts h_common_part
  have h_least_first := ok_least_first (P := l.prog) (w := w) (base := base) F6 m6 B h_last_lacking
  have h_law_pick := ok_law_pick (P := l.prog) (w := w) (base := base) F9 m9 B h_law_draw
  have h_law_far := ok_law_far (P := l.prog) (w := w) (base := base) F10 m10 B h_law_draw
  have h_law_least := ok_law_least (P := l.prog) (w := w) (base := base) F12 m12 B h_law_in
  have h_Lengths_contains := ok_Lengths_contains (P := l.prog) (w := w) (base := base) F23 e_Lengths a23 i23 B T_Lengths h_is_integer
  have h_law_lot := ok_law_lot (P := l.prog) (w := w) (base := base) F13 m13 B h_law_draw h_law_pick
  have h_law_odd := ok_law_odd (P := l.prog) (w := w) (base := base) F16 m16 B h_law_pick
  have h_Lengths_init := ok_Lengths_init (P := l.prog) (w := w) (base := base) F21 B ER_15 T_Lengths h_least_round h_least_first h_are_ascending h_is_integer
  have h_Lengths : MkCX l.prog w K mg base 3 "Lengths" 3 "self" ["few", "first", "around", "rests"] [(["rests", "around", "first", "few"], [3, 2, 1, 0])] S_Lengths_init := ⟨C_Lengths, f21, _, h_Lengths_init, ⟨mk_Lengths, a21, i21, kc_Lengths⟩, PySem.W.mg_of X G aC_Lengths, e_Lengths, (F21.binds (ps := ["self", "few", "first", "around", "rests"]) fun _ _ _ _ _ _ us hl => match us, hl with | [_, _, _, _, _], _ => rfl), (fun q hq => by
    simp only [List.mem_cons, List.not_mem_nil, or_false] at hq
    rcases hq with rfl
    · exact F21.ibinds fun _ _ _ _ _ _ _ ws hl => match ws, hl with | [_, _, _, _], _ => rfl)⟩
  have h_law_heard := ok_law_heard (P := l.prog) (w := w) (base := base) F15 m15 B CT_15 h_Lengths h_law_told
  have h_law_are_lengths_right := ok_law_are_lengths_right (P := l.prog) (w := w) (base := base) F18 m18 B h_Lengths_contains h_Lengths h_law_far h_law_in h_law_draw
  have h_law_are_equal_right := ok_law_are_equal_right (P := l.prog) (w := w) (base := base) F19 m19 B I_Lengths h_Lengths_eq h_Lengths h_law_draw h_law_in h_law_least h_law_told
  have h_law_is_made_right := ok_law_is_made_right (P := l.prog) (w := w) (base := base) F17 m17 B h_law_least h_law_heard h_law_draw h_law_odd
  exact ok_law (P := l.prog) (w := w) (base := base) F20 B D0 m7 k7 (F7.binds (ps := ["_law_script"]) fun _ _ _ _ _ _ us hl => match us, hl with | [_], _ => rfl) I_Lengths h_Lengths_eq h_Lengths h_law_lot h_law_draw h_law_are_lengths_right h_law_are_equal_right h_law_is_made_right
end K58
open PySem PySem.W PyProof.Rows
set_option maxRecDepth 100000 in
set_option maxHeartbeats 0 in
theorem PySem.Challenge.cw_serialhouse_k58_lots_of_lengths_holds : PySem.Challenge.rw_serialhouse_k58_lots_of_lengths.Holds := by
  w_on; o_law; k_head; (case hw => w_witness2)
  k_fill
  refine PL.walk_g (l := PySem.Challenge.rw_serialhouse_k58_lots_of_lengths) (n := 63) (k := 7) (x := "_law_script") (sp := fun w => PL.spL _) rfl (by decide) rfl ⟨rfl, by decide, by decide⟩ (fun w h Y => PySem.W.kIn_of Y) ?F (fun _ _ a ns hl hO hS => ⟨a, ns, rfl, hO, hS, hl, fun _ => rfl⟩)
  case F =>
    intro w mg fa h KX G hmg
    refine' K58.all_mk KX G hmg ?aC_Lengths ?pg_Lengths ?hd_Lengths ?po_Lengths ?sa_Lengths ?mk_Lengths ?kc_Lengths ?na_Lengths_0 ?na_Lengths_1 ?na_Lengths_2 ?na_Lengths_3 ?a0 ?l0 ?c0 ?k0 ?a1 ?l1 ?c1 ?k1 ?a2 ?l2 ?c2 ?k2 ?a3 ?l3 ?c3 ?k3 ?a4 ?l4 ?c4 ?k4 ?a5 ?l5 ?c5 ?k5 ?a6 ?l6 ?c6 ?k6 ?a7 ?l7 ?c7 ?k7 ?a8 ?l8 ?c8 ?k8 ?a9 ?l9 ?c9 ?k9 ?a10 ?l10 ?c10 ?k10 ?a11 ?l11 ?c11 ?k11 ?a12 ?l12 ?c12 ?k12 ?a13 ?l13 ?c13 ?k13 ?a14 ?l14 ?c14 ?k14 ?a15 ?l15 ?c15 ?k15 ?a16 ?l16 ?c16 ?k16 ?a17 ?l17 ?c17 ?k17 ?a18 ?l18 ?c18 ?k18 ?a19 ?l19 ?c19 ?k19 ?a20 ?l20 ?c20 ?k20 ?a21 ?i21 ?l21 ?c21 ?k21 ?a22 ?i22 ?l22 ?c22 ?k22 ?a23 ?i23 ?l23 ?c23 ?k23 ?z0 ?z1 ?z2 ?z3 ?z4 ?z5 ?z6 ?z7 ?z8 ?z9 ?z10 ?z11 ?z12 ?z13 ?z14 ?z15 ?z16 ?z17 ?z18 ?z19 ?aS ?lS ?mS ?fS ?su ?op ?top ?clS ?tyS ?gn ?tk ?aE15 ?no15 ?ex15 ?ty15 ?lE15 ?se15 ?ke15 ?aI15 ?tI15 ?lI15 ?cI15 ?ld15 ?vf15 ?lc15 ?sC15 ?ic15 ?ga15 ?gg15 ?he15 ?gk15 ?mo15 ?ss15 ?Igk_Lengths ?Imo_Lengths ?Ity_Lengths ?Iic_Lengths ?Isf_Lengths_0 ?Isf_Lengths_1 ?Isf_Lengths_2 ?Isf_Lengths_3 ?Isf_Lengths_4 ?Isg_Lengths_0 ?Isg_Lengths_1 ?Isg_Lengths_2 ?Isg_Lengths_3 ?Isg_Lengths_4 ?Isg_Lengths_5 ?Isg_Lengths_6 ?Iso_Lengths ?Ine_Lengths
    (case aC_Lengths => k_is); (case pg_Lengths => k_is); (case hd_Lengths => k_is); (case po_Lengths => k_is); (case sa_Lengths => k_is); (case mk_Lengths => k_is); (case kc_Lengths => k_is); (case na_Lengths_0 => k_is); (case na_Lengths_1 => k_is); (case na_Lengths_2 => k_is); (case na_Lengths_3 => k_is); (case a0 => k_is); (case l0 => k_is); (case c0 => k_is); (case k0 => k_is); (case a1 => k_is); (case l1 => k_is); (case c1 => k_is); (case k1 => k_is); (case a2 => k_is); (case l2 => k_is); (case c2 => k_is); (case k2 => k_is); (case a3 => k_is); (case l3 => k_is); (case c3 => k_is); (case k3 => k_is); (case a4 => k_is); (case l4 => k_is); (case c4 => k_is); (case k4 => k_is); (case a5 => k_is); (case l5 => k_is); (case c5 => k_is); (case k5 => k_is); (case a6 => k_is); (case l6 => k_is); (case c6 => k_is); (case k6 => k_is); (case a7 => k_is); (case l7 => k_is); (case c7 => k_is); (case k7 => k_is); (case a8 => k_is); (case l8 => k_is); (case c8 => k_is); (case k8 => k_is); (case a9 => k_is); (case l9 => k_is); (case c9 => k_is); (case k9 => k_is); (case a10 => k_is); (case l10 => k_is); (case c10 => k_is); (case k10 => k_is); (case a11 => k_is); (case l11 => k_is); (case c11 => k_is); (case k11 => k_is); (case a12 => k_is); (case l12 => k_is); (case c12 => k_is); (case k12 => k_is); (case a13 => k_is); (case l13 => k_is); (case c13 => k_is); (case k13 => k_is); (case a14 => k_is); (case l14 => k_is); (case c14 => k_is); (case k14 => k_is); (case a15 => k_is); (case l15 => k_is); (case c15 => k_is); (case k15 => k_is); (case a16 => k_is); (case l16 => k_is); (case c16 => k_is); (case k16 => k_is); (case a17 => k_is); (case l17 => k_is); (case c17 => k_is); (case k17 => k_is); (case a18 => k_is); (case l18 => k_is); (case c18 => k_is); (case k18 => k_is); (case a19 => k_is); (case l19 => k_is); (case c19 => k_is); (case k19 => k_is); (case a20 => k_is); (case l20 => k_is); (case c20 => k_is); (case k20 => k_is); (case a21 => k_is); (case i21 => k_is); (case l21 => k_is); (case c21 => k_is); (case k21 => k_is); (case a22 => k_is); (case i22 => k_is); (case l22 => k_is); (case c22 => k_is); (case k22 => k_is); (case a23 => k_is); (case i23 => k_is); (case l23 => k_is); (case c23 => k_is); (case k23 => k_is); (case z0 => k_is); (case z1 => k_is); (case z2 => k_is); (case z3 => k_is); (case z4 => k_is); (case z5 => k_is); (case z6 => k_is); (case z7 => k_is); (case z8 => k_is); (case z9 => k_is); (case z10 => k_is); (case z11 => k_is); (case z12 => k_is); (case z13 => k_is); (case z14 => k_is); (case z15 => k_is); (case z16 => k_is); (case z17 => k_is); (case z18 => k_is); (case z19 => k_is); (case aS => k_is); (case lS => k_is); (case mS => first | rfl | decide +kernel); (case fS => k_is); (case su => k_is); (case op => k_is); (case top => first | rfl | decide +kernel); (case clS => k_is); (case tyS => k_is); (case gn => k_is); (case tk => k_is); (case aE15 => k_is); (case no15 => k_is); (case ex15 => k_is); (case ty15 => k_is); (case lE15 => k_is); (case se15 => k_is); (case ke15 => k_is); (case aI15 => k_is); (case tI15 => k_is); (case lI15 => k_is); (case cI15 => k_is); (case ld15 => k_is); (case vf15 => first | rfl | decide +kernel); (case lc15 => k_is); (case sC15 => first | rfl | k_is); (case ic15 => k_is); (case ga15 => k_is); (case gg15 => k_is); (case he15 => k_is); (case gk15 => k_is); (case mo15 => k_is); (case ss15 => first | rfl | k_is); (case Igk_Lengths => k_is); (case Imo_Lengths => k_is); (case Ity_Lengths => k_is); (case Iic_Lengths => k_is); (case Isf_Lengths_0 => first | rfl | k_is); (case Isf_Lengths_1 => first | rfl | k_is); (case Isf_Lengths_2 => first | rfl | k_is); (case Isf_Lengths_3 => first | rfl | k_is); (case Isf_Lengths_4 => first | rfl | k_is); (case Isg_Lengths_0 => first | rfl | k_is); (case Isg_Lengths_1 => first | rfl | k_is); (case Isg_Lengths_2 => first | rfl | k_is); (case Isg_Lengths_3 => first | rfl | k_is); (case Isg_Lengths_4 => first | rfl | k_is); (case Isg_Lengths_5 => first | rfl | k_is); (case Isg_Lengths_6 => first | rfl | k_is); (case Iso_Lengths => first | rfl | k_is); (case Ine_Lengths => k_is)

