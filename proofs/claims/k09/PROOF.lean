import PyProof.Rows.All
import Wide.All
import OpenK.AllK
import Wide.FinOn
import HandS.ForMost
import HandS.ForExc
import HandS.IsInst
import HandS.Walk
import HandS.TupAny
import HandS.Conv
import HandS.CallSlots
import KE.LtData
import HandS.Codes
import KE.DataEq
import KE.DataCmp
import HandS.Text
import HandS.TupLen
import HandS.RaiseMore
import HandS.WordsDict
import KE.SortData
import KE.KDictSum
import HandS.SortInts
import PyProof.ReprRoads
import HandS.Zip
import KE.GoesEnum
import HandS.SetFor
import HandS.Strs
import HandS.SortKw
import KE.DataMinMax
import HandS.Small
import PyProof.Rows.RowBridgeK
import HandS.Style
import HandS.Flow
import HandS.HeadHook2
import HandS.HeadEnd
import PyProof.ReprLen
import PySem.Challenge.RW_hingemount_k09_joined_parted_parting
import HandS.Head0
import HandS.Head1
import HandS.Head2
import KE.KStateDown
import Lean
set_option Elab.async false
set_option linter.all false
set_option maxRecDepth 100000
set_option maxHeartbeats 0
section
/-! The engine, part A: structured values, the store, how they stand in the abstract heap. -/
namespace Eng
open PySem PySem.Spec PyProof.Rows L2

/-- a structured value: data that never changes, or a number of the store -/
inductive D where
  | non | bl (b : Bool) | int (i : Int) | str (x : Str)
  | lst (xs : List D) | tup (xs : List D) | dic (ks : List Key) (vs : List D) | dit (ks : List (List Key)) (vs : List D) | ref (n : Nat) | scr (xs : List D)

/-- an object that may change -/
inductive Cell where
  | lst (xs : List D) | dK (ks : List Key) (vs : List D) | dT (ks : List (List Key)) (vs : List D) | ins (c : Str) (ns : List Str) (vs : List D)
abbrev Store := List Cell
/-- a result: frozen, or an object that nobody else holds -/
inductive Val where
  | fz (d : D) | own (c : Cell)
abbrev Frame := List (Option Val)
/-- an exception: its class's name, its fields -/
structure Ex where
  c : Str
  ns : List Str
  vs : List D

/-- where the store's objects, the frame's own objects and others' own objects stand -/
structure Gh where
  rho : List Addr
  own : List Addr
  tmp : List Addr
def Gh.av (g : Gh) (a : Addr) : Prop := a ∈ g.rho ∨ a ∈ g.own ∨ a ∈ g.tmp

mutual
inductive RD (K : PySem.W.Frag) (g : Gh) (H : Hp) : D → V → Prop
  | non : RD K g H .non .non
  | bl (b : Bool) : RD K g H (.bl b) (.bl b)
  | int (i : Int) : RD K g H (.int i) (.int i)
  | str (x : Str) : RD K g H (.str x) (.str x)
  | lst {a : Addr} {xs : List D} {vs : List V} : H a = some (.lst vs) → ¬ g.av a → RDs K g H xs vs → RD K g H (.lst xs) (.ref a)
  | tup {a : Addr} {xs : List D} {vs : List V} : H a = some (.tup vs) → RDs K g H xs vs → RD K g H (.tup xs) (.ref a)
  | dic {a : Addr} {ks : List Key} {xs : List D} {vs : List V} : H a = some (.dK (ks.zip vs)) → ks.length = vs.length → ¬ g.av a → RDs K g H xs vs → RD K g H (.dic ks xs) (.ref a)
  | dit {a : Addr} {ks : List (List Key)} {xs : List D} {vs : List V} : H a = some (.dT (ks.zip vs)) → ks.length = vs.length → ¬ g.av a → RDs K g H xs vs → RD K g H (.dit ks xs) (.ref a)
  | ref {n : Nat} {a : Addr} : g.rho[n]? = some a → RD K g H (.ref n) (.ref a)
  | scr {a : Addr} {xs : List D} {vs : List V} : (Rd H a (.lst vs) ∧ ¬ g.av a) ∨ (∀ H' : Hp, SqL K H' a vs) → RDs K g H xs vs → RD K g H (.scr xs) (.ref a)
inductive RDs (K : PySem.W.Frag) (g : Gh) (H : Hp) : List D → List V → Prop
  | nil : RDs K g H [] []
  | cons {d : D} {ds : List D} {v : V} {vs : List V} : RD K g H d v → RDs K g H ds vs → RDs K g H (d :: ds) (v :: vs)
end

/-- what stands frozen stands on -/
structure Mono (K : PySem.W.Frag) (g : Gh) (H : Hp) (g' : Gh) (H' : Hp) : Prop where
  keep : ∀ a o, H a = some o → ¬ g.av a → H' a = some o ∧ ¬ g'.av a
  tups : ∀ a xs, H a = some (.tup xs) → H' a = some (.tup xs)
  pre : ∀ (n : Nat) a, g.rho[n]? = some a → g'.rho[n]? = some a

section
variable {K : PySem.W.Frag} {g g' g2 : Gh} {H H' H2 : Hp}
theorem Mono.rd (m : Mono K g H g' H') {a : Addr} {u : HO} (h : Rd H a u) (n : ¬ g.av a) : Rd H' a u ∧ ¬ g'.av a := by
  rcases h with h | ⟨o, h⟩
  · exact ⟨.inl (m.keep a _ h n).1, (m.keep a _ h n).2⟩
  · exact ⟨.inr ⟨o, (m.keep a _ h n).1⟩, (m.keep a _ h n).2⟩
theorem RD.mono (m : Mono K g H g' H') {d : D} {v : V} (h : RD K g H d v) : RD K g' H' d v := by
  refine RD.rec (motive_1 := fun d v _ => RD K g' H' d v) (motive_2 := fun ds vs _ => RDs K g' H' ds vs) .non .bl .int .str ?_ ?_ ?_ ?_ ?_ ?_ .nil ?_ h
  · intro a xs vs h n _ ih
    exact .lst (m.keep _ _ h n).1 (m.keep _ _ h n).2 ih
  · intro a xs vs h _ ih
    exact .tup (m.tups _ _ h) ih
  · intro a ks xs vs h hl n _ ih
    exact .dic (m.keep _ _ h n).1 hl (m.keep _ _ h n).2 ih
  · intro a ks xs vs h hl n _ ih
    exact .dit (m.keep _ _ h n).1 hl (m.keep _ _ h n).2 ih
  · intro n a h
    exact .ref (m.pre _ _ h)
  · intro a xs vs h _ ih
    rcases h with ⟨h, n⟩ | h
    · exact .scr (.inl (m.rd h n)) ih
    · exact .scr (.inr h) ih
  · intro d ds v vs _ _ ih1 ih2
    exact .cons ih1 ih2
theorem RDs.mono (m : Mono K g H g' H') : ∀ {ds : List D} {vs : List V}, RDs K g H ds vs → RDs K g' H' ds vs
  | _, _, .nil => .nil
  | _, _, .cons h t => .cons (h.mono m) (RDs.mono m t)
theorem RDs.length : ∀ {ds : List D} {vs : List V}, RDs K g H ds vs → ds.length = vs.length
  | _, _, .nil => rfl
  | _, _, .cons _ t => by rw [List.length_cons, List.length_cons, RDs.length t]
theorem RDs.get : ∀ {ds : List D} {vs : List V} {i : Nat} {d : D}, RDs K g H ds vs → ds[i]? = some d → ∃ v, vs[i]? = some v ∧ RD K g H d v
  | _, _, _, _, .nil, e => by simp at e
  | _, _, 0, _, .cons h _, e => by simp at e; subst e; exact ⟨_, rfl, h⟩
  | _, _, i + 1, d, .cons _ t, e => by
    obtain ⟨v, h1, h2⟩ := RDs.get (i := i) (d := d) t (by simpa using e)
    exact ⟨v, by simpa using h1, h2⟩
theorem RDs.getV : ∀ {ds : List D} {vs : List V} {i : Nat} {v : V}, RDs K g H ds vs → vs[i]? = some v → ∃ d, ds[i]? = some d ∧ RD K g H d v
  | _, _, _, _, .nil, e => by simp at e
  | _, _, 0, _, .cons h _, e => by simp at e; subst e; exact ⟨_, rfl, h⟩
  | _, _, i + 1, v, .cons _ t, e => by
    obtain ⟨d, h1, h2⟩ := RDs.getV (i := i) (v := v) t (by simpa using e)
    exact ⟨d, by simpa using h1, h2⟩
theorem RDs.append : ∀ {ds es : List D} {vs us : List V}, RDs K g H ds vs → RDs K g H es us → RDs K g H (ds ++ es) (vs ++ us)
  | _, _, _, _, .nil, s => s
  | _, _, _, _, .cons h t, s => .cons h (RDs.append t s)
theorem RDs.take : ∀ {ds : List D} {vs : List V} (n : Nat), RDs K g H ds vs → RDs K g H (ds.take n) (vs.take n)
  | _, _, 0, _ => .nil
  | _, _, _ + 1, .nil => .nil
  | _, _, n + 1, .cons h t => .cons h (RDs.take n t)
theorem RDs.drop : ∀ {ds : List D} {vs : List V} (n : Nat), RDs K g H ds vs → RDs K g H (ds.drop n) (vs.drop n)
  | _, _, 0, h => h
  | _, _, _ + 1, .nil => .nil
  | _, _, n + 1, .cons _ t => RDs.drop n t
theorem RDs.set {d : D} {v : V} (r : RD K g H d v) : ∀ {ds : List D} {vs : List V} (i : Nat), RDs K g H ds vs → RDs K g H (ds.set i d) (vs.set i v)
  | _, _, _, .nil => .nil
  | _, _, 0, .cons _ t => .cons r t
  | _, _, i + 1, .cons q t => .cons q (RDs.set r i t)
theorem RDs.eraseIdx : ∀ {ds : List D} {vs : List V} (i : Nat), RDs K g H ds vs → RDs K g H (ds.eraseIdx i) (vs.eraseIdx i)
  | _, _, _, .nil => .nil
  | _, _, 0, .cons _ t => t
  | _, _, i + 1, .cons q t => .cons q (RDs.eraseIdx i t)
theorem RDs.one {d : D} {v : V} (h : RD K g H d v) : RDs K g H [d] [v] := .cons h .nil
theorem RDs.reverse : ∀ {ds : List D} {vs : List V}, RDs K g H ds vs → RDs K g H ds.reverse vs.reverse
  | _, _, .nil => .nil
  | _, _, .cons h t => by
    rw [List.reverse_cons, List.reverse_cons]
    exact RDs.append (RDs.reverse t) (.one h)
end

/-! ### cells, slots, the store -/
def CellR (K : PySem.W.Frag) (mg : Str → Option Value) (g : Gh) (H : Hp) (a : Addr) : Cell → Prop
  | .lst xs => ∃ vs, H a = some (.lst vs) ∧ RDs K g H xs vs
  | .dK ks xs => ∃ vs, H a = some (.dK (ks.zip vs)) ∧ ks.length = vs.length ∧ RDs K g H xs vs
  | .dT ks xs => ∃ vs, H a = some (.dT (ks.zip vs)) ∧ ks.length = vs.length ∧ RDs K g H xs vs
  | .ins c ns xs => ∃ C dx vs, mg c = some (.ref C) ∧ H a = some (.ins C dx (ns.zip vs)) ∧ ns.length = vs.length ∧ RDs K g H xs vs

/-- behind a step: what neither the store nor the frame owns stands, tuples stand, the store grows -/
structure Keep (g : Gh) (H : Hp) (g' : Gh) (H' : Hp) : Prop where
  keep : ∀ a o, H a = some o → a ∉ g.rho → a ∉ g.own → H' a = some o ∧ a ∉ g'.rho ∧ a ∉ g'.own
  tmp : ∀ a o, H a = some o → a ∉ g.rho → a ∉ g.own → a ∈ g'.tmp → a ∈ g.tmp
  tups : ∀ a xs, H a = some (.tup xs) → H' a = some (.tup xs)
  pre : ∀ (n : Nat) a, g.rho[n]? = some a → g'.rho[n]? = some a

structure StR (K : PySem.W.Frag) (mg : Str → Option Value) (g : Gh) (S : Store) (H : Hp) : Prop where
  len : g.rho.length = S.length
  nd : g.rho.Nodup
  cell : ∀ (n : Nat) c a, S[n]? = some c → g.rho[n]? = some a → CellR K mg g H a c
  rt : ∀ a, a ∈ g.rho → a ∉ g.own ∧ a ∉ g.tmp
  ot : ∀ a, a ∈ g.own → a ∉ g.tmp
  tr : ∀ a, g.av a → ∃ o, H a = some o

def SlotR (K : PySem.W.Frag) (mg : Str → Option Value) (g : Gh) (H : Hp) (x : V) : Val → Prop
  | .fz d => RD K g H d x
  | .own c => ∃ a, x = .ref a ∧ a ∈ g.own ∧ CellR K mg g H a c

structure Rel (K : PySem.W.Frag) (mg : Str → Option Value) (g : Gh) (fr : Frame) (S : Store) (σ : L2.St) (H : Hp) : Prop where
  len : fr.length = σ.length
  slot : ∀ (i : Nat) v, fr[i]? = some (some v) → ∃ x, σ[i]? = some (some x) ∧ SlotR K mg g H x v
  apart : ∀ (i j : Nat) c c' a, i ≠ j → fr[i]? = some (some (.own c)) → fr[j]? = some (some (.own c')) → σ[i]? = some (some (.ref a)) → σ[j]? ≠ some (some (.ref a))
  st : StR K mg g S H

section
variable {K : PySem.W.Frag} {mg : Str → Option Value} {g g' g2 : Gh} {H H' H2 : Hp} {fr fr' : Frame} {S S' : Store} {σ σ' : L2.St}
theorem Keep.refl : Keep g H g H := ⟨fun a o h n m => ⟨h, n, m⟩, fun _ _ _ _ _ h => h, fun _ _ h => h, fun _ _ h => h⟩
theorem Keep.trans (a : Keep g H g' H') (b : Keep g' H' g2 H2) : Keep g H g2 H2 where
  keep := fun c o h n m => let ⟨h1, n1, m1⟩ := a.keep c o h n m; b.keep c o h1 n1 m1
  tmp := fun c o h n m t => let ⟨h1, n1, m1⟩ := a.keep c o h n m; a.tmp c o h n m (b.tmp c o h1 n1 m1 t)
  tups := fun c xs h => b.tups c xs (a.tups c xs h)
  pre := fun n c h => b.pre n c (a.pre n c h)
theorem Keep.mono (k : Keep g H g' H') : Mono K g H g' H' where
  keep := fun a o h n => by
    have n1 : a ∉ g.rho := fun z => n (.inl z)
    have n2 : a ∉ g.own := fun z => n (.inr (.inl z))
    obtain ⟨h1, h2, h3⟩ := k.keep a o h n1 n2
    refine ⟨h1, fun z => ?_⟩
    rcases z with z | z | z
    · exact h2 z
    · exact h3 z
    · exact n (.inr (.inr (k.tmp a o h n1 n2 z)))
  tups := k.tups
  pre := k.pre
/-- fewer things are avoided -/
theorem Mono.less (h : ∀ a, g'.av a → g.av a) (hp : ∀ (n : Nat) a, g.rho[n]? = some a → g'.rho[n]? = some a) : Mono K g H g' H :=
  ⟨fun a o e n => ⟨e, fun z => n (h a z)⟩, fun _ _ e => e, hp⟩
theorem Mono.refl : Mono K g H g H := Mono.less (fun _ z => z) fun _ _ z => z
/-- a fresh object is laid -/
theorem Mono.fresh {p : Addr} {o : HO} (hp : H p = none) : Mono K g H g (upd H p o) :=
  ⟨fun a u e n => ⟨by rw [upd_ne (ne_of_none e hp)]; exact e, n⟩, fun a xs e => by rw [upd_ne (ne_of_none e hp)]; exact e, fun _ _ z => z⟩
/-- the heap grows -/
def Grows (H H' : Hp) : Prop := ∀ a o, H a = some o → H' a = some o
theorem Grows.fresh {p : Addr} {o : HO} (hp : H p = none) : Grows H (upd H p o) := fun a u e => by rw [upd_ne (ne_of_none e hp)]; exact e
theorem Grows.refl : Grows H H := fun _ _ e => e
theorem Grows.trans (a : Grows H H') (b : Grows H' H2) : Grows H H2 := fun c o e => b c o (a c o e)
theorem Grows.mono (k : Grows H H') : Mono K g H g H' := ⟨fun a o e n => ⟨k a o e, n⟩, fun a xs e => k _ _ e, fun _ _ z => z⟩
theorem Grows.keep (k : Grows H H') : Keep g H g H' := ⟨fun a o e n m => ⟨k a o e, n, m⟩, fun _ _ _ _ _ z => z, fun a xs e => k _ _ e, fun _ _ z => z⟩
theorem CellR.mono (m : Mono K g H g' H') {a : Addr} (ha : H' a = H a) {c : Cell} (h : CellR K mg g H a c) : CellR K mg g' H' a c := by
  cases c with
  | lst xs => obtain ⟨vs, e, r⟩ := h; exact ⟨vs, ha.trans e, r.mono m⟩
  | dK ks xs => obtain ⟨vs, e, l, r⟩ := h; exact ⟨vs, ha.trans e, l, r.mono m⟩
  | dT ks xs => obtain ⟨vs, e, l, r⟩ := h; exact ⟨vs, ha.trans e, l, r.mono m⟩
  | ins c ns xs => obtain ⟨C, dx, vs, q, e, l, r⟩ := h; exact ⟨C, dx, vs, q, ha.trans e, l, r.mono m⟩
theorem CellR.some_of {a : Addr} {c : Cell} (h : CellR K mg g H a c) : ∃ o, H a = some o ∧ Mut (some o) := by
  cases c with
  | lst xs => obtain ⟨vs, e, r⟩ := h; exact ⟨_, e, trivial⟩
  | dK ks xs => obtain ⟨vs, e, l, r⟩ := h; exact ⟨_, e, trivial⟩
  | dT ks xs => obtain ⟨vs, e, l, r⟩ := h; exact ⟨_, e, trivial⟩
  | ins c ns xs => obtain ⟨C, dx, vs, q, e, l, r⟩ := h; exact ⟨_, e, trivial⟩
theorem CellR.grows (k : Grows H H') {a : Addr} {c : Cell} (h : CellR K mg g H a c) : CellR K mg g H' a c := by
  obtain ⟨o, e, _⟩ := h.some_of
  exact h.mono k.mono (by rw [k a o e, e])
theorem SlotR.grows (k : Grows H H') {x : V} {v : Val} (h : SlotR K mg g H x v) : SlotR K mg g H' x v := by
  cases v with
  | fz d => exact RD.mono k.mono h
  | own c => obtain ⟨a, e, m, r⟩ := h; exact ⟨a, e, m, r.grows k⟩
theorem StR.grows (k : Grows H H') (h : StR K mg g S H) : StR K mg g S H' :=
  ⟨h.len, h.nd, fun n c a e q => (h.cell n c a e q).grows k, h.rt, h.ot, fun a z => let ⟨o, e⟩ := h.tr a z; ⟨o, k a o e⟩⟩
theorem Rel.grows (k : Grows H H') (h : Rel K mg g fr S σ H) : Rel K mg g fr S σ H' :=
  ⟨h.len, fun i v e => let ⟨x, e1, r⟩ := h.slot i v e; ⟨x, e1, r.grows k⟩, h.apart, h.st.grows k⟩
end
end Eng
end

section
/-! The engine, part B: what an expression and a statement come to, over structured values (plain functions). -/
namespace Eng
open PySem PySem.Spec PyProof.Rows L2

/-! ### data as a whole -/
mutual
/-- neither a dict nor a number of the store within -/
def D.pl : D → Bool
  | .non | .bl _ | .int _ | .str _ => true
  | .lst xs | .tup xs => D.pls xs
  | .dic _ _ | .dit _ _ | .ref _ | .scr _ => false
def D.pls : List D → Bool
  | [] => true
  | x :: xs => D.pl x && D.pls xs
end
mutual
def D.dep : D → Nat
  | .lst xs | .tup xs => D.deps xs + 1
  | _ => 0
def D.deps : List D → Nat
  | [] => 0
  | x :: xs => max (D.dep x) (D.deps xs)
end
mutual
def D.eqv : D → D → Bool
  | .non, .non => true
  | .bl a, .bl b => a == b
  | .bl a, .int j => (if a then 1 else 0) == j
  | .int i, .bl b => i == (if b then 1 else 0)
  | .int i, .int j => i == j
  | .str x, .str y => x == y
  | .lst xs, .lst ys => D.eqvs xs ys
  | .tup xs, .tup ys => D.eqvs xs ys
  | _, _ => false
def D.eqvs : List D → List D → Bool
  | [], [] => true
  | x :: xs, y :: ys => D.eqv x y && D.eqvs xs ys
  | _, _ => false
end
mutual
def D.toP : D → PyData
  | .non => .none | .bl b => .bool b | .int i => .int i | .str x => .str x
  | .lst xs => .list (D.toPs xs) | .tup xs => .tuple (D.toPs xs)
  | .dic _ _ | .dit _ _ | .ref _ | .scr _ => .none
def D.toPs : List D → List PyData
  | [] => []
  | x :: xs => D.toP x :: D.toPs xs
end

/-- a store's list or dict as data -/
def lookC (n : Nat) : Option Cell → D
  | some (.lst xs) => .lst xs
  | some (.dK ks vs) => .dic ks vs
  | some (.dT ks vs) => .dit ks vs
  | some (.ins _ _ _) => .ref n
  | none => .ref n
def look (S : Store) : D → D
  | .ref n => lookC n S[n]?
  | d => d
def Cell.frz : Cell → Option D
  | .lst xs => some (.lst xs)
  | .dK ks vs => some (.dic ks vs)
  | .dT ks vs => some (.dit ks vs)
  | _ => none
def Val.frz : Val → Option D
  | .fz d => some d
  | .own c => c.frz

/-! ### operators, by values -/
inductive BK where | add | sub | mul | fdiv | mod | pow
  deriving DecidableEq
inductive CK where | eq | ne | lt | le | gt | ge | inn | nin | isN | isnN
  deriving DecidableEq
inductive FK where | len | all | any | sum | tuple | list | int | max2 | min2 | repr | sorted | str
  deriving DecidableEq
/-- methods of built-in things that change nothing -/
inductive MK where | upper | get1 | get2 | join | split | isdigit
  deriving DecidableEq
inductive TK where | int | bool | tuple | str | list | dict
  deriving DecidableEq

def binD : BK → D → D → Option Val
  | .add, .int i, .int j => some (.fz (.int (i + j)))
  | .add, .str x, .str y => if x.length + y.length ≤ sizeLine then some (.fz (.str (x ++ y))) else none
  | .add, .tup xs, .tup ys => if xs.length + ys.length ≤ sizeLine then some (.fz (.tup (xs ++ ys))) else none
  | .add, .lst xs, .lst ys => if xs.length + ys.length ≤ sizeLine then some (.own (.lst (xs ++ ys))) else none
  | .sub, .int i, .int j => some (.fz (.int (i - j)))
  | .mul, .int i, .int j => if (-(2 ^ 64) < i ∧ i < 2 ^ 64) ∨ (-(2 ^ 64) < j ∧ j < 2 ^ 64) then some (.fz (.int (i * j))) else none
  | .mul, .lst xs, .int k => if -(2 ^ 63) ≤ k ∧ k < 2 ^ 63 ∧ xs.length * k.toNat ≤ sizeLine then some (.own (.lst (List.replicate k.toNat xs).flatten)) else none
  | .fdiv, .int i, .int j => if 0 < j ∧ j < 1073741824 then some (.fz (.int (i / j))) else none
  | .mod, .int i, .int j => if 0 < j then some (.fz (.int (i % j))) else none
  | .pow, .int i, .int j => if 0 ≤ j ∧ j ≤ 1000000 ∧ i.natAbs < 2 ^ 64 then some (.fz (.int (i ^ j.toNat))) else none
  | _, _, _ => none

/-- alike data that have an order -/
def D.ordOk (a b : D) : Bool := a.pl && b.pl && PySem.W.alike a.toP b.toP && (match a with | .non => false | _ => true) && decide (min a.dep b.dep ≤ 64)
def D.ltb (a b : D) : Bool := PySem.W.dataLt a.toP b.toP
def ordD (p : Int → Int → Bool) (q : D → D → Bool) : D → D → Option Bool
  | .int i, .int j => some (p i j)
  | a, b => if D.ordOk a b then some (q a b) else none
/-! ### keys of dicts -/
def toKey : D → Option Key
  | .int i => some (.inl i)
  | .str x => some (.inr x)
  | _ => none
def toKeys : List D → Option (List Key)
  | [] => some []
  | d :: ds => (toKey d).bind fun k => (toKeys ds).map (k :: ·)
def keyT : D → Option (List Key)
  | .tup ds => toKeys ds
  | _ => none
def keyD : Key → D
  | .inl i => .int i
  | .inr x => .str x
section
variable {κ : Type} [DecidableEq κ]
def findK : List κ → List D → κ → Option D
  | k :: ks, v :: vs, j => if k = j then some v else findK ks vs j
  | _, _, _ => none
def putKs (ks : List κ) (k : κ) : List κ := if k ∈ ks then ks else ks ++ [k]
def putVs (ks : List κ) (vs : List D) (k : κ) (d : D) : List D := if k ∈ ks then List.zipWith (fun j v => if j = k then d else v) ks vs else vs ++ [d]
end
/-- what a dict holds at a key -/
def dgetD : D → D → Option (Option D)
  | .dic ks vs, d => (toKey d).map fun k => findK ks vs k
  | .dit ks vs, d => (keyT d).map fun k => findK ks vs k
  | _, _ => none
def D.fit (a b : D) : Bool := a.pl && b.pl && decide (min a.dep b.dep ≤ 64)
def inD (a : D) : D → Option Bool
  | .lst xs => if a.pl && D.pls xs && decide (min (D.deps xs) a.dep ≤ 64) then some (xs.any fun y => D.eqv y a) else none
  | .tup xs => if a.pl && D.pls xs && decide (min (D.deps xs) a.dep ≤ 64) then some (xs.any fun y => D.eqv y a) else none
  | .dic ks vs => (toKey a).map fun k => (findK ks vs k).isSome
  | .dit ks vs => (keyT a).map fun k => (findK ks vs k).isSome
  | .str z => match a with
    | .str x => match x.cps.toList with
      | [c] => some (decide (c ∈ z.cps.toList))
      | _ => none
    | _ => none
  | _ => none
def D.isNon : D → Bool
  | .non => true
  | _ => false
def cmpD : CK → D → D → Option Bool
  | .eq, a, b => if D.fit a b then some (D.eqv a b) else none
  | .ne, a, b => if D.fit a b then some (!D.eqv a b) else none
  | .lt, a, b => ordD (fun i j => decide (i < j)) (fun x y => D.ltb x y) a b
  | .le, a, b => ordD (fun i j => decide (i ≤ j)) (fun x y => !D.ltb y x) a b
  | .gt, a, b => ordD (fun i j => decide (j < i)) (fun x y => D.ltb y x) a b
  | .ge, a, b => ordD (fun i j => decide (j ≤ i)) (fun x y => !D.ltb x y) a b
  | .inn, a, b => inD a b
  | .nin, a, b => (inD a b).map (!·)
  | .isN, a, .non => some a.isNon
  | .isnN, a, .non => some (!a.isNon)
  | _, _, _ => none

def atD (xs : List D) (i : Int) : Option D := atI xs i
def subD : D → D → Option D
  | .lst xs, .int i => atD xs i
  | .tup xs, .int i => atD xs i
  | .scr xs, .int i => atD xs i
  | .str x, .int i => if x.length ≤ sizeLine then (atI x.cps.toList i).map fun c => .str ⟨#[c]⟩ else none
  | .dic ks vs, k => (toKey k).bind fun k => findK ks vs k
  | .dit ks vs, k => (keyT k).bind fun k => findK ks vs k
  | _, _ => none
def cutD (xs : List D) (lo hi : Option Int) : List D := (xs.drop (HT.sIx xs.length 0 lo)).take (HT.sIx xs.length xs.length hi - HT.sIx xs.length 0 lo)
def sliceD (lo hi : Option Int) : D → Option Val
  | .lst xs => some (.own (.lst (cutD xs lo hi)))
  | .tup xs => some (.fz (.tup (cutD xs lo hi)))
  | .str x => if x.length ≤ sizeLine then some (.fz (.str (Txt.slice x lo hi))) else none
  | _ => none

def truD : D → Option Bool
  | .non => some false
  | .bl b => some b
  | .int i => some (i != 0)
  | .lst xs => some (!xs.isEmpty)
  | .tup xs => some (!xs.isEmpty)
  | _ => none

def strL : List D → Option (List Str)
  | [] => some []
  | .str b :: r => (strL r).map (b :: ·)
  | _ :: _ => none
def boolL : List D → Option (List Bool)
  | [] => some []
  | .bl b :: r => (boolL r).map (b :: ·)
  | _ :: _ => none
def intL : List D → Option (List Int)
  | [] => some []
  | .int b :: r => (intL r).map (b :: ·)
  | _ :: _ => none

/-! ### ints in order -/
def insI (k : Int) : List Int → List Int
  | [] => [k]
  | x :: xs => if k ≤ x then k :: x :: xs else x :: insI k xs
def srtI : List Int → List Int
  | [] => []
  | x :: xs => insI x (srtI xs)
def insU (k : Int) : List Int → List Int
  | [] => [k]
  | x :: xs => if k < x then k :: x :: xs else if k = x then x :: xs else x :: insU k xs
def setI : List Int → List Int
  | [] => []
  | x :: xs => insU x (setI xs)
/-- the first of the least -/
def minL (y : D) (ys : List D) : D := ys.foldl (fun a z => if D.ltb z a then z else a) y
def alkD (xs : List D) : Bool := D.pls xs && decide (D.deps xs ≤ 60) && xs.all fun x => (!D.isNon x) && xs.all fun y => PySem.W.alike x.toP y.toP
/-- a list that can be sorted: alike plain data, all tuples or none -/
def tupNe : D → Bool
  | .tup (_ :: _) => true
  | _ => false
def notTup : D → Bool
  | .tup _ => false
  | _ => true
def srtOk (xs : List D) : Bool := alkD xs && (xs.all tupNe || xs.all notTup) && decide (xs.length ≤ sizeLine)
def leD (a b : D) : Bool := !D.ltb b a
def srtD (xs : List D) : List D := xs.mergeSort leD
def mindD : D → D → Option D
  | .lst [], d => some d
  | .lst (y :: ys), _ => if alkD (y :: ys) then some (minL y ys) else none
  | _, _ => none
def revD : D → Option Val
  | .lst xs => some (.own (.lst xs.reverse))
  | .tup xs => some (.fz (.tup xs.reverse))
  | _ => none
def sortsetD : D → Option Val
  | .lst xs => (intL xs).bind fun ns => if ns.length ≤ 60 then some (.own (.lst ((setI ns).map .int))) else none
  | .tup xs => (intL xs).bind fun ns => if ns.length ≤ 60 then some (.own (.lst ((setI ns).map .int))) else none
  | _ => none
/-- the text of a list or a tuple of plain data -/
def reprD (d : D) : Option Val := if d.pl = true ∧ d.toP.showable = true ∧ d.toP.shown.length ≤ sizeLine ∧ d.dep ≤ 64 then some (.fz (.str d.toP.shown)) else none
/-- a built-in by the values of its arguments -/
def bltD : FK → List D → Option Val
  | .len, [.lst xs] => some (.fz (.int xs.length))
  | .len, [.tup xs] => some (.fz (.int xs.length))
  | .len, [.scr xs] => some (.fz (.int xs.length))
  | .len, [.dit ks _] => some (.fz (.int ks.length))
  | .len, [.dic ks _] => some (.fz (.int ks.length))
  | .len, [.str x] => if x.length ≤ sizeLine then some (.fz (.int x.length)) else none
  | .all, [.lst xs] => (boolL xs).map fun bs => .fz (.bl (bs.all id))
  | .any, [.lst xs] => (boolL xs).map fun bs => .fz (.bl (bs.any id))
  | .sum, [.lst xs] => (intL xs).map fun ns => .fz (.int ns.sum)
  | .tuple, [.lst xs] => some (.fz (.tup xs))
  | .tuple, [.tup xs] => some (.fz (.tup xs))
  | .list, [.lst xs] => some (.own (.lst xs))
  | .list, [.tup xs] => some (.own (.lst xs))
  | .list, [.dit ks _] => some (.own (.lst (ks.map fun k => D.tup (k.map keyD))))
  | .int, [.int i] => some (.fz (.int i))
  | .int, [.bl b] => some (.fz (.int (if b then 1 else 0)))
  | .max2, [.int i, .int j] => some (.fz (.int (if j > i then j else i)))
  | .min2, [.int i, .int j] => some (.fz (.int (if j < i then j else i)))
  | .sorted, [.lst xs] => match intL xs with
    | some ns => some (.own (.lst ((srtI ns).map .int)))
    | none => if srtOk xs then some (.own (.lst (srtD xs))) else none
  | .sorted, [.dit ks _] => if srtOk (ks.map fun k => D.tup (k.map keyD)) then some (.own (.lst (srtD (ks.map fun k => D.tup (k.map keyD))))) else none
  | .str, [.int i] => if i.natAbs.log2 < 1920 then some (.fz (.str (toString i))) else none
  | .str, [.str x] => some (.fz (.str x))
  | .repr, [.tup xs] => reprD (.tup xs)
  | .repr, [.lst xs] => reprD (.lst xs)
  | _, _ => none
/-- of which things a method is -/
def mkOk : MK → D → Bool
  | .upper, .str _ => true
  | .join, .str _ => true
  | .split, .str _ => true
  | .isdigit, .str _ => true
  | .get1, .dic _ _ => true
  | .get1, .dit _ _ => true
  | .get2, .dic _ _ => true
  | .get2, .dit _ _ => true
  | _, _ => false
def mthD (S : Store) : MK → D → List D → Option Val
  | .upper, .str x, [] => if x.length ≤ 5592405 then some (.fz (.str (Txt.upper x))) else none
  | .isdigit, .str x, [] => some (.fz (.bl (Txt.isdigit x)))
  | .join, .str a, [x] => (match look S x with | .lst xs => strL xs | _ => none : Option (List Str)).bind fun ys => if (ys.map (·.length)).sum + ys.length * a.length ≤ 16777216 then some (.fz (.str (Txt.join a ys))) else none
  | .split, .str a, [.str b] => if (b.length == 0) = false ∧ a.length + 2 ≤ sizeLine then some (.own (.lst ((Txt.split a b).map .str))) else none
  | .get1, d, [k] => (dgetD d k).map fun o => .fz (o.getD .non)
  | .get2, d, [k, e] => (dgetD d k).map fun o => .fz (o.getD e)
  | _, _, _ => none
/-- a field of an instance -/
def fldGet : List Str → List D → Str → Option D
  | n :: ns, v :: vs, f => if n = f then some v else fldGet ns vs f
  | _, _, _ => none
def fldPutN (ns : List Str) (f : Str) : List Str := if ns.contains f then ns else ns ++ [f]
def fldPutV : List Str → List D → Str → D → List D
  | n :: ns, v :: vs, f, d => if n = f then d :: vs else v :: fldPutV ns vs f d
  | _, vs, _, d => vs ++ [d]
def fldD (S : Store) (c f : Str) : D → Option D
  | .ref n => match S[n]? with
    | some (.ins c' ns vs) => if c' = c then fldGet ns vs f else none
    | _ => none
  | _ => none
/-- an instance of the class, without such an attribute -/
def insOk (S : Store) (c m : Str) : D → Bool
  | .ref n => match S[n]? with
    | some (.ins c' ns _) => decide (c' = c) && !ns.contains m
    | _ => false
  | _ => false
/-- isinstance(x, c), c a class of the program -/
def isC (S : Store) (c : Str) : D → Option Bool
  | .ref n => match S[n]? with
    | some (.ins c' _ _) => if c' = c then some true else none
    | _ => none
  | .scr _ => none
  | _ => some false
/-- len(set(x)), x a list of unlike ints -/
def lensetD : D → Option Val
  | .lst xs => (intL xs).bind fun ns => if ns.Nodup ∧ ns.length ≤ 4000 then some (.fz (.int ns.length)) else none
  | _ => none
def isD : TK → D → Option Bool
  | _, .ref _ => none
  | .int, .int _ => some true
  | .int, .bl _ => some true
  | .bool, .bl _ => some true
  | .tuple, .tup _ => some true
  | .str, .str _ => some true
  | .list, .lst _ => some true
  | .list, .scr _ => some true
  | .dict, .dic _ _ => some true
  | .dict, .dit _ _ => some true
  | _, _ => some false

/-! ### results -/
inductive RX (α : Type) where
  | ok (a : α) (fr : Frame) (S : Store) | ex (e : Ex) (fr : Frame) (S : Store) | no
inductive RC where
  | ok (v : Val) (S : Store) | ex (e : Ex) (S : Store) | no
def RX.bind {α β : Type} (r : RX α) (k : α → Frame → Store → RX β) : RX β := match r with
  | .ok a fr S => k a fr S
  | .ex e fr S => .ex e fr S
  | .no => .no
def RX.lift {α : Type} (o : Option α) (fr : Frame) (S : Store) : RX α := match o with
  | some a => .ok a fr S
  | none => .no
theorem RX.bind_ok {α β : Type} (a : α) (fr : Frame) (S : Store) (k : α → Frame → Store → RX β) : (RX.ok a fr S).bind k = k a fr S := rfl
theorem RX.bind_ex {α β : Type} (e : Ex) (fr : Frame) (S : Store) (k : α → Frame → Store → RX β) : (RX.ex e fr S).bind k = .ex e fr S := rfl
theorem RX.bind_no {α β : Type} (k : α → Frame → Store → RX β) : (RX.no : RX α).bind k = .no := rfl
/-- a result frozen -/
def frzX (r : RX Val) : RX D := r.bind fun v fr S => RX.lift v.frz fr S
def RC.back (fr : Frame) : RC → RX Val
  | .ok v S => .ok v fr S
  | .ex e S => .ex e fr S
  | .no => .no

/-- a new instance, behind its __init__ -/
def RC.made (n : Nat) (fr : Frame) : RC → RX Val
  | .ok (.fz .non) S => .ok (.fz (.ref n)) fr S
  | .ex e S => .ex e fr S
  | _ => .no

abbrev CF := Str → List D → Store → RC

/-! ### the text -/
mutual
inductive Tg where
  | nm (i : Nat) | tp (ts : Tgs)
inductive Tgs where
  | nil | cons (t : Tg) (ts : Tgs)
end
mutual
inductive Xp where
  | con (d : D) | var (i : Nat) | glo (x : Str)
  | bin (k : BK) (a b : Xp) | cmp (k : CK) (a b : Xp) | chain (k l : CK) (a b c : Xp)
  | not (a : Xp) | and (a b : Xp) | or (a b : Xp) | ife (c a b : Xp)
  | tup (es : Xs) | lst (es : Xs) | sub (a b : Xp) | slice (a lo hi : Xp) | omit
  | call (f : Str) (es : Xs) | blt (k : FK) (es : Xs) | isi (t : TK) (a : Xp)
  | bltv (k : FK) (i : Nat) | subv (i : Nat) (b : Xp) | cmpv (k : CK) (a : Xp) (i : Nat) | popv (i : Nat) (b : Xp)
  | comp (elt : Xp) (tg : Tg) (it : Wk) (cs : Xs) | share (a : Xp) | listrg (b : Xp) | lenset (a : Xp)
  | neg (a : Xp) | dic0 (t : Bool) | sortset (a : Xp) | mind (a b : Xp) | never | rev (a : Xp)
  | mth (k : MK) (a : Xp) (es : Xs) | mthv (k : MK) (i : Nat) (es : Xs) | fld (c f : Str) (a : Xp) | meth (c m f : Str) (a : Xp) (es : Xs) | make (c f : Str) (es : Xs) | orv (a b : Xp) | isc (c : Str) (a : Xp) | disp (k v : Xp)
  | cmpl (k : CK) (i : Nat) (b : Xp) | tuprg (b : Xp)
inductive Xs where
  | nil | cons (e : Xp) (es : Xs)
inductive Wk where
  | seq (e : Xp) | rng1 (e : Xp) | rng2 (a b : Xp) | enm (e : Xp) | zip (a b : Xp) | rng3 (a b c : Xp)
end

mutual
/-- the names that a target sets -/
def Tg.slots : Tg → List Nat
  | .nm i => [i]
  | .tp ts => ts.slots
def Tgs.slots : Tgs → List Nat
  | .nil => []
  | .cons t ts => t.slots ++ ts.slots
end
mutual
def asg : Tg → D → Frame → Option Frame
  | .nm i => fun d fr => some (fr.set i (some (.fz d)))
  | .tp ts => fun d fr => match d with | .tup ds => asgs ts ds fr | _ => none
def asgs : Tgs → List D → Frame → Option Frame
  | .nil => fun ds fr => match ds with | [] => some fr | _ => none
  | .cons t ts => fun ds fr => match ds with | d :: ds => (asg t d fr).bind fun fr' => asgs ts ds fr' | [] => none
end

/-- the signs of a text -/
def signsD (z : Str) : List D := z.cps.toList.map fun c => D.str ⟨#[c]⟩
def rgD (a b : Int) : List D := (List.range (b - a).toNat).map fun i => D.int (a + (i : Nat))
def rgN (a b : Int) : List D := (List.range (a - b).toNat).map fun i => D.int (a - (i : Nat))
def rgOk (a b : Int) : Bool := decide (-(2 ^ 62) ≤ a ∧ a < 2 ^ 62 ∧ -(2 ^ 62) ≤ b ∧ b < 2 ^ 62)
def enumD (xs : List D) : List D := (List.range xs.length).map fun i => D.tup [.int (i : Nat), xs.getD i .non]
def zipD (xs ys : List D) : List D := List.zipWith (fun x y => D.tup [x, y]) xs ys

/-- slots emptied -/
def wipeF (fr : Frame) : List Nat → Frame
  | [] => fr
  | v :: vs => (wipeF fr vs).set v none
/-- slots put back -/
def backF (old fr : Frame) : List Nat → Frame
  | [] => fr
  | v :: vs => (backF old fr vs).set v (old.getD v none)
/-- no own object stands in the slots -/
def calmF (fr : Frame) (vs : List Nat) : Bool := vs.all fun v => match fr.getD v none with | some (.own _) => false | _ => true

/-- a comprehension's turns -/
def compGo (tg : Tg) (test : Frame → Store → RX Bool) (elt : Frame → Store → RX D) : List D → List D → Frame → Store → RX (List D)
  | [], acc, fr, S => .ok acc fr S
  | d :: ds, acc, fr, S => match asg tg d fr with
    | none => .no
    | some fr1 => match test fr1 S with
      | .ok true fr2 S2 => match elt fr2 S2 with
        | .ok y fr3 S3 => if acc.length < sizeLine then compGo tg test elt ds (acc ++ [y]) (wipeF fr3 tg.slots) S3 else .no
        | _ => .no
      | .ok false fr2 S2 => compGo tg test elt ds acc (wipeF fr2 tg.slots) S2
      | _ => .no

def optI : D → Option Int
  | .int i => some i
  | _ => none
def varX (i : Nat) (fr : Frame) (S : Store) : RX Val := match fr[i]? with
  | some (some (.fz d)) => .ok (.fz d) fr S
  | some (some (.own c)) => match c.frz with
    | some d => .ok (.fz d) (fr.set i (some (.fz d))) S
    | none => .no
  | _ => .no
/-- an own list stands in the slot -/
def ownL (i : Nat) (fr : Frame) : Bool := match fr[i]? with
  | some (some (.own (.lst _))) => true
  | _ => false
/-- x.pop(k) of an own list -/
def popX (i : Nat) (y : D) (fr : Frame) (S : Store) : RX Val := match fr[i]?, y with
  | some (some (.own (.lst xs))), .int k => match ixN xs.length k with
    | some j => match xs[j]? with
      | some d => if xs.length ≤ sizeLine then .ok (.fz d) (fr.set i (some (.own (.lst (xs.eraseIdx j))))) S else .no
      | none => .no
    | none => .no
  | _, _ => .no
/-- what stands in a slot, as data; it is not frozen -/
def peek (i : Nat) (fr : Frame) (S : Store) : Option D := match fr[i]? with
  | some (some (.own c)) => c.frz
  | some (some (.fz d)) => some (look S d)
  | _ => none

def peekOk (k : MK) (i : Nat) (fr : Frame) (S : Store) : Bool := match peek i fr S with
  | some d => mkOk k d
  | none => false
/-- a value's truth -/
def tru (f : Frame → Store → RX Val) : Frame → Store → RX Bool := fun fr S => (frzX (f fr S)).bind fun x fr S => RX.lift (truD (look S x)) fr S
/-- an expression as a value, and as a test -/
structure EV where
  v : Frame → Store → RX Val
  t : Frame → Store → RX Bool
def EV.of (f : Frame → Store → RX Val) : EV := ⟨f, tru f⟩
/-- a part of a slice -/
def evO (m : Xp) (f : Frame → Store → RX Val) : Frame → Store → RX (Option Int) := match m with
  | .omit => fun fr S => .ok none fr S
  | _ => fun fr S => (frzX (f fr S)).bind fun x fr S => RX.lift ((optI x).map some) fr S
mutual
def ev2 (cf : CF) (gl : Str → Option D) : Xp → EV
  | .con d => .of fun fr S => .ok (.fz d) fr S
  | .var i => .of fun fr S => varX i fr S
  | .glo x => .of fun fr S => RX.lift ((gl x).map Val.fz) fr S
  | .bin k a b => .of fun fr S => (frzX ((ev2 cf gl a).v fr S)).bind fun x fr S => (frzX ((ev2 cf gl b).v fr S)).bind fun y fr S => RX.lift (binD k (look S x) (look S y)) fr S
  | .cmp k a b => .of fun fr S => (frzX ((ev2 cf gl a).v fr S)).bind fun x fr S => (frzX ((ev2 cf gl b).v fr S)).bind fun y fr S => RX.lift ((cmpD k (look S x) (look S y)).map fun r => Val.fz (.bl r)) fr S
  | .chain k l a b c => .of fun fr S => (frzX ((ev2 cf gl a).v fr S)).bind fun x fr S => (frzX ((ev2 cf gl b).v fr S)).bind fun y fr S => match cmpD k (look S x) (look S y) with
    | some true => (frzX ((ev2 cf gl c).v fr S)).bind fun z fr S => RX.lift ((cmpD l (look S y) (look S z)).map fun r => Val.fz (.bl r)) fr S
    | some false => .ok (.fz (.bl false)) fr S
    | none => .no
  | .not a => ⟨fun fr S => (frzX ((ev2 cf gl a).v fr S)).bind fun x fr S => match x with | .bl b => .ok (.fz (.bl (!b))) fr S | _ => .no,
      fun fr S => ((ev2 cf gl a).t fr S).bind fun t fr S => .ok (!t) fr S⟩
  | .and a b => ⟨fun fr S => (frzX ((ev2 cf gl a).v fr S)).bind fun x fr S => match x with | .bl true => (ev2 cf gl b).v fr S | .bl false => .ok (.fz (.bl false)) fr S | _ => .no,
      fun fr S => ((ev2 cf gl a).t fr S).bind fun t fr S => match t with | true => (ev2 cf gl b).t fr S | false => .ok false fr S⟩
  | .or a b => ⟨fun fr S => (frzX ((ev2 cf gl a).v fr S)).bind fun x fr S => match x with | .bl true => .ok (.fz (.bl true)) fr S | .bl false => (ev2 cf gl b).v fr S | _ => .no,
      fun fr S => ((ev2 cf gl a).t fr S).bind fun t fr S => match t with | true => .ok true fr S | false => (ev2 cf gl b).t fr S⟩
  | .ife c a b => .of fun fr S => ((ev2 cf gl c).t fr S).bind fun t fr S => match t with | true => (ev2 cf gl a).v fr S | false => (ev2 cf gl b).v fr S
  | .tup es => .of fun fr S => (evs cf gl es fr S).bind fun xs fr S => if xs.length ≤ sizeLine then .ok (.fz (.tup xs)) fr S else .no
  | .lst es => .of fun fr S => (evs cf gl es fr S).bind fun xs fr S => if xs.length ≤ sizeLine then .ok (.own (.lst xs)) fr S else .no
  | .sub a b => .of fun fr S => (frzX ((ev2 cf gl a).v fr S)).bind fun x fr S => (frzX ((ev2 cf gl b).v fr S)).bind fun y fr S => RX.lift ((subD (look S x) y).map Val.fz) fr S
  | .slice a lo hi => .of fun fr S => (frzX ((ev2 cf gl a).v fr S)).bind fun x fr S => (evO lo (ev2 cf gl lo).v fr S).bind fun l fr S => (evO hi (ev2 cf gl hi).v fr S).bind fun h fr S => RX.lift (sliceD l h (look S x)) fr S
  | .omit => .of fun _ _ => .no
  | .call f es => .of fun fr S => (evs cf gl es fr S).bind fun xs fr S => (cf f xs S).back fr
  | .blt k es => .of fun fr S => (evs cf gl es fr S).bind fun xs fr S => RX.lift (bltD k (xs.map (look S))) fr S
  | .isi t a => .of fun fr S => (frzX ((ev2 cf gl a).v fr S)).bind fun x fr S => RX.lift ((isD t x).map fun r => Val.fz (.bl r)) fr S
  | .bltv k i => .of fun fr S => RX.lift ((peek i fr S).bind fun d => bltD k [d]) fr S
  | .subv i b => .of fun fr S => if (peek i fr S).isSome then (frzX ((ev2 cf gl b).v fr S)).bind fun y fr S => RX.lift ((peek i fr S).bind fun d => (subD d y).map Val.fz) fr S else .no
  | .cmpv k a i => .of fun fr S => (frzX ((ev2 cf gl a).v fr S)).bind fun x fr S => RX.lift ((peek i fr S).bind fun d => (cmpD k (look S x) d).map fun r => Val.fz (.bl r)) fr S
  | .popv i b => .of fun fr S => if ownL i fr then (frzX ((ev2 cf gl b).v fr S)).bind fun y fr S => popX i y fr S else .no
  | .comp elt tg it cs => .of fun fr S => (evW cf gl it fr S).bind fun ds fr S => if calmF fr tg.slots then
      match compGo tg (evC cf gl cs) (fun fr S => frzX ((ev2 cf gl elt).v fr S)) ds [] (wipeF fr tg.slots) S with
      | .ok acc fr' S' => .ok (.own (.lst acc)) (backF fr fr' tg.slots) S'
      | _ => .no
    else .no
  | .share a => .of fun fr S => ((ev2 cf gl a).v fr S).bind fun v fr S => match v with | .own c => .ok (.fz (.ref S.length)) fr (S ++ [c]) | _ => .no
  | .listrg b => .of fun fr S => (frzX ((ev2 cf gl b).v fr S)).bind fun y fr S => match y with
    | .int j => if rgOk 0 j = true ∧ j.toNat ≤ 2 ^ 24 then .ok (.own (.lst (rgD 0 j))) fr S else .no
    | _ => .no
  | .lenset a => .of fun fr S => (frzX ((ev2 cf gl a).v fr S)).bind fun x fr S => RX.lift (lensetD x) fr S
  | .neg a => .of fun fr S => (frzX ((ev2 cf gl a).v fr S)).bind fun x fr S => match x with | .int i => .ok (.fz (.int (-i))) fr S | _ => .no
  | .never => .of fun _ _ => .no
  | .rev a => .of fun fr S => (frzX ((ev2 cf gl a).v fr S)).bind fun x fr S => RX.lift (revD x) fr S
  | .mth k a es => .of fun fr S => (frzX ((ev2 cf gl a).v fr S)).bind fun x fr S => if mkOk k (look S x) then (evs cf gl es fr S).bind fun ys fr S => if mkOk k (look S x) then RX.lift (mthD S k (look S x) ys) fr S else .no else .no
  | .mthv k i es => .of fun fr S => if peekOk k i fr S then (evs cf gl es fr S).bind fun ys fr S => RX.lift ((peek i fr S).bind fun d => if mkOk k d then mthD S k d ys else none) fr S else .no
  | .fld c f a => .of fun fr S => (frzX ((ev2 cf gl a).v fr S)).bind fun x fr S => RX.lift ((fldD S c f x).map Val.fz) fr S
  | .meth c m f a es => .of fun fr S => (frzX ((ev2 cf gl a).v fr S)).bind fun x fr S => if insOk S c m x then (evs cf gl es fr S).bind fun ys fr S => (cf f (x :: ys) S).back fr else .no
  | .make c f es => .of fun fr S => (evs cf gl es fr S).bind fun ys fr S => (cf f (.ref S.length :: ys) (S ++ [.ins c [] []])).made S.length fr
  | .orv a b => .of fun fr S => (frzX ((ev2 cf gl a).v fr S)).bind fun x fr S => match truD (look S x) with | some true => .ok (.fz x) fr S | some false => (ev2 cf gl b).v fr S | none => .no
  | .isc c a => .of fun fr S => (frzX ((ev2 cf gl a).v fr S)).bind fun x fr S => RX.lift ((isC S c x).map fun r => Val.fz (.bl r)) fr S
  | .cmpl k i b => .of fun fr S => if (peek i fr S).isSome then (frzX ((ev2 cf gl b).v fr S)).bind fun y fr S => RX.lift ((peek i fr S).bind fun d => (cmpD k d (look S y)).map fun r => Val.fz (.bl r)) fr S else .no
  | .tuprg b => .of fun fr S => (frzX ((ev2 cf gl b).v fr S)).bind fun y fr S => match y with
    | .int j => if rgOk 0 j = true ∧ j.toNat ≤ 2 ^ 24 then .ok (.fz (.tup (rgD 0 j))) fr S else .no
    | _ => .no
  | .disp k v => .of fun fr S => (frzX ((ev2 cf gl k).v fr S)).bind fun x fr S => (frzX ((ev2 cf gl v).v fr S)).bind fun y fr S => RX.lift ((toKey x).map fun q => Val.own (.dK [q] [y])) fr S
  | .dic0 t => .of fun fr S => .ok (.own (match t with | true => .dT [] [] | false => .dK [] [])) fr S
  | .sortset a => .of fun fr S => (frzX ((ev2 cf gl a).v fr S)).bind fun x fr S => RX.lift (sortsetD x) fr S
  | .mind a b => .of fun fr S => (frzX ((ev2 cf gl a).v fr S)).bind fun x fr S => (frzX ((ev2 cf gl b).v fr S)).bind fun y fr S => RX.lift ((mindD x y).map Val.fz) fr S
def evs (cf : CF) (gl : Str → Option D) : Xs → Frame → Store → RX (List D)
  | .nil => fun fr S => .ok [] fr S
  | .cons e es => fun fr S => (frzX ((ev2 cf gl e).v fr S)).bind fun x fr S => (evs cf gl es fr S).bind fun xs fr S => .ok (x :: xs) fr S
/-- a comprehension's tests -/
def evC (cf : CF) (gl : Str → Option D) : Xs → Frame → Store → RX Bool
  | .nil => fun fr S => .ok true fr S
  | .cons e es => match es with
    | .nil => (ev2 cf gl e).t
    | .cons _ _ => fun _ _ => .no
def evW (cf : CF) (gl : Str → Option D) : Wk → Frame → Store → RX (List D)
  | .seq e => fun fr S => (frzX ((ev2 cf gl e).v fr S)).bind fun x fr S => match x with | .lst xs => .ok xs fr S | .tup xs => .ok xs fr S | .str z => .ok (signsD z) fr S | _ => .no
  | .rng1 e => fun fr S => (frzX ((ev2 cf gl e).v fr S)).bind fun x fr S => match x with | .int j => if rgOk 0 j then .ok (rgD 0 j) fr S else .no | _ => .no
  | .rng2 a b => fun fr S => (frzX ((ev2 cf gl a).v fr S)).bind fun x fr S => (frzX ((ev2 cf gl b).v fr S)).bind fun y fr S => match x, y with | .int i, .int j => if rgOk i j then .ok (rgD i j) fr S else .no | _, _ => .no
  | .enm e => fun fr S => (frzX ((ev2 cf gl e).v fr S)).bind fun x fr S => match x with | .lst xs => .ok (enumD xs) fr S | .tup xs => .ok (enumD xs) fr S | _ => .no
  | .zip a b => fun fr S => (frzX ((ev2 cf gl a).v fr S)).bind fun x fr S => (frzX ((ev2 cf gl b).v fr S)).bind fun y fr S => match x, y with
    | .lst xs, .lst ys => .ok (zipD xs ys) fr S | .tup xs, .tup ys => .ok (zipD xs ys) fr S | _, _ => .no
  | .rng3 a b c => fun fr S => (frzX ((ev2 cf gl a).v fr S)).bind fun x fr S => (frzX ((ev2 cf gl b).v fr S)).bind fun y fr S => (frzX ((ev2 cf gl c).v fr S)).bind fun z fr S => match x, y, z with
    | .int i, .int j, .int k => if k = -1 ∧ rgOk i j = true then .ok (rgN i j) fr S else .no | _, _, _ => .no
end
def ev (cf : CF) (gl : Str → Option D) (m : Xp) : Frame → Store → RX Val := (ev2 cf gl m).v
def evT (cf : CF) (gl : Str → Option D) (m : Xp) : Frame → Store → RX Bool := (ev2 cf gl m).t

/-! ### statements -/
inductive RS where
  | nx (fr : Frame) (S : Store) | rt (v : Val) (fr : Frame) (S : Store) | ex (e : Ex) (fr : Frame) (S : Store) | bk (fr : Frame) (S : Store) | ct (fr : Frame) (S : Store) | no
def RX.thn {α : Type} (r : RX α) (k : α → Frame → Store → RS) : RS := match r with
  | .ok a fr S => k a fr S
  | .ex e fr S => .ex e fr S
  | .no => .no
def RS.seq (r : RS) (k : Frame → Store → RS) : RS := match r with
  | .nx fr S => k fr S
  | r => r
mutual
inductive Sm where
  | exp (e : Xp) | set (i : Nat) (e : Xp) | asg (t : Tg) (e : Xp) | ret (e : Xp) | retN | cond (c : Xp) (a b : Sms) | loop (tg : Tg) (it : Wk) (body : Sms)
  | raise (c : Str) | appv (i : Nat) (e : Xp) | extv (i : Nat) (e : Xp) | setv (i : Nat) (ix e : Xp) | setr (a ix e : Xp) | pass
  | par (i j : Nat) (a b : Xp) | setd (i : Nat) (ix e : Xp) | never | setf (c f : Str) (a e : Xp) | setrd (a ix e : Xp)
inductive Sms where
  | nil | cons (s : Sm) (ss : Sms)
end
def loopGo (tg : Tg) (body : Frame → Store → RS) : List D → Frame → Store → RS
  | [], fr, S => .nx fr S
  | d :: ds, fr, S => match asg tg d fr with
    | none => .no
    | some fr1 => match body fr1 S with
      | .nx fr2 S2 => loopGo tg body ds fr2 S2
      | .ct fr2 S2 => loopGo tg body ds fr2 S2
      | .bk fr2 S2 => .nx fr2 S2
      | r => r
def appX (i : Nat) (d : D) (fr : Frame) (S : Store) : RS := match fr[i]? with
  | some (some (.own (.lst xs))) => if xs.length < sizeLine then .nx (fr.set i (some (.own (.lst (xs ++ [d]))))) S else .no
  | _ => .no
def extX (i : Nat) (d : D) (fr : Frame) (S : Store) : RS := match fr[i]?, d with
  | some (some (.own (.lst xs))), .lst ys => if xs.length + ys.length ≤ sizeLine then .nx (fr.set i (some (.own (.lst (xs ++ ys))))) S else .no
  | _, _ => .no
def setX (i : Nat) (y d : D) (fr : Frame) (S : Store) : RS := match fr[i]?, y with
  | some (some (.own (.lst xs))), .int k => match ixN xs.length k with
    | some j => .nx (fr.set i (some (.own (.lst (xs.set j d))))) S
    | none => .no
  | _, _ => .no
/-- an own dict stands in the slot -/
def ownT (i : Nat) (fr : Frame) : Bool := match fr[i]? with
  | some (some (.own (.dK _ _))) => true
  | some (some (.own (.dT _ _))) => true
  | _ => false
/-- x[k] = d, x an own dict -/
def setdX (i : Nat) (y d : D) (fr : Frame) (S : Store) : RS := match fr[i]? with
  | some (some (.own (.dK ks vs))) => match toKey y with
    | some k => if ks.length < sizeLine then .nx (fr.set i (some (.own (.dK (putKs ks k) (putVs ks vs k d))))) S else .no
    | none => .no
  | some (some (.own (.dT ks vs))) => match keyT y with
    | some k => if ks.length < sizeLine then .nx (fr.set i (some (.own (.dT (putKs ks k) (putVs ks vs k d))))) S else .no
    | none => .no
  | _ => .no
def setrX (o y d : D) (fr : Frame) (S : Store) : RS := match o, y with
  | .ref n, .int k => match S[n]? with
    | some (.lst xs) => match ixN xs.length k with
      | some j => .nx fr (S.set n (.lst (xs.set j d)))
      | none => .no
    | _ => .no
  | _, _ => .no
/-- x[k] = d, x a dict of the store -/
def setrdX (o y d : D) (fr : Frame) (S : Store) : RS := match o with
  | .ref n => match S[n]? with
    | some (.dT ks vs) => match keyT y with
      | some k => if ks.length < sizeLine then .nx fr (S.set n (.dT (putKs ks k) (putVs ks vs k d))) else .no
      | none => .no
    | some (.dK ks vs) => match toKey y with
      | some k => if ks.length < sizeLine then .nx fr (S.set n (.dK (putKs ks k) (putVs ks vs k d))) else .no
      | none => .no
    | _ => .no
  | _ => .no
/-- a value that is to be held by others -/
def shareV (v : Val) (S : Store) : D × Store := match v with
  | .fz d => (d, S)
  | .own c => (.ref S.length, S ++ [c])
def setfX (c f : Str) (o d : D) (fr : Frame) (S : Store) : RS := match o with
  | .ref n => match S[n]? with
    | some (.ins c' ns vs) => if c' = c ∧ ns.length < 100 then .nx fr (S.set n (.ins c' (fldPutN ns f) (fldPutV ns vs f d))) else .no
    | _ => .no
  | _ => .no
/-- what is handed back: a name's own object moves -/
def retX (m : Xp) (f : Frame → Store → RX Val) : Frame → Store → RX Val := match m with
  | .var i => fun fr S => match fr[i]? with
    | some (some (.fz d)) => .ok (.fz d) fr S
    | some (some (.own c)) => .ok (.own c) (fr.set i none) S
    | _ => .no
  | _ => f
mutual
def ex (cf : CF) (gl : Str → Option D) : Sm → Frame → Store → RS
  | .exp e => fun fr S => (frzX (ev cf gl e fr S)).thn fun _ fr S => .nx fr S
  | .set i e => fun fr S => (ev cf gl e fr S).thn fun v fr S => .nx (fr.set i (some v)) S
  | .asg t e => fun fr S => (frzX (ev cf gl e fr S)).thn fun d fr S => match Eng.asg t d fr with | some fr' => .nx fr' S | none => .no
  | .ret e => fun fr S => (retX e (ev cf gl e) fr S).thn fun v fr S => .rt v fr S
  | .retN => fun fr S => .rt (.fz .non) fr S
  | .cond c a b => fun fr S => (evT cf gl c fr S).thn fun t fr S => match t with | true => exs cf gl a fr S | false => exs cf gl b fr S
  | .loop tg it body => fun fr S => (evW cf gl it fr S).thn fun ds fr S => loopGo tg (exs cf gl body) ds fr S
  | .raise c => fun fr S => .ex ⟨c, [], []⟩ fr S
  | .appv i e => fun fr S => if ownL i fr then (frzX (ev cf gl e fr S)).thn fun d fr S => appX i d fr S else .no
  | .extv i e => fun fr S => if ownL i fr then (frzX (ev cf gl e fr S)).thn fun d fr S => extX i d fr S else .no
  | .setv i ix e => fun fr S => (frzX (ev cf gl e fr S)).thn fun d fr S => if ownL i fr then (frzX (ev cf gl ix fr S)).thn fun y fr S => setX i y d fr S else .no
  | .setr a ix e => fun fr S => (frzX (ev cf gl e fr S)).thn fun d fr S => (frzX (ev cf gl a fr S)).thn fun o fr S => (frzX (ev cf gl ix fr S)).thn fun y fr S => setrX o y d fr S
  | .pass => fun fr S => .nx fr S
  | .never => fun _ _ => .no
  | .par i j a b => fun fr S => (ev cf gl a fr S).thn fun v fr S => (ev cf gl b fr S).thn fun w fr S => .nx ((fr.set i (some v)).set j (some w)) S
  | .setf c f a e => fun fr S => (ev cf gl e fr S).thn fun v fr S => (frzX (ev cf gl a fr (shareV v S).2)).thn fun o fr S' => setfX c f o (shareV v S).1 fr S'
  | .setrd a ix e => fun fr S => (frzX (ev cf gl e fr S)).thn fun d fr S => (frzX (ev cf gl a fr S)).thn fun o fr S => (frzX (ev cf gl ix fr S)).thn fun y fr S => setrdX o y d fr S
  | .setd i ix e => fun fr S => (frzX (ev cf gl e fr S)).thn fun d fr S => if ownT i fr then (frzX (ev cf gl ix fr S)).thn fun y fr S => setdX i y d fr S else .no
def exs (cf : CF) (gl : Str → Option D) : Sms → Frame → Store → RS
  | .nil => fun fr S => .nx fr S
  | .cons s ss => fun fr S => (ex cf gl s fr S).seq fun fr S => exs cf gl ss fr S
end

/-! ### defs -/
structure Df where
  name : Str
  ps : Nat
  ns : Nat
  body : Sms
  dfl : List D := []
/-- defaults fill up -/
def Df.pad (d : Df) (xs : List D) : List D := xs ++ d.dfl.drop (xs.length + d.dfl.length - d.ps)
def Df.start (d : Df) (xs : List D) : Frame := xs.map (fun x => some (Val.fz x)) ++ List.replicate (d.ns - xs.length) none
def RS.done : RS → RC
  | .nx _ S => .ok (.fz .non) S
  | .rt v _ S => .ok v S
  | .ex e _ S => .ex e S
  | _ => .no
def runDf (cf : CF) (gl : Str → Option D) (d : Df) (xs : List D) (S : Store) : RC := if (d.pad xs).length = d.ps then (exs cf gl d.body (d.start (d.pad xs)) S).done else .no
/-- a program's defs, called to a depth -/
def callN (P : Str → Option Df) (gl : Str → Option D) : Nat → CF
  | 0 => fun _ _ _ => .no
  | n + 1 => fun f xs S => match P f with
    | some d => runDf (callN P gl n) gl d xs S
    | none => .no
end Eng
end

section
/-! The engine, part B1: ints in order. -/
namespace Eng
open PySem
theorem insI_perm (k : Int) : ∀ l : List Int, (insI k l).Perm (k :: l)
  | [] => .refl _
  | x :: xs => by
    unfold insI
    split
    · exact .refl _
    · exact ((insI_perm k xs).cons x).trans (.swap k x xs)
theorem srtI_perm : ∀ l : List Int, (srtI l).Perm l
  | [] => .refl _
  | x :: xs => (insI_perm x (srtI xs)).trans ((srtI_perm xs).cons x)
theorem insI_pw (k : Int) : ∀ {l : List Int}, l.Pairwise (· ≤ ·) → (insI k l).Pairwise (· ≤ ·)
  | [], _ => by unfold insI; exact List.pairwise_singleton _ _
  | x :: xs, h => by
    rw [List.pairwise_cons] at h
    unfold insI
    split
    · rename_i hk
      refine List.pairwise_cons.mpr ⟨fun y hy => ?_, List.pairwise_cons.mpr h⟩
      rcases List.mem_cons.mp hy with rfl | hy
      · exact hk
      · have := h.1 y hy; omega
    · rename_i hk
      refine List.pairwise_cons.mpr ⟨fun y hy => ?_, insI_pw k h.2⟩
      rcases List.mem_cons.mp ((insI_perm k xs).mem_iff.mp hy) with rfl | hy
      · omega
      · exact h.1 y hy
theorem srtI_pw : ∀ l : List Int, (srtI l).Pairwise (· ≤ ·)
  | [] => .nil
  | x :: xs => insI_pw x (srtI_pw xs)
/-- two rising lists of the same ints are one -/
theorem pw_eq : ∀ {a b : List Int}, a.Perm b → a.Pairwise (· ≤ ·) → b.Pairwise (· ≤ ·) → a = b
  | [], b, p, _, _ => (List.Perm.nil_eq p)
  | x :: a, [], p, _, _ => absurd p.length_eq (by simp)
  | x :: a, y :: b, p, ha, hb => by
    rw [List.pairwise_cons] at ha hb
    have e : x = y := by
      have h1 : x ∈ y :: b := p.mem_iff.mp List.mem_cons_self
      have h2 : y ∈ x :: a := p.mem_iff.mpr List.mem_cons_self
      rcases List.mem_cons.mp h1 with h1 | h1
      · exact h1
      · rcases List.mem_cons.mp h2 with h2 | h2
        · exact h2.symm
        · have := ha.1 y h2; have := hb.1 x h1; omega
    subst e
    rw [pw_eq (List.Perm.cons_inv p) ha.2 hb.2]
theorem srtI_one {a b : List Int} (p : a.Perm b) (h : a.Pairwise (· ≤ ·)) : a = srtI b := pw_eq (p.trans (srtI_perm b).symm) h (srtI_pw b)
theorem insU_mem (k : Int) : ∀ (l : List Int) (j : Int), j ∈ insU k l ↔ j = k ∨ j ∈ l
  | [], j => by unfold insU; simp
  | x :: xs, j => by
    unfold insU
    split
    · simp
    · split
      · rename_i h; subst h; simp
      · rw [List.mem_cons, insU_mem k xs j, List.mem_cons]
        constructor
        · rintro (h | h | h)
          · exact .inr (.inl h)
          · exact .inl h
          · exact .inr (.inr h)
        · rintro (h | h | h)
          · exact .inr (.inl h)
          · exact .inl h
          · exact .inr (.inr h)
theorem setI_mem : ∀ (l : List Int) (j : Int), j ∈ setI l ↔ j ∈ l
  | [], j => Iff.rfl
  | x :: xs, j => by
    show j ∈ insU x (setI xs) ↔ _
    rw [insU_mem, setI_mem xs, List.mem_cons]
theorem insU_pw (k : Int) : ∀ {l : List Int}, l.Pairwise (· < ·) → (insU k l).Pairwise (· < ·)
  | [], _ => by unfold insU; exact List.pairwise_singleton _ _
  | x :: xs, h => by
    have h0 := h
    rw [List.pairwise_cons] at h
    unfold insU
    split
    · rename_i hk
      refine List.pairwise_cons.mpr ⟨fun y hy => ?_, h0⟩
      rcases List.mem_cons.mp hy with rfl | hy
      · exact hk
      · have := h.1 y hy; omega
    · split
      · exact h0
      · rename_i h1 h2
        refine List.pairwise_cons.mpr ⟨fun y hy => ?_, insU_pw k h.2⟩
        rcases (insU_mem k xs y).mp hy with rfl | hy
        · omega
        · exact h.1 y hy
theorem setI_pw : ∀ l : List Int, (setI l).Pairwise (· < ·)
  | [] => .nil
  | x :: xs => insU_pw x (setI_pw xs)
theorem lt_eq : ∀ {a b : List Int}, a.Pairwise (· < ·) → b.Pairwise (· < ·) → (∀ k, k ∈ a ↔ k ∈ b) → a = b
  | [], [], _, _, _ => rfl
  | [], y :: b, _, _, h => absurd ((h y).mpr List.mem_cons_self) (by simp)
  | x :: a, [], _, _, h => absurd ((h x).mp List.mem_cons_self) (by simp)
  | x :: a, y :: b, ha, hb, h => by
    rw [List.pairwise_cons] at ha hb
    have e : x = y := by
      rcases List.mem_cons.mp ((h x).mp List.mem_cons_self) with h1 | h1
      · exact h1
      · rcases List.mem_cons.mp ((h y).mpr List.mem_cons_self) with h2 | h2
        · exact h2.symm
        · have := ha.1 y h2; have := hb.1 x h1; omega
    subst e
    rw [lt_eq ha.2 hb.2 fun k => ?_]
    have hk := h k
    rw [List.mem_cons, List.mem_cons] at hk
    constructor
    · intro m
      rcases hk.mp (.inr m) with rfl | m'
      · exact absurd (ha.1 k m) (Int.lt_irrefl k)
      · exact m'
    · intro m
      rcases hk.mpr (.inr m) with rfl | m'
      · exact absurd (hb.1 k m) (Int.lt_irrefl k)
      · exact m'
theorem setI_one {a b : List Int} (h : a.Pairwise (· < ·)) (m : ∀ k, k ∈ a ↔ k ∈ b) : a = setI b := lt_eq h (setI_pw b) fun k => by rw [m k, setI_mem]
end Eng
end

section
/-! The engine, part C: steps of the frame, the store and the heap. -/
namespace Eng
open PySem PySem.Spec PyProof.Rows L2
section
variable {K : PySem.W.Frag} {mg : Str → Option Value} {g g' g2 : Gh} {H H' H2 : Hp} {fr fr' : Frame} {S S' : Store} {σ σ' : L2.St} {p a : Addr} {o : HO} {c c' : Cell} {d : D} {x : V} {i n : Nat}

theorem RD.tracked_lst {xs : List D} (h : RD K g H (.lst xs) x) : ∃ a vs, x = .ref a ∧ H a = some (.lst vs) ∧ ¬ g.av a ∧ RDs K g H xs vs := by
  cases h with
  | lst h n r => exact ⟨_, _, rfl, h, n, r⟩
theorem RD.of_tup {xs : List D} (h : RD K g H (.tup xs) x) : ∃ a vs, x = .ref a ∧ SqT K H a vs ∧ RDs K g H xs vs := by
  cases h with
  | tup h r => exact ⟨_, _, rfl, SqT.of h, r⟩
theorem RD.of_tupX {xs : List D} (h : RD K g H (.tup xs) x) : ∃ a vs, x = .ref a ∧ H a = some (.tup vs) ∧ RDs K g H xs vs := by
  cases h with
  | tup h r => exact ⟨_, _, rfl, h, r⟩
theorem RD.of_int {j : Int} (h : RD K g H (.int j) x) : x = .int j := by cases h; rfl
theorem RD.of_bl {j : Bool} (h : RD K g H (.bl j) x) : x = .bl j := by cases h; rfl
theorem RD.of_str {j : Str} (h : RD K g H (.str j) x) : x = .str j := by cases h; rfl
theorem RD.of_non (h : RD K g H .non x) : x = .non := by cases h; rfl
theorem RD.of_ref (h : RD K g H (.ref n) x) : ∃ a, x = .ref a ∧ g.rho[n]? = some a := by
  cases h with
  | ref h => exact ⟨_, rfl, h⟩
theorem RD.of_scr {xs : List D} (h : RD K g H (.scr xs) x) : ∃ a vs, x = .ref a ∧ SqL K H a vs ∧ RDs K g H xs vs := by
  cases h with
  | scr h r =>
    rcases h with ⟨h, _⟩ | h
    · exact ⟨_, _, rfl, .inl h, r⟩
    · exact ⟨_, _, rfl, h _, r⟩
theorem RD.of_dic {ks : List Key} {xs : List D} (h : RD K g H (.dic ks xs) x) : ∃ a vs, x = .ref a ∧ H a = some (.dK (ks.zip vs)) ∧ ks.length = vs.length ∧ ¬ g.av a ∧ RDs K g H xs vs := by
  cases h with
  | dic h l n r => exact ⟨_, _, rfl, h, l, n, r⟩

theorem RD.of_dit {ks : List (List Key)} {xs : List D} (h : RD K g H (.dit ks xs) x) : ∃ a vs, x = .ref a ∧ H a = some (.dT (ks.zip vs)) ∧ ks.length = vs.length ∧ ¬ g.av a ∧ RDs K g H xs vs := by
  cases h with
  | dit h l n r => exact ⟨_, _, rfl, h, l, n, r⟩

theorem StR.fresh (r : StR K mg g S H) (hp : H p = none) : ¬ g.av p := fun z => by
  obtain ⟨o, e⟩ := r.tr p z
  rw [hp] at e; cases e
/-- a new object that nobody else holds -/
abbrev Gh.push (g : Gh) (p : Addr) : Gh := { g with tmp := p :: g.tmp }
theorem mono_push (hp : H p = none) : Mono K g H (g.push p) (upd H p o) := by
  refine ⟨fun a u e n => ⟨by rw [upd_ne (ne_of_none e hp)]; exact e, fun z => ?_⟩, fun a xs e => ?_, fun _ _ z => z⟩
  · rcases z with z | z | z
    · exact n (.inl z)
    · exact n (.inr (.inl z))
    · rcases List.mem_cons.mp z with z | z
      · exact ne_of_none e hp z
      · exact n (.inr (.inr z))
  · rw [upd_ne (ne_of_none e hp)]; exact e
theorem keep_push (hp : H p = none) : Keep g H (g.push p) (upd H p o) := by
  refine ⟨fun a u e n m => ⟨by rw [upd_ne (ne_of_none e hp)]; exact e, n, m⟩, fun a u e n m t => ?_, fun a xs e => ?_, fun _ _ z => z⟩
  · rcases List.mem_cons.mp t with z | z
    · exact absurd z (ne_of_none e hp)
    · exact z
  · rw [upd_ne (ne_of_none e hp)]; exact e
theorem SlotR.mono (m : Mono K g H g' H') (ho : ∀ a, a ∈ g.own → a ∈ g'.own ∧ H' a = H a) {v : Val} (h : SlotR K mg g H x v) : SlotR K mg g' H' x v := by
  cases v with
  | fz d => exact RD.mono m h
  | own c => obtain ⟨a, e, m', r⟩ := h; exact ⟨a, e, (ho a m').1, r.mono m (ho a m').2⟩
theorem Rel.push (r : Rel K mg g fr S σ H) (hp : H p = none) : Rel K mg (g.push p) fr S σ (upd H p o) := by
  have np := r.st.fresh hp
  refine ⟨r.len, fun i v e => ?_, r.apart, ⟨r.st.len, r.st.nd, fun n c a e q => ?_, fun a z => ⟨(r.st.rt a z).1, fun t => ?_⟩, fun a z t => ?_, fun a z => ?_⟩⟩
  · obtain ⟨x, e1, s⟩ := r.slot i v e
    refine ⟨x, e1, s.mono (mono_push hp) fun a z => ⟨z, ?_⟩⟩
    obtain ⟨u, e2⟩ := r.st.tr a (.inr (.inl z))
    rw [upd_ne (ne_of_none e2 hp)]
  · obtain ⟨u, e2⟩ := r.st.tr a (.inl (List.mem_of_getElem? q))
    exact (r.st.cell n c a e q).mono (mono_push hp) (by rw [upd_ne (ne_of_none e2 hp)])
  · rcases List.mem_cons.mp t with t | t
    · exact np (.inl (t ▸ z))
    · exact (r.st.rt a z).2 t
  · rcases List.mem_cons.mp t with t | t
    · exact np (.inr (.inl (t ▸ z)))
    · exact r.st.ot a z t
  · by_cases e : a = p
    · subst e; exact ⟨o, upd_same⟩
    · rw [upd_ne e]
      refine r.st.tr a ?_
      rcases z with z | z | z
      · exact .inl z
      · exact .inr (.inl z)
      · rcases List.mem_cons.mp z with t | t
        · exact absurd t e
        · exact .inr (.inr t)
/-- a tmp is given up -/
theorem Rel.drop {t : List Addr} (r : Rel K mg g fr S σ H) (h : ∀ a, a ∈ t → a ∈ g.tmp) : Rel K mg { g with tmp := t } fr S σ H := by
  have m : Mono K g H { g with tmp := t } H := Mono.less (fun a z => by
    rcases z with z | z | z
    · exact .inl z
    · exact .inr (.inl z)
    · exact .inr (.inr (h a z))) fun _ _ z => z
  refine ⟨r.len, fun i v e => let ⟨x, e1, s⟩ := r.slot i v e; ⟨x, e1, s.mono m fun a z => ⟨z, rfl⟩⟩, r.apart, ⟨r.st.len, r.st.nd, fun n c a e q => (r.st.cell n c a e q).mono m rfl, fun a z => ⟨(r.st.rt a z).1, fun w => (r.st.rt a z).2 (h a w)⟩, fun a z w => r.st.ot a z (h a w), fun a z => r.st.tr a ?_⟩⟩
  rcases z with z | z | z
  · exact .inl z
  · exact .inr (.inl z)
  · exact .inr (.inr (h a z))
theorem mono_drop {t : List Addr} (h : ∀ a, a ∈ t → a ∈ g.tmp) : Mono K g H { g with tmp := t } H := Mono.less (fun a z => by
    rcases z with z | z | z
    · exact .inl z
    · exact .inr (.inl z)
    · exact .inr (.inr (h a z))) fun _ _ z => z
theorem Rel.setFz (r : Rel K mg g fr S σ H) (h : RD K g H d x) : Rel K mg g (fr.set i (some (.fz d))) S (σ.set i (some x)) H := by
  refine ⟨by rw [List.length_set, List.length_set]; exact r.len, fun j v e => ?_, fun j k c c' a ne e1 e2 e3 => ?_, r.st⟩
  · by_cases hj : i = j
    · subst hj
      have hl : i < (fr.set i (some (Val.fz d))).length := (List.getElem?_eq_some_iff.mp e).1
      rw [List.length_set] at hl
      rw [List.getElem?_set_self hl] at e
      cases e
      exact ⟨x, List.getElem?_set_self (by rw [← r.len]; exact hl), h⟩
    · rw [List.getElem?_set_ne hj] at e
      obtain ⟨y, e1, s⟩ := r.slot j v e
      exact ⟨y, by rw [List.getElem?_set_ne hj]; exact e1, s⟩
  · have nj : i ≠ j := fun z => by
      subst z
      have hl : i < (fr.set i (some (Val.fz d))).length := (List.getElem?_eq_some_iff.mp e1).1
      rw [List.length_set] at hl
      rw [List.getElem?_set_self hl] at e1; cases e1
    have nk : i ≠ k := fun z => by
      subst z
      have hl : i < (fr.set i (some (Val.fz d))).length := (List.getElem?_eq_some_iff.mp e2).1
      rw [List.length_set] at hl
      rw [List.getElem?_set_self hl] at e2; cases e2
    rw [List.getElem?_set_ne nj] at e1 e3
    rw [List.getElem?_set_ne nk] at e2
    rw [List.getElem?_set_ne nk]
    exact r.apart j k c c' a ne e1 e2 e3
/-- a slot is forgotten -/
theorem Rel.setNone (r : Rel K mg g fr S σ H) : Rel K mg g (fr.set i none) S σ H := by
  refine ⟨by rw [List.length_set]; exact r.len, fun j v e => ?_, fun j k c c' a ne e1 e2 e3 => ?_, r.st⟩
  · by_cases hj : i = j
    · subst hj
      have hl : i < (fr.set i (none : Option Val)).length := (List.getElem?_eq_some_iff.mp e).1
      rw [List.length_set] at hl
      rw [List.getElem?_set_self hl] at e; cases e
    · rw [List.getElem?_set_ne hj] at e
      exact r.slot j v e
  · have nj : i ≠ j := fun z => by
      subst z
      have hl : i < (fr.set i (none : Option Val)).length := (List.getElem?_eq_some_iff.mp e1).1
      rw [List.length_set] at hl
      rw [List.getElem?_set_self hl] at e1; cases e1
    have nk : i ≠ k := fun z => by
      subst z
      have hl : i < (fr.set i (none : Option Val)).length := (List.getElem?_eq_some_iff.mp e2).1
      rw [List.length_set] at hl
      rw [List.getElem?_set_self hl] at e2; cases e2
    rw [List.getElem?_set_ne nj] at e1
    rw [List.getElem?_set_ne nk] at e2
    exact r.apart j k c c' a ne e1 e2 e3
theorem Rel.setNoneV (r : Rel K mg g fr S σ H) : Rel K mg g (fr.set i none) S (σ.set i none) H := by
  have q := r.setNone (i := i)
  refine ⟨by rw [List.length_set, List.length_set]; exact r.len, fun j v e => ?_, fun j k c c' a ne e1 e2 e3 => ?_, r.st⟩
  · have hj : i ≠ j := fun hj => by
      subst hj
      have hl : i < (fr.set i (none : Option Val)).length := (List.getElem?_eq_some_iff.mp e).1
      rw [List.length_set] at hl
      rw [List.getElem?_set_self hl] at e; cases e
    obtain ⟨y, e1, s⟩ := q.slot j v e
    exact ⟨y, by rw [List.getElem?_set_ne hj]; exact e1, s⟩
  · have nj : i ≠ j := fun z => by
      subst z
      have hl : i < (fr.set i (none : Option Val)).length := (List.getElem?_eq_some_iff.mp e1).1
      rw [List.length_set] at hl
      rw [List.getElem?_set_self hl] at e1; cases e1
    have nk : i ≠ k := fun z => by
      subst z
      have hl : i < (fr.set i (none : Option Val)).length := (List.getElem?_eq_some_iff.mp e2).1
      rw [List.length_set] at hl
      rw [List.getElem?_set_self hl] at e2; cases e2
    rw [List.getElem?_set_ne nj] at e3
    rw [List.getElem?_set_ne nk]
    exact q.apart j k c c' a ne e1 e2 e3
/-- a tmp moves into a slot -/
theorem Rel.setOwn {t : List Addr} (r : Rel K mg g fr S σ H) (ht : g.tmp = a :: t) (na : a ∉ t) (hc : CellR K mg g H a c) :
    Rel K mg ⟨g.rho, a :: g.own, t⟩ (fr.set i (some (.own c))) S (σ.set i (some (.ref a))) H := by
  have m : Mono K g H ⟨g.rho, a :: g.own, t⟩ H := Mono.less (fun b z => by
    rcases z with z | z | z
    · exact .inl z
    · rcases List.mem_cons.mp z with z | z
      · exact .inr (.inr (by rw [ht, z]; exact List.mem_cons_self))
      · exact .inr (.inl z)
    · exact .inr (.inr (by rw [ht]; exact List.mem_cons_of_mem _ z))) fun _ _ z => z
  have nown : a ∉ g.own := fun z => r.st.ot a z (by rw [ht]; exact List.mem_cons_self)
  have nrho : a ∉ g.rho := fun z => (r.st.rt a z).2 (by rw [ht]; exact List.mem_cons_self)
  have own_at : ∀ (j : Nat) c' b, fr[j]? = some (some (.own c')) → σ[j]? = some (some (.ref b)) → b ∈ g.own := fun j c' b e1 e2 => by
    obtain ⟨y, e3, s⟩ := r.slot j _ e1
    obtain ⟨b', e4, hb, _⟩ := s
    rw [e2] at e3; cases e3; cases e4; exact hb
  refine ⟨by rw [List.length_set, List.length_set]; exact r.len, fun j v e => ?_, fun j k c1 c2 b ne e1 e2 e3 => ?_, ⟨r.st.len, r.st.nd, fun n c' b e q => (r.st.cell n c' b e q).mono m rfl, fun b z => ⟨fun w => ?_, fun w => ?_⟩, fun b z w => ?_, fun b z => ?_⟩⟩
  · by_cases hj : i = j
    · subst hj
      have hl : i < (fr.set i (some (Val.own c))).length := (List.getElem?_eq_some_iff.mp e).1
      rw [List.length_set] at hl
      rw [List.getElem?_set_self hl] at e
      cases e
      exact ⟨.ref a, List.getElem?_set_self (by rw [← r.len]; exact hl), a, rfl, List.mem_cons_self, hc.mono m rfl⟩
    · rw [List.getElem?_set_ne hj] at e
      obtain ⟨y, e1, s⟩ := r.slot j v e
      exact ⟨y, by rw [List.getElem?_set_ne hj]; exact e1, s.mono m fun b z => ⟨List.mem_cons_of_mem _ z, rfl⟩⟩
  · by_cases hj : i = j
    · subst hj
      have hl : i < (fr.set i (some (Val.own c))).length := (List.getElem?_eq_some_iff.mp e1).1
      rw [List.length_set] at hl
      rw [List.getElem?_set_self (by rw [← r.len]; exact hl)] at e3
      cases e3
      rw [List.getElem?_set_ne ne] at e2 ⊢
      exact fun z => nown (own_at k c2 a e2 z)
    · rw [List.getElem?_set_ne hj] at e1 e3
      by_cases hk : i = k
      · subst hk
        have hl : i < (fr.set i (some (Val.own c))).length := (List.getElem?_eq_some_iff.mp e2).1
        rw [List.length_set] at hl
        rw [List.getElem?_set_self (by rw [← r.len]; exact hl)]
        intro z
        cases z
        exact nown (own_at j c1 a e1 e3)
      · rw [List.getElem?_set_ne hk] at e2 ⊢
        exact r.apart j k c1 c2 b ne e1 e2 e3
  · rcases List.mem_cons.mp w with w | w
    · exact nrho (w ▸ z)
    · exact (r.st.rt b z).1 w
  · exact (r.st.rt b z).2 (by rw [ht]; exact List.mem_cons_of_mem _ w)
  · rcases List.mem_cons.mp z with z | z
    · exact na (z ▸ w)
    · exact r.st.ot b z (by rw [ht]; exact List.mem_cons_of_mem _ w)
  · refine r.st.tr b ?_
    rcases z with z | z | z
    · exact .inl z
    · rcases List.mem_cons.mp z with z | z
      · exact .inr (.inr (by rw [ht, z]; exact List.mem_cons_self))
      · exact .inr (.inl z)
    · exact .inr (.inr (by rw [ht]; exact List.mem_cons_of_mem _ z))
/-- a slot's own object is frozen -/
theorem Rel.freeze (r : Rel K mg g fr S σ H) (e : fr[i]? = some (some (.own c))) (hc : c.frz = some d) (hs : σ[i]? = some (some x)) :
    ∃ g', Keep g H g' H ∧ Rel K mg g' (fr.set i (some (.fz d))) S σ H ∧ g'.tmp = g.tmp ∧ RD K g' H d x := by
  obtain ⟨y, e1, b, e2, hb, hcell⟩ := r.slot i _ e
  rw [hs] at e1; cases e1; subst e2
  let g' : Gh := ⟨g.rho, g.own.filter fun z => decide (z ≠ b), g.tmp⟩
  have mem' : ∀ z, z ∈ g'.own ↔ z ∈ g.own ∧ z ≠ b := fun z => by
    show z ∈ g.own.filter _ ↔ _
    rw [List.mem_filter, decide_eq_true_iff]
  have m : Mono K g H g' H := Mono.less (fun z w => by
    rcases w with w | w | w
    · exact .inl w
    · exact .inr (.inl ((mem' z).mp w).1)
    · exact .inr (.inr w)) fun _ _ z => z
  have nb : ¬ g'.av b := fun w => by
    rcases w with w | w | w
    · exact (r.st.rt b w).1 hb
    · exact ((mem' b).mp w).2 rfl
    · exact r.st.ot b hb w
  have hd : RD K g' H d (.ref b) := by
    cases c with
    | lst xs => cases hc; obtain ⟨vs, h1, h2⟩ := hcell; exact .lst h1 nb (h2.mono m)
    | dK ks xs => cases hc; obtain ⟨vs, h1, h2, h3⟩ := hcell; exact .dic h1 h2 nb (h3.mono m)
    | dT ks xs => cases hc; obtain ⟨vs, h1, h2, h3⟩ := hcell; exact .dit h1 h2 nb (h3.mono m)
    | ins c ns xs => cases hc
  refine ⟨g', ⟨fun a o h n w => ⟨h, n, fun z => w ((mem' a).mp z).1⟩, fun _ _ _ _ _ z => z, fun _ _ z => z, fun _ _ z => z⟩, ?_, rfl, hd⟩
  have r1 : Rel K mg g' (fr.set i none) S σ H := by
    have q := r.setNone (i := i)
    refine ⟨q.len, fun j v ej => ?_, q.apart, ⟨r.st.len, r.st.nd, fun n c' a' e' q' => (r.st.cell n c' a' e' q').mono m rfl, fun z w => ⟨fun t => (r.st.rt z w).1 ((mem' z).mp t).1, (r.st.rt z w).2⟩, fun z w => r.st.ot z ((mem' z).mp w).1, fun z w => r.st.tr z ?_⟩⟩
    · have hj : i ≠ j := fun hj => by
        subst hj
        have hl : i < (fr.set i (none : Option Val)).length := (List.getElem?_eq_some_iff.mp ej).1
        rw [List.length_set] at hl
        rw [List.getElem?_set_self hl] at ej; cases ej
      rw [List.getElem?_set_ne hj] at ej
      obtain ⟨y, e1, s⟩ := r.slot j v ej
      refine ⟨y, e1, ?_⟩
      cases v with
      | fz d' => exact RD.mono m s
      | own c' =>
        obtain ⟨b', e2, hb', hc'⟩ := s
        refine ⟨b', e2, (mem' b').mpr ⟨hb', fun z => ?_⟩, hc'.mono m rfl⟩
        subst z; subst e2
        exact r.apart i j c c' b' hj e ej hs e1
    · rcases w with w | w | w
      · exact .inl w
      · exact .inr (.inl ((mem' z).mp w).1)
      · exact .inr (.inr w)
  have r2 := r1.setFz (i := i) hd
  have hl : i < fr.length := (List.getElem?_eq_some_iff.mp e).1
  rw [List.set_set] at r2
  have es : σ.set i (some (V.ref b)) = σ := by
    apply List.ext_getElem?
    intro j
    by_cases hj : i = j
    · subst hj
      rw [List.getElem?_set_self (by rw [← r.len]; exact hl), hs]
    · rw [List.getElem?_set_ne hj]
  rw [es] at r2
  exact r2
/-- a slot's own object is changed -/
theorem Rel.mut (r : Rel K mg g fr S σ H) (e : fr[i]? = some (some (.own c))) (hs : σ[i]? = some (some (.ref a))) (hc : ∀ g2 H2, Mono K g H g2 H2 → H2 a = some o → CellR K mg g2 H2 a c') :
    Keep g H g (upd H a o) ∧ Rel K mg g (fr.set i (some (.own c'))) S σ (upd H a o) := by
  obtain ⟨y, e1, b, e2, hb, hcell⟩ := r.slot i _ e
  rw [hs] at e1; cases e1; cases e2
  obtain ⟨o0, ho0, mu⟩ := hcell.some_of
  have tups : ∀ z xs, H z = some (.tup xs) → upd H a o z = some (.tup xs) := fun z xs h => by
    have nz : z ≠ a := fun w => by
      subst w
      rw [ho0] at h; cases h; exact mu
    rw [upd_ne nz]; exact h
  have m : Mono K g H g (upd H a o) := ⟨fun z u h n => ⟨by rw [upd_ne (fun (w : z = a) => n (.inr (.inl (w ▸ hb))))]; exact h, n⟩, tups, fun _ _ z => z⟩
  have hl : i < fr.length := (List.getElem?_eq_some_iff.mp e).1
  refine ⟨⟨fun z u h n w => ⟨by rw [upd_ne (fun (q : z = a) => w (q ▸ hb))]; exact h, n, w⟩, fun _ _ _ _ _ z => z, tups, fun _ _ z => z⟩, ?_⟩
  refine ⟨by rw [List.length_set]; exact r.len, fun j v ej => ?_, fun j k c1 c2 b' ne f1 f2 f3 => ?_, ⟨r.st.len, r.st.nd, fun n c1 b' e' q' => (r.st.cell n c1 b' e' q').mono m ?_, r.st.rt, r.st.ot, fun z w => ?_⟩⟩
  · by_cases hj : i = j
    · subst hj
      rw [List.getElem?_set_self hl] at ej
      cases ej
      exact ⟨.ref a, hs, a, rfl, hb, hc g _ m upd_same⟩
    · rw [List.getElem?_set_ne hj] at ej
      obtain ⟨y, f1, s⟩ := r.slot j v ej
      refine ⟨y, f1, ?_⟩
      cases v with
      | fz d' => exact RD.mono m s
      | own c1 =>
        obtain ⟨b', e2, hb', hc'⟩ := s
        refine ⟨b', e2, hb', hc'.mono m ?_⟩
        rw [upd_ne]
        intro z; subst z; subst e2
        exact r.apart i j c c1 b' hj e ej hs f1
  · by_cases hj : i = j
    · subst hj
      rw [List.getElem?_set_ne ne] at f2
      exact r.apart i k c c2 b' ne e f2 f3
    · rw [List.getElem?_set_ne hj] at f1
      by_cases hk : i = k
      · subst hk
        exact r.apart j i c1 c b' ne f1 e f3
      · rw [List.getElem?_set_ne hk] at f2
        exact r.apart j k c1 c2 b' ne f1 f2 f3
  · rw [upd_ne]
    intro z
    exact (r.st.rt b' (List.mem_of_getElem? q')).1 (z ▸ hb)
  · by_cases hz : z = a
    · subst hz; exact ⟨o, upd_same⟩
    · rw [upd_ne hz]; exact r.st.tr z w
/-- an object of the store is changed -/
theorem Rel.mutS (r : Rel K mg g fr S σ H) (e : S[n]? = some c) (hs : g.rho[n]? = some a) (hc : ∀ g2 H2, Mono K g H g2 H2 → H2 a = some o → CellR K mg g2 H2 a c') :
    Keep g H g (upd H a o) ∧ Rel K mg g fr (S.set n c') σ (upd H a o) := by
  have hcell := r.st.cell n c a e hs
  obtain ⟨o0, ho0, mu⟩ := hcell.some_of
  have hb : a ∈ g.rho := List.mem_of_getElem? hs
  have tups : ∀ z xs, H z = some (.tup xs) → upd H a o z = some (.tup xs) := fun z xs h => by
    have nz : z ≠ a := fun w => by
      subst w
      rw [ho0] at h; cases h; exact mu
    rw [upd_ne nz]; exact h
  have m : Mono K g H g (upd H a o) := ⟨fun z u h n => ⟨by rw [upd_ne (fun (w : z = a) => n (.inl (w ▸ hb)))]; exact h, n⟩, tups, fun _ _ z => z⟩
  have hl : n < S.length := (List.getElem?_eq_some_iff.mp e).1
  refine ⟨⟨fun z u h n w => ⟨by rw [upd_ne (fun (q : z = a) => n (q ▸ hb))]; exact h, n, w⟩, fun _ _ _ _ _ z => z, tups, fun _ _ z => z⟩, ?_⟩
  refine ⟨r.len, fun j v ej => ?_, r.apart, ⟨by rw [List.length_set]; exact r.st.len, r.st.nd, fun k c1 b' e' q' => ?_, r.st.rt, r.st.ot, fun z w => ?_⟩⟩
  · obtain ⟨y, f1, s⟩ := r.slot j v ej
    refine ⟨y, f1, s.mono m fun z w => ⟨w, ?_⟩⟩
    rw [upd_ne]
    intro q; subst q
    exact (r.st.rt z hb).1 w
  · by_cases hk : n = k
    · subst hk
      rw [List.getElem?_set_self hl] at e'
      cases e'
      rw [hs] at q'; cases q'
      exact hc g _ m upd_same
    · rw [List.getElem?_set_ne hk] at e'
      refine (r.st.cell k c1 b' e' q').mono m ?_
      rw [upd_ne]
      intro z; subst z
      obtain ⟨h1, e1⟩ := List.getElem?_eq_some_iff.mp hs
      obtain ⟨h2, e2⟩ := List.getElem?_eq_some_iff.mp q'
      exact hk ((List.getElem_inj r.st.nd).mp (e1.trans e2.symm))
  · by_cases hz : z = a
    · subst hz; exact ⟨o, upd_same⟩
    · rw [upd_ne hz]; exact r.st.tr z w
/-- a tmp goes into the store -/
theorem Rel.share {t : List Addr} (r : Rel K mg g fr S σ H) (ht : g.tmp = a :: t) (na : a ∉ t) (hc : CellR K mg g H a c) :
    Rel K mg ⟨g.rho ++ [a], g.own, t⟩ fr (S ++ [c]) σ H := by
  have nrho : a ∉ g.rho := fun z => (r.st.rt a z).2 (by rw [ht]; exact List.mem_cons_self)
  have nown : a ∉ g.own := fun z => r.st.ot a z (by rw [ht]; exact List.mem_cons_self)
  have av : ∀ b, Gh.av ⟨g.rho ++ [a], g.own, t⟩ b → g.av b := fun b z => by
    rcases z with z | z | z
    · rcases List.mem_append.mp z with z | z
      · exact .inl z
      · exact .inr (.inr (by rw [ht, List.mem_singleton.mp z]; exact List.mem_cons_self))
    · exact .inr (.inl z)
    · exact .inr (.inr (by rw [ht]; exact List.mem_cons_of_mem _ z))
  have m : Mono K g H ⟨g.rho ++ [a], g.own, t⟩ H := Mono.less av fun k b z => by
    show (g.rho ++ [a])[k]? = some b
    rw [List.getElem?_append_left (List.getElem?_eq_some_iff.mp z).1]
    exact z
  refine ⟨r.len, fun j v e => let ⟨y, e1, s⟩ := r.slot j v e; ⟨y, e1, s.mono m fun b z => ⟨z, rfl⟩⟩, r.apart, ⟨by show (g.rho ++ [a]).length = _; rw [List.length_append, List.length_append, r.st.len]; rfl, ?_, fun k c1 b e q => ?_, fun b z => ?_, fun b z w => r.st.ot b z (by rw [ht]; exact List.mem_cons_of_mem _ w), fun b z => r.st.tr b (av b z)⟩⟩
  · show (g.rho ++ [a]).Nodup
    rw [List.nodup_append]
    refine ⟨r.st.nd, by simp, fun x hx y hy => ?_⟩
    rw [List.mem_singleton.mp hy]
    exact fun z => nrho (z ▸ hx)
  · have q' : (g.rho ++ [a])[k]? = some b := q
    by_cases hk : k < S.length
    · rw [List.getElem?_append_left hk] at e
      rw [List.getElem?_append_left (by rw [r.st.len]; exact hk)] at q'
      exact (r.st.cell k c1 b e q').mono m rfl
    · have hk' : k = S.length := by
        have h1 := (List.getElem?_eq_some_iff.mp e).1
        rw [List.length_append, List.length_singleton] at h1
        omega
      subst hk'
      rw [List.getElem?_append_right (Nat.le_refl _)] at e
      simp at e
      subst e
      rw [List.getElem?_append_right (by rw [r.st.len]; exact Nat.le_refl _), r.st.len] at q'
      simp at q'
      subst q'
      exact hc.mono m rfl
  · have z' : b ∈ g.rho ++ [a] := z
    rcases List.mem_append.mp z' with w | w
    · exact ⟨(r.st.rt b w).1, fun q => (r.st.rt b w).2 (by rw [ht]; exact List.mem_cons_of_mem _ q)⟩
    · rw [List.mem_singleton.mp w]
      exact ⟨nown, na⟩
theorem keep_share {t : List Addr} (ht : g.tmp = a :: t) (na : a ∉ t) : ∀ {H0 : Hp} {g0 : Gh}, g0.tmp = t → Keep g0 H0 g H → Keep g0 H0 ⟨g.rho ++ [a], g.own, t⟩ H := fun {H0 g0} e k =>
  ⟨fun b o h h1 h2 => by
    obtain ⟨q1, q2, q3⟩ := k.keep b o h h1 h2
    refine ⟨q1, fun z => ?_, q3⟩
    rcases List.mem_append.mp z with z | z
    · exact q2 z
    · rw [List.mem_singleton.mp z] at h h1 h2
      have := k.tmp a o h h1 h2 (by rw [ht]; exact List.mem_cons_self)
      rw [e] at this
      exact na this, fun b o h h1 h2 z => by rw [e]; exact z, k.tups, fun m b z => by
    show (g.rho ++ [a])[m]? = some b
    have z' := k.pre m b z
    rw [List.getElem?_append_left (List.getElem?_eq_some_iff.mp z').1]
    exact z'⟩
/-- a tmp's object is changed -/
theorem Rel.mutT (r : Rel K mg g fr S σ H) (ht : a ∈ g.tmp) {vs : List V} (h0 : H a = some (.lst vs)) : Mono K g H g (upd H a o) ∧ Rel K mg g fr S σ (upd H a o) := by
  have tups : ∀ z xs, H z = some (.tup xs) → upd H a o z = some (.tup xs) := fun z xs h => by
    have nz : z ≠ a := fun w => by
      subst w
      rw [h0] at h; cases h
    rw [upd_ne nz]; exact h
  have m : Mono K g H g (upd H a o) := ⟨fun z u h n => ⟨by rw [upd_ne (fun (w : z = a) => n (.inr (.inr (w ▸ ht))))]; exact h, n⟩, tups, fun _ _ z => z⟩
  refine ⟨m, r.len, fun j v ej => ?_, r.apart, ⟨r.st.len, r.st.nd, fun n c1 b' e' q' => (r.st.cell n c1 b' e' q').mono m ?_, r.st.rt, r.st.ot, fun z w => ?_⟩⟩
  · obtain ⟨y, f1, s⟩ := r.slot j v ej
    refine ⟨y, f1, s.mono m fun z w => ⟨w, ?_⟩⟩
    rw [upd_ne]
    intro q; subst q
    exact r.st.ot z w ht
  · rw [upd_ne]
    intro z
    exact (r.st.rt b' (List.mem_of_getElem? q')).2 (z ▸ ht)
  · by_cases hz : z = a
    · subst hz; exact ⟨o, upd_same⟩
    · rw [upd_ne hz]; exact r.st.tr z w
end
end Eng
end

section
/-! The engine, part D: readings by results; operators by values. -/
namespace Eng
open PySem PySem.Spec PyProof.Rows L2

/-! ### exceptions, ends -/
def XR (K : PySem.W.Frag) (mg : Str → Option Value) (g : Gh) (H : Hp) (e : Ex) (cls : Value) (d : Option Addr) : Prop :=
  mg e.c = some cls ∧ ∃ vs, RDs K g H e.vs vs ∧ e.ns.length = vs.length ∧ match e.ns with
    | [] => d = none
    | _ => ∃ a, d = some a ∧ H a = some (.xd (e.ns.zip vs))

/-- what is wanted behind a result -/
def Aft {α β : Type} (K : PySem.W.Frag) (mg : Str → Option Value) (W : WX) (R : List Addr → Gh → Hp → α → β → Prop) (g : Gh) (H : Hp) (σ : L2.St) (r : RX α) (Q : β → Hp → Prop) : Prop := match r with
  | .ok a fr' S' => ∀ g' H' b, Keep g H g' H' → Rel K mg g' fr' S' σ H' → R g.tmp g' H' a b → Q b H'
  | .ex e fr' S' => ∀ g' H' c d, Keep g H g' H' → Rel K mg g' fr' S' σ H' → g'.tmp = g.tmp → XR K mg g' H' e c d → W c d σ H'
  | .no => False
def rD (K : PySem.W.Frag) : List Addr → Gh → Hp → D → V → Prop := fun t g H d x => g.tmp = t ∧ RD K g H d x
def rDs (K : PySem.W.Frag) : List Addr → Gh → Hp → List D → List V → Prop := fun t g H d x => g.tmp = t ∧ RDs K g H d x
def rId {α : Type} : List Addr → Gh → Hp → α → α → Prop := fun t g _ a b => g.tmp = t ∧ a = b
def rV (K : PySem.W.Frag) (mg : Str → Option Value) : List Addr → Gh → Hp → Val → V → Prop := fun t g H v x => match v with
  | .fz d => g.tmp = t ∧ RD K g H d x
  | .own c => ∃ a, x = .ref a ∧ g.tmp = a :: t ∧ a ∉ t ∧ CellR K mg g H a c
/-- a reading -/
def tX {α β : Type} (K : PySem.W.Frag) (mg : Str → Option Value) (W : WX) (R : List Addr → Gh → Hp → α → β → Prop) (f : Frame → Store → RX α) : L2.St → Hp → (β → Hp → Prop) → Prop := fun σ H Q =>
  ∃ g fr S, Rel K mg g fr S σ H ∧ Aft K mg W R g H σ (f fr S) Q

section
variable {K : PySem.W.Frag} {mg : Str → Option Value} {W : WX} {g g1 : Gh} {H H1 : Hp} {σ : L2.St} {α β γ δ : Type} {R : List Addr → Gh → Hp → α → β → Prop} {R2 : List Addr → Gh → Hp → γ → δ → Prop}
theorem Aft.imp {r : RX α} {Q Q' : β → Hp → Prop} (h : Aft K mg W R g H σ r Q) (i : ∀ b H', Q b H' → Q' b H') : Aft K mg W R g H σ r Q' := by
  cases r with
  | ok a fr S => exact fun g' H' b k e q => i b H' (h g' H' b k e q)
  | ex e fr S => exact h
  | no => exact h
theorem Aft.shift {r : RX α} {Q : β → Hp → Prop} (k : Keep g H g1 H1) (t : g1.tmp = g.tmp) (h : Aft K mg W R g H σ r Q) : Aft K mg W R g1 H1 σ r Q := by
  cases r with
  | ok a fr S => exact fun g' H' b k' e q => h g' H' b (k.trans k') e (by rw [← t]; exact q)
  | ex e fr S => exact fun g' H' c d k' e t' q => h g' H' c d (k.trans k') e (t'.trans t) q
  | no => exact h
/-- one result behind another one -/
theorem Aft.bind {r : RX α} {k : α → Frame → Store → RX γ} {Q : δ → Hp → Prop} (hR : ∀ t g H a b, R t g H a b → g.tmp = t) (h : Aft K mg W R2 g H σ (r.bind k) Q) :
    Aft K mg W R g H σ r (fun b H1 => ∃ a fr1 S1 g1, Keep g H g1 H1 ∧ Rel K mg g1 fr1 S1 σ H1 ∧ R g1.tmp g1 H1 a b ∧ g1.tmp = g.tmp ∧ Aft K mg W R2 g1 H1 σ (k a fr1 S1) Q) := by
  cases r with
  | ok a fr S => exact fun g' H' b k' e q => ⟨a, fr, S, g', k', e, by rw [hR _ _ _ _ _ q]; exact q, hR _ _ _ _ _ q, Aft.shift k' (hR _ _ _ _ _ q) h⟩
  | ex e fr S => exact h
  | no => exact h
theorem rD_tmp : ∀ t g H a b, rD K t g H a b → g.tmp = t := fun _ _ _ _ _ h => h.1
theorem rDs_tmp : ∀ t g H a b, rDs K t g H a b → g.tmp = t := fun _ _ _ _ _ h => h.1
theorem rId_tmp : ∀ t g H (a b : α), rId t g H a b → g.tmp = t := fun _ _ _ _ _ h => h.1
/-- a value that is known at once -/
theorem Aft.now {a : α} {b : β} {fr : Frame} {S : Store} {Q : β → Hp → Prop} (h : Aft K mg W R g H σ (.ok a fr S) Q) (k : Keep g H g1 H1) (e : Rel K mg g1 fr S σ H1) (q : R g.tmp g1 H1 a b) : Q b H1 := h g1 H1 b k e q
/-- a result is frozen: from a wish of the frozen one to a wish of the result -/
theorem Aft.frz {r : RX Val} {Q : V → Hp → Prop} (h : Aft K mg W (rD K) g H σ (frzX r) Q) : Aft K mg W (rV K mg) g H σ r Q := by
  cases r with
  | ok v fr S =>
    intro g' H' x k e q
    cases v with
    | fz d => exact h g' H' x k e q
    | own c =>
      obtain ⟨a, rfl, ht, na, hc⟩ := q
      have sub : ∀ z, z ∈ g.tmp → z ∈ g'.tmp := fun z hz => by rw [ht]; exact List.mem_cons_of_mem _ hz
      have e' := e.drop (t := g.tmp) sub
      have m : Mono K g' H' { g' with tmp := g.tmp } H' := mono_drop sub
      have k' : Keep g H { g' with tmp := g.tmp } H' := ⟨fun z o h1 h2 h3 => k.keep z o h1 h2 h3, fun _ _ _ _ _ z => z, k.tups, k.pre⟩
      have ha : a ∈ g'.tmp := by rw [ht]; exact List.mem_cons_self
      have nv : ¬ Gh.av { g' with tmp := g.tmp } a := fun z => by
        rcases z with z | z | z
        · exact (e.st.rt a z).2 ha
        · exact e.st.ot a z ha
        · exact na z
      have h' : Aft K mg W (rD K) g H σ (RX.lift c.frz fr S) Q := h
      cases c with
      | lst xs => obtain ⟨vs, h1, h2⟩ := hc; exact h' _ H' _ k' e' ⟨rfl, .lst h1 nv (h2.mono m)⟩
      | dK ks xs => obtain ⟨vs, h1, h2, h3⟩ := hc; exact h' _ H' _ k' e' ⟨rfl, .dic h1 h2 nv (h3.mono m)⟩
      | dT ks xs => obtain ⟨vs, h1, h2, h3⟩ := hc; exact h' _ H' _ k' e' ⟨rfl, .dit h1 h2 nv (h3.mono m)⟩
      | ins c ns xs => exact h'.elim
  | ex e fr S => exact h
  | no => exact h
end

/-! ### what a value is, seen through the store -/
section
variable {K : PySem.W.Frag} {mg : Str → Option Value} {g : Gh} {H : Hp} {S : Store} {d : D} {x : V}
theorem look_ref {n : Nat} {e : D} (h : look S (.ref n) = e) : (∃ xs, S[n]? = some (.lst xs) ∧ e = .lst xs) ∨ (∃ ks xs, S[n]? = some (.dK ks xs) ∧ e = .dic ks xs) ∨ (∃ ks xs, S[n]? = some (.dT ks xs) ∧ e = .dit ks xs) ∨ e = .ref n := by
  have h' : lookC n S[n]? = e := h
  cases q : S[n]? with
  | none => rw [q] at h'; exact .inr (.inr (.inr h'.symm))
  | some c =>
    rw [q] at h'
    cases c with
    | lst xs => exact .inl ⟨xs, rfl, h'.symm⟩
    | dK ks xs => exact .inr (.inl ⟨ks, xs, rfl, h'.symm⟩)
    | dT ks xs => exact .inr (.inr (.inl ⟨ks, xs, rfl, h'.symm⟩))
    | ins c ns xs => exact .inr (.inr (.inr h'.symm))
theorem look_lst {xs : List D} (st : StR K mg g S H) (r : RD K g H d x) (e : look S d = .lst xs) : ∃ a vs, x = .ref a ∧ H a = some (.lst vs) ∧ RDs K g H xs vs := by
  cases d with
  | lst ys => cases e; obtain ⟨a, vs, h1, h2, _, h3⟩ := r.tracked_lst; exact ⟨a, vs, h1, h2, h3⟩
  | ref n =>
    obtain ⟨a, rfl, h⟩ := r.of_ref
    rcases look_ref e with ⟨ys, q, z⟩ | ⟨ks, ys, q, z⟩ | ⟨ks, ys, q, z⟩ | z
    · cases z
      obtain ⟨vs, h1, h2⟩ := st.cell n _ a q h
      exact ⟨a, vs, rfl, h1, h2⟩
    · cases z
    · cases z
    · cases z
  | _ => cases e
theorem look_dic {ks : List Key} {xs : List D} (st : StR K mg g S H) (r : RD K g H d x) (e : look S d = .dic ks xs) : ∃ a vs, x = .ref a ∧ H a = some (.dK (ks.zip vs)) ∧ ks.length = vs.length ∧ RDs K g H xs vs := by
  cases d with
  | dic ks ys => cases e; obtain ⟨a, vs, h1, h2, h3, _, h4⟩ := r.of_dic; exact ⟨a, vs, h1, h2, h3, h4⟩
  | ref n =>
    obtain ⟨a, rfl, h⟩ := r.of_ref
    rcases look_ref e with ⟨ys, q, z⟩ | ⟨ks', ys, q, z⟩ | ⟨ks', ys, q, z⟩ | z
    · cases z
    · cases z
      obtain ⟨vs, h1, h2, h3⟩ := st.cell n _ a q h
      exact ⟨a, vs, rfl, h1, h2, h3⟩
    · cases z
    · cases z
  | _ => cases e
theorem look_dit {ks : List (List Key)} {xs : List D} (st : StR K mg g S H) (r : RD K g H d x) (e : look S d = .dit ks xs) : ∃ a vs, x = .ref a ∧ H a = some (.dT (ks.zip vs)) ∧ ks.length = vs.length ∧ RDs K g H xs vs := by
  cases d with
  | dit ks ys => cases e; obtain ⟨a, vs, h1, h2, h3, _, h4⟩ := r.of_dit; exact ⟨a, vs, h1, h2, h3, h4⟩
  | ref n =>
    obtain ⟨a, rfl, h⟩ := r.of_ref
    rcases look_ref e with ⟨ys, q, z⟩ | ⟨ks', ys, q, z⟩ | ⟨ks', ys, q, z⟩ | z
    · cases z
    · cases z
    · cases z
      obtain ⟨vs, h1, h2, h3⟩ := st.cell n _ a q h
      exact ⟨a, vs, rfl, h1, h2, h3⟩
    · cases z
  | _ => cases e
/-- neither a list nor a dict -/
def D.atom : D → Bool
  | .lst _ | .dic _ _ | .dit _ _ => false
  | _ => true
theorem look_same {e : D} (h : look S d = e) (n : e.atom = true) : d = e := by
  cases d with
  | ref k =>
    rcases look_ref h with ⟨ys, q, z⟩ | ⟨ks', ys, q, z⟩ | ⟨ks', ys, q, z⟩ | z
    · subst z; cases n
    · subst z; cases n
    · subst z; cases n
    · exact z.symm
  | _ => exact h

/-- data as seen: the value at hand, whatever holds it (a frozen one, the store's, a slot's own) -/
def Vw (K : PySem.W.Frag) (g : Gh) (H : Hp) (x : V) : D → Prop
  | .lst xs => ∃ a vs, x = .ref a ∧ H a = some (.lst vs) ∧ RDs K g H xs vs
  | .dic ks xs => ∃ a vs, x = .ref a ∧ H a = some (.dK (ks.zip vs)) ∧ ks.length = vs.length ∧ RDs K g H xs vs
  | .dit ks xs => ∃ a vs, x = .ref a ∧ H a = some (.dT (ks.zip vs)) ∧ ks.length = vs.length ∧ RDs K g H xs vs
  | d => RD K g H d x
theorem vw_look (st : StR K mg g S H) (r : RD K g H d x) : Vw K g H x (look S d) := by
  cases e : look S d with
  | lst xs => exact look_lst st r e
  | dic ks xs => exact look_dic st r e
  | dit ks xs => exact look_dit st r e
  | tup xs => rw [look_same e rfl] at r; exact r
  | int i => rw [look_same e rfl] at r; exact r
  | bl i => rw [look_same e rfl] at r; exact r
  | str i => rw [look_same e rfl] at r; exact r
  | non => rw [look_same e rfl] at r; exact r
  | scr xs => rw [look_same e rfl] at r; exact r
  | ref n => rw [look_same e rfl] at r; exact r
theorem vw_cell {a : Addr} {c : Cell} (h : CellR K mg g H a c) (e : c.frz = some d) : Vw K g H (.ref a) d := by
  cases c with
  | lst xs => cases e; obtain ⟨vs, h1, h2⟩ := h; exact ⟨a, vs, rfl, h1, h2⟩
  | dK ks xs => cases e; obtain ⟨vs, h1, h2, h3⟩ := h; exact ⟨a, vs, rfl, h1, h2, h3⟩
  | dT ks xs => cases e; obtain ⟨vs, h1, h2, h3⟩ := h; exact ⟨a, vs, rfl, h1, h2, h3⟩
  | ins c ns xs => cases e
end

/-! ### data -/
mutual
theorem toP_plain : ∀ d : D, d.pl = true → d.toP.plain = true
  | .non, _ | .bl _, _ | .int _, _ | .str _, _ => rfl
  | .lst xs, h => toPs_plain xs h
  | .tup xs, h => toPs_plain xs h
  | .dic _ _, h => nomatch h
  | .dit _ _, h => nomatch h
  | .ref _, h => nomatch h
  | .scr _, h => nomatch h
theorem toPs_plain : ∀ ds : List D, D.pls ds = true → PyData.plainAll (D.toPs ds) = true
  | [], _ => rfl
  | x :: xs, h => by
    have h' : (D.pl x && D.pls xs) = true := h
    rw [Bool.and_eq_true] at h'
    show (PyData.plain (D.toP x) && PyData.plainAll (D.toPs xs)) = true
    rw [toP_plain x h'.1, toPs_plain xs h'.2]; rfl
end
mutual
theorem toP_dep : ∀ d : D, d.pl = true → d.toP.depth = d.dep
  | .non, _ | .bl _, _ | .int _, _ | .str _, _ => rfl
  | .lst xs, h => by show PyData.depthAll (D.toPs xs) + 1 = D.deps xs + 1; rw [toPs_dep xs h]
  | .tup xs, h => by show PyData.depthAll (D.toPs xs) + 1 = D.deps xs + 1; rw [toPs_dep xs h]
  | .dic _ _, h => nomatch h
  | .dit _ _, h => nomatch h
  | .ref _, h => nomatch h
  | .scr _, h => nomatch h
theorem toPs_dep : ∀ ds : List D, D.pls ds = true → PyData.depthAll (D.toPs ds) = D.deps ds
  | [], _ => rfl
  | x :: xs, h => by
    have h' : (D.pl x && D.pls xs) = true := h
    rw [Bool.and_eq_true] at h'
    show max (PyData.depth (D.toP x)) (PyData.depthAll (D.toPs xs)) = max (D.dep x) (D.deps xs)
    rw [toP_dep x h'.1, toPs_dep xs h'.2]
end
mutual
theorem toP_eqv : ∀ a b : D, a.pl = true → b.pl = true → PyData.eqv a.toP b.toP = D.eqv a b
  | .non, b, _, h => by cases b <;> first | rfl | cases h
  | .bl _, b, _, h => by cases b <;> first | rfl | cases h
  | .int _, b, _, h => by cases b <;> first | rfl | cases h
  | .str _, b, _, h => by cases b <;> first | rfl | cases h
  | .lst xs, b, g, h => by
    cases b with
    | lst ys => exact toPs_eqv xs ys g h
    | _ => first | rfl | cases h
  | .tup xs, b, g, h => by
    cases b with
    | tup ys => exact toPs_eqv xs ys g h
    | _ => first | rfl | cases h
  | .dic _ _, _, h, _ => nomatch h
  | .dit _ _, _, h, _ => nomatch h
  | .ref _, _, h, _ => nomatch h
  | .scr _, _, h, _ => nomatch h
theorem toPs_eqv : ∀ a b : List D, D.pls a = true → D.pls b = true → PyData.eqvAll (D.toPs a) (D.toPs b) = D.eqvs a b
  | [], b, _, _ => by cases b <;> rfl
  | x :: xs, [], _, _ => rfl
  | x :: xs, y :: ys, g, h => by
    have g' : (D.pl x && D.pls xs) = true := g
    have h' : (D.pl y && D.pls ys) = true := h
    rw [Bool.and_eq_true] at g' h'
    show (PyData.eqv (D.toP x) (D.toP y) && PyData.eqvAll (D.toPs xs) (D.toPs ys)) = (D.eqv x y && D.eqvs xs ys)
    rw [toP_eqv x y g'.1 h'.1, toPs_eqv xs ys g'.2 h'.2]
end
section
variable {K : PySem.W.Frag} {g : Gh} {H : Hp}
mutual
theorem RD.dp : ∀ (d : D) (x : V), RD K g H d x → d.pl = true → Dp K H x d.toP
  | .non, _, .non, _ => .non
  | .bl _, _, .bl _, _ => .bl _
  | .int _, _, .int _, _ => .int _
  | .str _, _, .str _, _ => .str _
  | .lst xs, _, .lst h _ r, p => .lst (SqL.of h) (RDs.dp xs _ r p)
  | .tup xs, _, .tup h r, p => .tup (SqT.of h) (RDs.dp xs _ r p)
  | .dic _ _, _, _, p => nomatch p
  | .dit _ _, _, _, p => nomatch p
  | .ref _, _, _, p => nomatch p
  | .scr _, _, _, p => nomatch p
theorem RDs.dp : ∀ (ds : List D) (xs : List V), RDs K g H ds xs → D.pls ds = true → DpAll K H xs (D.toPs ds)
  | [], _, .nil, _ => .nil
  | x :: xs, _, .cons h t, p => by
    have p' : (D.pl x && D.pls xs) = true := p
    rw [Bool.and_eq_true] at p'
    exact .cons (RD.dp x _ h p'.1) (RDs.dp xs _ t p'.2)
end
theorem Vw.dp {d : D} {x : V} (h : Vw K g H x d) (p : d.pl = true) : Dp K H x d.toP := by
  cases d with
  | lst xs => obtain ⟨a, vs, rfl, h1, h2⟩ := h; exact .lst (SqL.of h1) (RDs.dp xs vs h2 p)
  | dic ks xs => cases p
  | dit ks xs => cases p
  | tup xs => exact RD.dp _ _ h p
  | non => exact RD.dp _ _ h p
  | bl b => exact RD.dp _ _ h p
  | int b => exact RD.dp _ _ h p
  | str b => exact RD.dp _ _ h p
  | ref n => cases p
  | scr xs => cases p
end
end Eng
end

section
/-! The engine, part E: operators, comparisons, subscripts, built-ins, by values. -/
namespace Eng
open PySem PySem.Spec PyProof.Rows L2

section
variable {X : Cx} {W : WX} {g : Gh} {fr : Frame} {S : Store} {H : Hp} {σ σ' : L2.St} {Q : VK}
/-- a frozen value that stands already -/
theorem fin_old {d : D} {x : V} (h : Aft X.K X.mg W (rV X.K X.mg) g H σ (.ok (.fz d) fr S) Q) (rel : Rel X.K X.mg g fr S σ H) (r : RD X.K g H d x) : Q x H := h g H x Keep.refl rel ⟨rfl, r⟩
theorem fin_tup {xs : List D} {vs : List V} {p : Addr} (h : Aft X.K X.mg W (rV X.K X.mg) g H σ (.ok (.fz (.tup xs)) fr S) Q) (rel : Rel X.K X.mg g fr S σ H) (r : RDs X.K g H xs vs) (hp : H p = none) : Q (.ref p) (upd H p (.tup vs)) :=
  h g _ _ (Grows.fresh hp).keep (rel.grows (Grows.fresh hp)) ⟨rfl, .tup upd_same (r.mono (Grows.fresh hp).mono)⟩
theorem fin_lst {xs : List D} {vs : List V} {p : Addr} (h : Aft X.K X.mg W (rV X.K X.mg) g H σ (.ok (.own (.lst xs)) fr S) Q) (rel : Rel X.K X.mg g fr S σ H) (r : RDs X.K g H xs vs) (hp : H p = none) : Q (.ref p) (upd H p (.lst vs)) :=
  h (g.push p) _ _ (keep_push hp) (rel.push hp) ⟨p, rfl, rfl, fun z => rel.st.fresh hp (.inr (.inr z)), vs, upd_same, r.mono (mono_push hp)⟩
end

def BK.op : BK → Operator
  | .add => .Add | .sub => .Sub | .mul => .Mult | .fdiv => .FloorDiv | .mod => .Mod | .pow => .Pow
def CK.op : CK → CmpOp
  | .eq => .Eq | .ne => .NotEq | .lt => .Lt | .le => .LtE | .gt => .Gt | .ge => .GtE | .inn => .In | .nin => .NotIn | .isN => .Is | .isnN => .IsNot

def rBin (X : Cx) (W : WX) (k : BK) : R2 := fun x y H Q => ∃ g fr S σ a b, Rel X.K X.mg g fr S σ H ∧ Vw X.K g H x a ∧ Vw X.K g H y b ∧ Aft X.K X.mg W (rV X.K X.mg) g H σ (RX.lift (binD k a b) fr S) Q
def rCmp (X : Cx) (W : WX) (k : CK) : R2 := fun x y H Q => ∃ g fr S σ a b, Rel X.K X.mg g fr S σ H ∧ Vw X.K g H x a ∧ Vw X.K g H y b ∧
  Aft X.K X.mg W (rV X.K X.mg) g H σ (RX.lift ((cmpD k a b).map fun r => Val.fz (.bl r)) fr S) Q

section
variable {X : Cx} {W : WX}
theorem op_bin (k : BK) : OpR X (binaryOp k.op) (rBin X W k) := by
  intro pins s σ H x y v u Q I rx ry ⟨g, fr, S, σ', a, b, rel, va, vb, h⟩
  cases k with
  | add =>
    cases a <;> cases b <;> first | exact False.elim h | skip
    · obtain rfl := RD.of_int va; obtain rfl := RD.of_int vb
      exact op_add pins s σ H _ _ v u Q I rx ry ⟨_, _, rfl, rfl, fin_old h rel (.int _)⟩
    · obtain rfl := RD.of_str va; obtain rfl := RD.of_str vb
      rename_i i j
      have h' : Aft X.K X.mg W (rV X.K X.mg) g H σ' (RX.lift (if i.length + j.length ≤ sizeLine then some (Val.fz (.str (i ++ j))) else none) fr S) Q := h
      by_cases hc : i.length + j.length ≤ sizeLine
      · rw [if_pos hc] at h'
        exact op_add_str pins s σ H _ _ v u Q I rx ry ⟨_, _, rfl, rfl, hc, fin_old h' rel (.str _)⟩
      · rw [if_neg hc] at h'; exact False.elim h'
    · rename_i xs ys
      obtain ⟨a1, vs, rfl, h1, h2⟩ := va
      obtain ⟨b1, ws, rfl, h3, h4⟩ := vb
      have h' : Aft X.K X.mg W (rV X.K X.mg) g H σ' (RX.lift (if xs.length + ys.length ≤ sizeLine then some (Val.own (.lst (xs ++ ys))) else none) fr S) Q := h
      by_cases hc : xs.length + ys.length ≤ sizeLine
      · rw [if_pos hc] at h'
        exact op_cat pins s σ H _ _ v u Q I rx ry ⟨_, _, _, _, rfl, rfl, h1, h3, by rw [← h2.length, ← h4.length]; exact hc, fun p hp => fin_lst h' rel (h2.append h4) hp⟩
      · rw [if_neg hc] at h'; exact False.elim h'
    · rename_i xs ys
      obtain ⟨a1, vs, rfl, h1, h2⟩ := RD.of_tupX va
      obtain ⟨b1, ws, rfl, h3, h4⟩ := RD.of_tupX vb
      have h' : Aft X.K X.mg W (rV X.K X.mg) g H σ' (RX.lift (if xs.length + ys.length ≤ sizeLine then some (Val.fz (.tup (xs ++ ys))) else none) fr S) Q := h
      by_cases hc : xs.length + ys.length ≤ sizeLine
      · rw [if_pos hc] at h'
        refine op_catA pins s σ H _ _ v u Q I rx ry ⟨_, _, _, _, rfl, rfl, SqT.of h1, SqT.of h3, by rw [← h2.length, ← h4.length]; exact hc, fun e => ?_, fun _ e => ?_, fun _ _ p hp => fin_tup h' rel (h2.append h4) hp⟩
        · subst e
          cases h2
          exact fin_old h' rel (.tup h3 h4)
        · subst e
          cases h4
          rw [List.append_nil] at h'
          exact fin_old h' rel (.tup h1 h2)
      · rw [if_neg hc] at h'; exact False.elim h'
  | sub =>
    cases a <;> cases b <;> first | exact False.elim h | skip
    obtain rfl := RD.of_int va; obtain rfl := RD.of_int vb
    exact op_sub pins s σ H _ _ v u Q I rx ry ⟨_, _, rfl, rfl, fin_old h rel (.int _)⟩
  | mul =>
    cases a <;> cases b <;> first | exact False.elim h | skip
    · obtain rfl := RD.of_int va; obtain rfl := RD.of_int vb
      rename_i i j
      have h' : Aft X.K X.mg W (rV X.K X.mg) g H σ' (RX.lift (if (-(2 ^ 64) < i ∧ i < 2 ^ 64) ∨ (-(2 ^ 64) < j ∧ j < 2 ^ 64) then some (Val.fz (.int (i * j))) else none) fr S) Q := h
      by_cases hc : (-(2 ^ 64) < i ∧ i < 2 ^ 64) ∨ (-(2 ^ 64) < j ∧ j < 2 ^ 64)
      · rw [if_pos hc] at h'
        exact op_mul pins s σ H _ _ v u Q I rx ry ⟨_, _, rfl, rfl, hc, fin_old h' rel (.int _)⟩
      · rw [if_neg hc] at h'; exact False.elim h'
    · rename_i xs k
      obtain ⟨a1, vs, rfl, h1, h2⟩ := va
      obtain rfl := RD.of_int vb
      have h' : Aft X.K X.mg W (rV X.K X.mg) g H σ' (RX.lift (if -(2 ^ 63) ≤ k ∧ k < 2 ^ 63 ∧ xs.length * k.toNat ≤ sizeLine then some (Val.own (.lst (List.replicate k.toNat xs).flatten)) else none) fr S) Q := h
      by_cases hc : -(2 ^ 63) ≤ k ∧ k < 2 ^ 63 ∧ xs.length * k.toNat ≤ sizeLine
      · rw [if_pos hc] at h'
        have rep : ∀ n : Nat, RDs X.K g H (List.replicate n xs).flatten (List.replicate n vs).flatten := fun n => by
          induction n with
          | zero => exact .nil
          | succ n ih => rw [List.replicate_succ, List.replicate_succ, List.flatten_cons, List.flatten_cons]; exact h2.append ih
        exact op_rep pins s σ H _ _ v u Q I rx ry ⟨_, _, _, rfl, rfl, h1, hc.1, hc.2.1, by rw [← h2.length]; exact hc.2.2, fun p hp => fin_lst h' rel (rep _) hp⟩
      · rw [if_neg hc] at h'; exact False.elim h'
  | fdiv =>
    cases a <;> cases b <;> first | exact False.elim h | skip
    obtain rfl := RD.of_int va; obtain rfl := RD.of_int vb
    rename_i i j
    have h' : Aft X.K X.mg W (rV X.K X.mg) g H σ' (RX.lift (if 0 < j ∧ j < 1073741824 then some (Val.fz (.int (i / j))) else none) fr S) Q := h
    by_cases hc : 0 < j ∧ j < 1073741824
    · rw [if_pos hc] at h'
      exact op_fdiv pins s σ H _ _ v u Q I rx ry ⟨_, _, rfl, rfl, hc, fin_old h' rel (.int _)⟩
    · rw [if_neg hc] at h'; exact False.elim h'
  | mod =>
    cases a <;> cases b <;> first | exact False.elim h | skip
    obtain rfl := RD.of_int va; obtain rfl := RD.of_int vb
    rename_i i j
    have h' : Aft X.K X.mg W (rV X.K X.mg) g H σ' (RX.lift (if 0 < j then some (Val.fz (.int (i % j))) else none) fr S) Q := h
    by_cases hc : 0 < j
    · rw [if_pos hc] at h'
      exact op_mod pins s σ H _ _ v u Q I rx ry ⟨_, _, rfl, rfl, hc, fin_old h' rel (.int _)⟩
    · rw [if_neg hc] at h'; exact False.elim h'
  | pow =>
    cases a <;> cases b <;> first | exact False.elim h | skip
    obtain rfl := RD.of_int va; obtain rfl := RD.of_int vb
    rename_i i j
    have h' : Aft X.K X.mg W (rV X.K X.mg) g H σ' (RX.lift (if 0 ≤ j ∧ j ≤ 1000000 ∧ i.natAbs < 2 ^ 64 then some (Val.fz (.int (i ^ j.toNat))) else none) fr S) Q := h
    by_cases hc : 0 ≤ j ∧ j ≤ 1000000 ∧ i.natAbs < 2 ^ 64
    · rw [if_pos hc] at h'
      exact op_pow pins s σ H _ _ v u Q I rx ry ⟨_, _, rfl, rfl, hc, fin_old h' rel (.int _)⟩
    · rw [if_neg hc] at h'; exact False.elim h'

/-! ### comparisons -/
theorem any_toPs {d : D} (hd : d.pl = true) : ∀ xs : List D, D.pls xs = true → ((D.toPs xs).any fun y => PyData.eqv y d.toP) = xs.any fun y => D.eqv y d
  | [], _ => rfl
  | x :: xs, h => by
    have h' : (D.pl x && D.pls xs) = true := h
    rw [Bool.and_eq_true] at h'
    show (PyData.eqv x.toP d.toP || (D.toPs xs).any _) = (D.eqv x d || xs.any _)
    rw [toP_eqv x d h'.1 hd, any_toPs hd xs h'.2]
theorem kV_int {i : Int} : kV (.inl i) = .int i := rfl
section
variable {K : PySem.W.Frag} {g : Gh} {H : Hp}
theorem toKey_rel {d : D} {x : V} {k : Key} (r : RD K g H d x) (e : toKey d = some k) : x = kV k := by
  cases d <;> first | cases e | skip
  · exact RD.of_int r
  · exact RD.of_str r
theorem toKeys_rel : ∀ {ds : List D} {vs : List V} {ks : List Key}, RDs K g H ds vs → toKeys ds = some ks → vs = ks.map kV
  | _, _, _, .nil, e => by cases e; rfl
  | d :: ds, v :: vs, ks, .cons h t, e => by
    have e' : ((toKey d).bind fun k => (toKeys ds).map (k :: ·)) = some ks := e
    cases q : toKey d with
    | none => rw [q] at e'; cases e'
    | some k =>
      rw [q] at e'
      cases q2 : toKeys ds with
      | none => rw [q2] at e'; cases e'
      | some js =>
        rw [q2] at e'
        cases e'
        rw [toKey_rel h q, toKeys_rel t q2]; rfl
theorem keyT_rel {d : D} {x : V} {ks : List Key} (r : RD K g H d x) (e : keyT d = some ks) : ∃ b, x = .ref b ∧ H b = some (.tup (ks.map kV)) := by
  cases d <;> first | cases e | skip
  obtain ⟨b, vs, rfl, h1, h2⟩ := RD.of_tupX r
  rw [toKeys_rel h2 e] at h1
  exact ⟨b, rfl, h1⟩
theorem toKey_atom {d : D} {k : Key} (e : toKey d = some k) : d.atom = true := by cases d <;> first | rfl | cases e
theorem keyT_atom {d : D} {k : List Key} (e : keyT d = some k) : d.atom = true := by cases d <;> first | rfl | cases e
theorem Vw.rd {d : D} {x : V} (h : Vw K g H x d) (e : d.atom = true) : RD K g H d x := by cases d <;> first | exact h | cases e
variable {κ : Type} [DecidableEq κ]
theorem findK_rel {k : κ} : ∀ {ks : List κ} {ds : List D} {vs : List V}, RDs K g H ds vs → (∀ d, findK ks ds k = some d → ∃ v, valV (ks.zip vs) k = some v ∧ RD K g H d v) ∧ (findK ks ds k = none → valV (ks.zip vs) k = none)
  | [], _, _, _ => ⟨(fun _ e => nomatch e), (fun _ => by rw [List.zip_nil_left]; rfl)⟩
  | _ :: _, _, _, .nil => ⟨(fun _ e => nomatch e), (fun _ => by rw [List.zip_nil_right]; rfl)⟩
  | j :: ks, d :: ds, v :: vs, .cons h t => by
    have ih := findK_rel (k := k) (ks := ks) t
    rw [List.zip_cons_cons]
    by_cases e : j = k
    · rw [valV_pos (p := (j, v)) e]
      refine ⟨fun d' q => ⟨v, rfl, ?_⟩, fun q => ?_⟩
      · have q' : (if j = k then some d else findK ks ds k) = some d' := q
        rw [if_pos e] at q'; cases q'; exact h
      · have q' : (if j = k then some d else findK ks ds k) = none := q
        rw [if_pos e] at q'; cases q'
    · rw [valV_neg (p := (j, v)) e]
      have q : findK (j :: ks) (d :: ds) k = findK ks ds k := if_neg e
      rw [q]; exact ih
theorem findK_some {k : κ} {ks : List κ} {ds : List D} {vs : List V} (r : RDs K g H ds vs) : (valV (ks.zip vs) k).isSome = (findK ks ds k).isSome := by
  cases e : findK ks ds k with
  | none => rw [(findK_rel r).2 e]; rfl
  | some d =>
    obtain ⟨v, h, _⟩ := (findK_rel r).1 d e
    rw [h]; rfl
/-- what a dict that is seen holds -/
def optR (K : PySem.W.Frag) (g : Gh) (H : Hp) : Option D → Option V → Prop
  | none, none => True
  | some d, some v => RD K g H d v
  | _, _ => False
theorem findK_opt {k : κ} {ks : List κ} {ds : List D} {vs : List V} (rd : RDs K g H ds vs) : optR K g H (findK ks ds k) (valV (ks.zip vs) k) := by
  cases e : findK ks ds k with
  | none => rw [(findK_rel rd).2 e]; trivial
  | some d =>
    obtain ⟨v, h, q⟩ := (findK_rel rd).1 d e
    rw [h]; exact q
theorem dget_rel {a d : D} {x y : V} {r : Option D} (va : Vw K g H x a) (vb : Vw K g H y d) (e : dgetD a d = some r) : ∃ p o, x = .ref p ∧ DGet H p y o ∧ optR K g H r o := by
  cases a with
  | dic ks xs =>
    obtain ⟨p, vs, rfl, h1, h2, h3⟩ := va
    have e' : ((toKey d).map fun k => findK ks xs k) = some r := e
    cases q : toKey d with
    | none => rw [q] at e'; cases e'
    | some k =>
      rw [q] at e'
      obtain rfl := toKey_rel (vb.rd (toKey_atom q)) q
      refine ⟨p, _, rfl, DGet.k h1, ?_⟩
      rw [← Option.some.inj e']
      exact findK_opt h3
  | dit ks xs =>
    obtain ⟨p, vs, rfl, h1, h2, h3⟩ := va
    have e' : ((keyT d).map fun k => findK ks xs k) = some r := e
    cases q : keyT d with
    | none => rw [q] at e'; cases e'
    | some k =>
      rw [q] at e'
      obtain ⟨b, rfl, hb⟩ := keyT_rel (vb.rd (keyT_atom q)) q
      refine ⟨p, _, rfl, DGet.t h1 hb, ?_⟩
      rw [← Option.some.inj e']
      exact findK_opt h3
  | _ => cases e
end
theorem Vw.none_iff {K : PySem.W.Frag} {g : Gh} {H : Hp} {x : V} {d : D} (h : Vw K g H x d) : decide (x = .non) = d.isNon := by
  cases d with
  | non => obtain rfl := RD.of_non h; rfl
  | bl b => obtain rfl := RD.of_bl h; rfl
  | int b => obtain rfl := RD.of_int h; rfl
  | str b => obtain rfl := RD.of_str h; rfl
  | lst xs => obtain ⟨a, vs, rfl, _⟩ := h; rfl
  | dic ks xs => obtain ⟨a, vs, rfl, _⟩ := h; rfl
  | dit ks xs => obtain ⟨a, vs, rfl, _⟩ := h; rfl
  | tup xs => obtain ⟨a, vs, rfl, _⟩ := RD.of_tup h; rfl
  | ref n => obtain ⟨a, rfl, _⟩ := RD.of_ref h; rfl
  | scr xs => obtain ⟨a, vs, rfl, _⟩ := RD.of_scr h; rfl
theorem op_cmp (hu : X.A.units + 66 < cLine) (k : CK) : OpR X (compareOp k.op) (rCmp X W k) := by
  intro pins s σ H x y v u Q I rx ry ⟨g, fr, S, σ', a, b, rel, va, vb, h⟩
  have fin : ∀ r, cmpD k a b = some r → Q (.bl r) H := fun r e => by
    rw [e] at h
    exact fin_old h rel (.bl r)
  have some_of : ∃ r, cmpD k a b = some r := by
    cases e : cmpD k a b with
    | none => rw [e] at h; exact False.elim h
    | some r => exact ⟨r, rfl⟩
  obtain ⟨r, er⟩ := some_of
  have q := fin r er
  have data : D.fit a b = true → ∃ as bs, Reads s.heap v a.toP as ∧ Reads s.heap u b.toP bs ∧ a.toP.plain = true ∧ b.toP.plain = true ∧ X.A.units + min a.toP.depth b.toP.depth < cLine ∧ PyData.eqv a.toP b.toP = D.eqv a b := fun e => by
    unfold D.fit at e
    rw [Bool.and_eq_true, Bool.and_eq_true, decide_eq_true_iff] at e
    obtain ⟨⟨e1, e2⟩, e3⟩ := e
    obtain ⟨as, ra⟩ := Dp.reads I _ _ _ (va.dp e1) rx
    obtain ⟨bs, rb⟩ := Dp.reads I _ _ _ (vb.dp e2) ry
    exact ⟨as, bs, ra, rb, toP_plain a e1, toP_plain b e2, by rw [toP_dep a e1, toP_dep b e2]; omega, toP_eqv a b e1 e2⟩
  have ord : ∀ p q, ordD p q a b = some r → (∃ i j, x = .int i ∧ y = .int j ∧ r = p i j) ∨ (r = q a b ∧ ∃ as bs, Reads s.heap v a.toP as ∧ Reads s.heap u b.toP bs ∧ PySem.W.alike a.toP b.toP = true ∧ a.toP ≠ .none ∧ X.A.units + min a.toP.depth b.toP.depth < cLine) := fun p q e => by
    have main : (if D.ordOk a b then some (q a b) else none) = some r → (∃ i j, x = .int i ∧ y = .int j ∧ r = p i j) ∨ (r = q a b ∧ ∃ as bs, Reads s.heap v a.toP as ∧ Reads s.heap u b.toP bs ∧ PySem.W.alike a.toP b.toP = true ∧ a.toP ≠ .none ∧ X.A.units + min a.toP.depth b.toP.depth < cLine) := fun e => by
      by_cases hf : D.ordOk a b = true
      · rw [if_pos hf] at e
        unfold D.ordOk at hf
        rw [Bool.and_eq_true, Bool.and_eq_true, Bool.and_eq_true, Bool.and_eq_true, decide_eq_true_iff] at hf
        obtain ⟨⟨⟨⟨e1, e2⟩, e3⟩, e4⟩, e5⟩ := hf
        obtain ⟨as, ra⟩ := Dp.reads I _ _ _ (va.dp e1) rx
        obtain ⟨bs, rb⟩ := Dp.reads I _ _ _ (vb.dp e2) ry
        refine .inr ⟨(Option.some.inj e).symm, as, bs, ra, rb, e3, ?_, by rw [toP_dep a e1, toP_dep b e2]; omega⟩
        cases a <;> first | (cases e4; done) | (cases e1; done) | (intro z; cases z)
      · rw [if_neg hf] at e; cases e
    cases a with
    | int i =>
      cases b with
      | int j =>
        obtain rfl := RD.of_int va; obtain rfl := RD.of_int vb
        exact .inl ⟨i, j, rfl, rfl, (Option.some.inj e).symm⟩
      | _ => exact main e
    | _ => exact main e
  have inn : ∀ r, inD a b = some r → ∀ (neg : Bool), Q (.bl (if neg then !r else r)) H → wpAny (model X.prog X.w) X.A (compareOp (if neg then .NotIn else .In) v u) (EP X pins σ Q) X.xe s := fun r e neg hq => by
    have main : ∀ (xs : List D) (c : D), (c = .lst xs ∨ c = .tup xs) → b = c → (if a.pl && D.pls xs && decide (min (D.deps xs) a.dep ≤ 64) then some (xs.any fun y => D.eqv y a) else none) = some r →
        wpAny (model X.prog X.w) X.A (compareOp (if neg then .NotIn else .In) v u) (EP X pins σ Q) X.xe s := fun xs c hc hb e => by
      by_cases ht : (a.pl && D.pls xs && decide (min (D.deps xs) a.dep ≤ 64)) = true
      · rw [if_pos ht] at e
        rw [Bool.and_eq_true, Bool.and_eq_true, decide_eq_true_iff] at ht
        obtain ⟨⟨e1, e2⟩, e3⟩ := ht
        cases e
        obtain ⟨as, ra⟩ := Dp.reads I _ _ _ (va.dp e1) rx
        have pb : b.pl = true := by rw [hb]; rcases hc with rfl | rfl <;> exact e2
        obtain ⟨bs, rb⟩ := Dp.reads I _ _ _ (vb.dp pb) ry
        have hu' : X.A.units + 1 + min (PyData.depthAll (D.toPs xs)) a.toP.depth < cLine := by rw [toP_dep a e1, toPs_dep xs e2]; omega
        rw [← any_toPs e1 xs e2] at hq
        have hq : EP X pins σ Q (.bool (if neg then !((D.toPs xs).any fun y => PyData.eqv y a.toP) else ((D.toPs xs).any fun y => PyData.eqv y a.toP))) s := ⟨.bl _, H, I, rfl, hq⟩
        rcases hc with rfl | rfl
        · subst hb
          cases neg
          · exact SeqAt.in_list_data rb ra (toPs_plain xs e2) (toP_plain a e1) hu' hq
          · exact SeqAt.notIn_list_data rb ra (toPs_plain xs e2) (toP_plain a e1) hu' hq
        · subst hb
          cases neg
          · exact SeqAt.in_tuple_data rb ra (toPs_plain xs e2) (toP_plain a e1) hu' hq
          · exact SeqAt.notIn_tuple_data rb ra (toPs_plain xs e2) (toP_plain a e1) hu' hq
      · rw [if_neg ht] at e; cases e
    have dict : ∀ p o, y = .ref p → DGet H p x o → o.isSome = r → wpAny (model X.prog X.w) X.A (compareOp (if neg then .NotIn else .In) v u) (EP X pins σ Q) X.xe s := fun p o ey g eo => by
      subst ey
      obtain rfl : u = Value.ref p := ry
      rw [← eo] at hq
      cases neg
      · exact d_in (by omega) I g rx fun s3 I3 => ⟨.bl _, H, I3, rfl, hq⟩
      · exact d_notIn (by omega) I g rx fun s3 I3 => ⟨.bl _, H, I3, rfl, hq⟩
    cases b with
    | lst xs => exact main xs _ (.inl rfl) rfl e
    | tup xs => exact main xs _ (.inr rfl) rfl e
    | dic ks xs =>
      have e' : ((toKey a).map fun k => (findK ks xs k).isSome) = some r := e
      cases q : toKey a with
      | none => rw [q] at e'; cases e'
      | some k =>
        rw [q] at e'
        obtain ⟨p, vs, rfl, h1, h2, h3⟩ := vb
        obtain rfl := toKey_rel (va.rd (toKey_atom q)) q
        exact dict p _ rfl (DGet.k h1) ((findK_some h3).trans (Option.some.inj e'))
    | dit ks xs =>
      have e' : ((keyT a).map fun k => (findK ks xs k).isSome) = some r := e
      cases q : keyT a with
      | none => rw [q] at e'; cases e'
      | some k =>
        rw [q] at e'
        obtain ⟨p, vs, rfl, h1, h2, h3⟩ := vb
        obtain ⟨b1, rfl, hb⟩ := keyT_rel (va.rd (keyT_atom q)) q
        exact dict p _ rfl (DGet.t h1 hb) ((findK_some h3).trans (Option.some.inj e'))
    | str z =>
      cases a with
      | str x1 =>
        obtain rfl := RD.of_str va; obtain rfl := RD.of_str vb
        have e' : (match x1.cps.toList with | [c] => some (decide (c ∈ z.cps.toList)) | _ => none) = some r := e
        cases q : x1.cps.toList with
        | nil => rw [q] at e'; cases e'
        | cons c l =>
          cases l with
          | cons _ _ => rw [q] at e'; cases e'
          | nil =>
            rw [q] at e'
            cases e'
            have ex : x1 = ⟨#[c]⟩ := by
              cases x1 with
              | mk arr => congr 1; exact Array.toList_inj.mp q
            cases neg
            · exact op_in_sign pins s σ H _ _ v u Q I rx ry ⟨c, z, by rw [ex], rfl, hq⟩
            · exact op_notIn_sign pins s σ H _ _ v u Q I rx ry ⟨c, z, by rw [ex], rfl, hq⟩
      | _ => cases e
    | _ => cases e
  cases k with
  | eq =>
    have e : (if D.fit a b then some (D.eqv a b) else none) = some r := er
    by_cases hf : D.fit a b = true
    · rw [if_pos hf] at e
      cases e
      obtain ⟨as, bs, ra, rb, pa, pb, hd, he⟩ := data hf
      rw [← he] at q
      exact SeqAt.eq_plain ra rb pa pb hd ⟨.bl _, H, I, rfl, q⟩
    · rw [if_neg hf] at e; cases e
  | ne =>
    have e : (if D.fit a b then some (!D.eqv a b) else none) = some r := er
    by_cases hf : D.fit a b = true
    · rw [if_pos hf] at e
      cases e
      obtain ⟨as, bs, ra, rb, pa, pb, hd, he⟩ := data hf
      rw [← he] at q
      exact SeqAt.ne_plain ra rb pa pb hd ⟨.bl _, H, I, rfl, q⟩
    · rw [if_neg hf] at e; cases e
  | lt =>
    rcases ord _ _ er with ⟨i, j, rfl, rfl, rfl⟩ | ⟨rfl, as, bs, ra, rb, al, nn, hd⟩
    · exact op_lt pins s σ H _ _ v u Q I rx ry ⟨_, _, rfl, rfl, q⟩
    · exact PySem.W.lt_data ra rb al nn hd ⟨.bl _, H, I, rfl, q⟩
  | le =>
    rcases ord _ _ er with ⟨i, j, rfl, rfl, rfl⟩ | ⟨rfl, as, bs, ra, rb, al, nn, hd⟩
    · exact op_le pins s σ H _ _ v u Q I rx ry ⟨_, _, rfl, rfl, q⟩
    · exact PySem.W.le_data ra rb al nn hd ⟨.bl _, H, I, rfl, q⟩
  | gt =>
    rcases ord _ _ er with ⟨i, j, rfl, rfl, rfl⟩ | ⟨rfl, as, bs, ra, rb, al, nn, hd⟩
    · exact op_gt pins s σ H _ _ v u Q I rx ry ⟨_, _, rfl, rfl, q⟩
    · exact PySem.W.gt_data ra rb al nn hd ⟨.bl _, H, I, rfl, q⟩
  | ge =>
    rcases ord _ _ er with ⟨i, j, rfl, rfl, rfl⟩ | ⟨rfl, as, bs, ra, rb, al, nn, hd⟩
    · exact op_ge pins s σ H _ _ v u Q I rx ry ⟨_, _, rfl, rfl, q⟩
    · exact PySem.W.ge_data ra rb al nn hd ⟨.bl _, H, I, rfl, q⟩
  | inn => exact inn r er false q
  | nin =>
    have e : (inD a b).map (!·) = some r := er
    cases ei : inD a b with
    | none => rw [ei] at e; cases e
    | some t =>
      rw [ei] at e
      cases e
      exact inn t ei true q
  | isN =>
    have hb : b = .non := by
      cases b <;> first | rfl | cases er
    subst hb
    obtain rfl := RD.of_non vb
    have hr : a.isNon = r := Option.some.inj er
    refine op_isN pins s σ H _ _ v u Q I rx ry ⟨rfl, ?_⟩
    rw [va.none_iff, hr]; exact q
  | isnN =>
    have hb : b = .non := by
      cases b <;> first | rfl | cases er
    subst hb
    obtain rfl := RD.of_non vb
    have hr : (!a.isNon) = r := Option.some.inj er
    refine op_notN pins s σ H _ _ v u Q I rx ry ⟨rfl, ?_⟩
    rw [va.none_iff, hr]; exact q
end
end Eng
end

section
/-! The engine, part Z: sorted of data, of a dict's keys. -/
namespace Eng
open PySem PySem.Spec PyProof.Rows L2
section
variable {K : PySem.W.Frag} {g : Gh} {H : Hp}
/-- what a value of the heap stands for -/
def RVD (K : PySem.W.Frag) (g : Gh) (H : Hp) (v : Value) (d : D) : Prop := ∃ x, RelV x v ∧ RD K g H d x
theorem each_of : ∀ {ys : List D} {vs : List V} {us : List Value}, RDs K g H ys vs → Vals vs us → PySem.W.EachIs (RVD K g H) us ys
  | _, _, _, .nil, h => by cases h; exact .nil
  | _, _, _, .cons h t, r => by
    cases r with
    | cons r1 r2 => exact .cons ⟨_, r1, h⟩ (each_of t r2)
theorem of_each : ∀ {us : List Value} {ys : List D}, PySem.W.EachIs (RVD K g H) us ys → ∃ vs, Vals vs us ∧ RDs K g H ys vs
  | _, _, .nil => ⟨[], .nil, .nil⟩
  | _, _, .cons ⟨x, r, h⟩ t => by
    obtain ⟨vs, r2, h2⟩ := of_each t
    exact ⟨x :: vs, .cons r r2, .cons h h2⟩
theorem each_len {α β : Type} {R : α → β → Prop} : ∀ {as : List α} {bs : List β}, PySem.W.EachIs R as bs → as.length = bs.length
  | _, _, .nil => rfl
  | _, _, .cons _ t => by rw [List.length_cons, List.length_cons, each_len t]
theorem leD_data : PySem.W.dataLe false D.toP = leD := by
  rw [PySem.W.dataLe_eq]; rfl
theorem pls_all : ∀ {xs : List D}, D.pls xs = true → ∀ x ∈ xs, D.pl x = true
  | y :: ys, h, x, hx => by
    have h' : (D.pl y && D.pls ys) = true := h
    rw [Bool.and_eq_true] at h'
    rcases List.mem_cons.mp hx with rfl | hx
    · exact h'.1
    · exact pls_all h'.2 x hx
theorem deps_mem : ∀ {xs : List D} {x : D}, x ∈ xs → x.dep ≤ D.deps xs
  | y :: ys, x, hx => by
    show x.dep ≤ max (D.dep y) (D.deps ys)
    rcases List.mem_cons.mp hx with rfl | hx
    · exact Nat.le_max_left _ _
    · exact Nat.le_trans (deps_mem hx) (Nat.le_max_right _ _)
theorem srtOk_of {ys : List D} (h : srtOk ys = true) : D.pls ys = true ∧ D.deps ys ≤ 60 ∧ PySem.W.AllAlike (ys.map D.toP) ∧ PySem.W.Sortable (ys.map D.toP) ∧ ys.length ≤ sizeLine := by
  unfold srtOk alkD at h
  rw [Bool.and_eq_true, Bool.and_eq_true, Bool.and_eq_true, Bool.and_eq_true, Bool.or_eq_true] at h
  obtain ⟨⟨⟨⟨h1, h2⟩, h3⟩, h4⟩, h5⟩ := h
  have h2 := of_decide_eq_true h2
  rw [List.all_eq_true] at h3
  refine ⟨h1, h2, fun d hd d' hd' => ?_, ?_, of_decide_eq_true h5⟩
  · obtain ⟨a, ha, rfl⟩ := List.mem_map.mp hd
    obtain ⟨b, hb, rfl⟩ := List.mem_map.mp hd'
    have := h3 a ha
    rw [Bool.and_eq_true, List.all_eq_true] at this
    exact this.2 b hb
  · rcases h4 with h4 | h4
    · refine .inl fun d hd => ?_
      obtain ⟨a, ha, rfl⟩ := List.mem_map.mp hd
      have := List.all_eq_true.mp h4 a ha
      cases a with
      | tup zs => cases zs with
        | nil => cases this
        | cons z zs => exact ⟨D.toP z, D.toPs zs, rfl⟩
      | _ => cases this
    · refine .inr fun d hd => ?_
      obtain ⟨a, ha, rfl⟩ := List.mem_map.mp hd
      have := List.all_eq_true.mp h4 a ha
      have np := h3 a ha
      rw [Bool.and_eq_true, Bool.not_eq_true'] at np
      have hp := pls_all h1 a ha
      cases a <;> first | (cases this; done) | (cases hp; done) | (exact absurd np.1 (by decide)) | exact ⟨nofun, nofun⟩
end
section
variable {X : Cx}
theorem reads_each {pins : List (Addr × Obj)} {σ : L2.St} {H : Hp} {s : Shared} {g : Gh} (I : Inv X pins σ H s) : ∀ {us : List Value} {ys : List D}, PySem.W.EachIs (RVD X.K g H) us ys → D.pls ys = true → PySem.W.EachIs (fun v b => ∃ as, Reads s.heap v (D.toP b) as) us ys
  | _, _, .nil, _ => .nil
  | _, y :: ys, .cons ⟨x, r, h⟩ t, p => by
    have p' : (D.pl y && D.pls ys) = true := p
    rw [Bool.and_eq_true] at p'
    exact .cons (Dp.reads I _ _ _ (RD.dp y x h p'.1) r) (reads_each I t p'.2)
/-- sorted(x), x a list of data -/
def rSortD (X : Cx) : List V → Hp → VK → Prop := fun xs H Q => ∃ (g : Gh) (a : Addr) (ys : List D) (vs : List V), xs = [.ref a] ∧ SqL X.K H a vs ∧ RDs X.K g H ys vs ∧ srtOk ys = true ∧ ∀ p ws, H p = none → RDs X.K g H (srtD ys) ws → Q (.ref p) (upd H p (.lst ws))
theorem cr_sortD (hu : X.A.units + 100 < cLine) : CallR X (.builtin "sorted") (rSortD X) := by
  intro pins s σ H xs us Q I r ⟨g, a, ys, vs, ex, hs, hy, ok, q⟩
  subst ex
  obtain ⟨u, rfl, ru⟩ := vals1 r
  obtain rfl : u = Value.ref a := ru
  obtain ⟨its, rv, hl, hz⟩ := I.list hs
  obtain ⟨o1, o2, o3, o4, o5⟩ := srtOk_of ok
  have e := each_of hy rv
  refine PySem.W.sorted_data (R := RVD X.K g H) (enc := D.toP) hl.isList e (reads_each I e o1) o3 o4 o5 (fun b hb => ?_) fun out ho eo => ?_
  · rw [toP_dep b (pls_all o1 b hb)]
    have := deps_mem hb
    omega
  · rw [leD_data] at eo
    obtain ⟨ws, rw', hw⟩ := of_each eo
    obtain ⟨n, hn⟩ := sortedAll_at s.heap its out.toArray
    have hz2 : ws.length ≤ sizeLine := by rw [← hw.length, List.length_mergeSort]; exact o5
    exact ⟨.ref _, _, I.laid (t' := s.toks) (o := .lst ws) (fun _ _ h => sortedAll_old h) (Nat.le_succ _) ⟨hz2, out, n, rw', hn⟩, rfl, q _ ws (I.hok.fresh (Nat.le_succ _)) hw⟩
/-- sorted(d), d a dict with tuples for keys -/
def rSortT (X : Cx) : List V → Hp → VK → Prop := fun xs H Q => ∃ (a : Addr) (kvs : List (List Key × V)), xs = [.ref a] ∧ H a = some (.dT kvs) ∧ srtOk (kvs.map fun k => D.tup (k.1.map keyD)) = true ∧
  ∀ g p ws, H p = none → RDs X.K g H (srtD (kvs.map fun k => D.tup (k.1.map keyD))) ws → Q (.ref p) (upd H p (.lst ws))
theorem key_rd {K : PySem.W.Frag} {g : Gh} {H : Hp} (k : Key) : RD K g H (keyD k) (kV k) := by
  cases k with
  | inl i => exact .int i
  | inr x => exact .str x
theorem keys_rd {K : PySem.W.Frag} {g : Gh} {H : Hp} : ∀ ks : List Key, RDs K g H (ks.map keyD) (ks.map kV)
  | [] => .nil
  | k :: ks => .cons (key_rd k) (keys_rd ks)
theorem isKeys_rd {K : PySem.W.Frag} {g : Gh} {H : Hp} : ∀ {kvs : List (List Key × V)} {bs : List Addr}, IsKeys H kvs bs → RDs K g H (kvs.map fun k => D.tup (k.1.map keyD)) (bs.map V.ref)
  | _, _, .nil => .nil
  | _, _, .cons h t => .cons (.tup h (keys_rd _)) (isKeys_rd t)
mutual
theorem reads_there {h : Heap} : ∀ (d : PyData) (v : Value) (as : List Addr), d.plain = true → Reads h v d as → ∀ a ∈ as, ∃ o, h.get? a = some o
  | .none, _, _, _, r, a, ha => by cases r; cases ha
  | .bool _, _, _, _, r, a, ha => by cases r; cases ha
  | .int _, _, _, _, r, a, ha => by cases r; cases ha
  | .str _, _, _, _, r, a, ha => by cases r; cases ha
  | .list xs, _, _, p, r, a, ha => by
    cases r with
    | list h1 h2 h3 h4 =>
      rcases List.mem_cons.mp ha with rfl | ha
      · exact ⟨_, h1⟩
      · exact readsAll_there xs _ _ p h4 a ha
  | .tuple xs, _, _, p, r, a, ha => by
    cases r with
    | tuple h1 h2 h3 h4 => exact readsAll_there xs _ _ p h4 a ha
  | .dict _, _, _, p, _, _, _ => nomatch p
theorem readsAll_there {h : Heap} : ∀ (ds : List PyData) (vs : List Value) (as : List Addr), PyData.plainAll ds = true → ReadsAll h vs ds as → ∀ a ∈ as, ∃ o, h.get? a = some o
  | [], _, _, _, r, a, ha => by cases r; cases ha
  | d :: ds, _, _, p, r, a, ha => by
    have p' : (PyData.plain d && PyData.plainAll ds) = true := p
    rw [Bool.and_eq_true] at p'
    cases r with
    | cons h1 h2 =>
      rcases List.mem_append.mp ha with ha | ha
      · exact reads_there d _ _ p'.1 h1 a ha
      · exact readsAll_there ds _ _ p'.2 h2 a ha
end
theorem each_but {h h' : Heap} (hk : ∀ b u, h.get? b = some u → h'.get? b = some u) : ∀ {us : List Value} {ys : List D}, PySem.W.EachIs (fun v b => ∃ as, Reads h v (D.toP b) as) us ys → D.pls ys = true → PySem.W.EachIs (fun v b => ∃ as, Reads h' v (D.toP b) as ∧ h.objs.size ∉ as) us ys
  | _, _, .nil, _ => .nil
  | _, y :: ys, .cons ⟨as, r⟩ t, p => by
    have p' : (D.pl y && D.pls ys) = true := p
    rw [Bool.and_eq_true] at p'
    refine .cons ⟨as, PyProof.Rows.Reads.keeps hk r, fun z => ?_⟩ (each_but hk t p'.2)
    obtain ⟨o, e⟩ := reads_there _ _ _ (toP_plain y p'.1) r _ z
    exact Nat.lt_irrefl _ (Heap.lt_size e)
/-- the addresses of a dict's keys, in order -/
theorem keys_acc {prog : Program} {w : World} {ks : List (List Key × Addr × Value)} {es : Array DictEntry} {acc : Array Value} (he : es.toList = ks.map (entryOfKey (tupleKind (mixKind prog w)))) (it : ItemsOf (fun i v => ∃ en : DictEntry, es[i]? = some en ∧ v = en.key) acc es.size) :
    acc.toList = (ks.map fun x => x.2.1).map Value.ref := by
  have l1 : es.size = ks.length := by rw [← Array.length_toList, he, List.length_map]
  rw [List.map_map]
  apply List.ext_getElem?
  intro j
  rw [List.getElem?_map]
  cases hj : acc.toList[j]? with
  | none =>
    have h1 := List.getElem?_eq_none_iff.mp hj
    rw [Array.length_toList, it.1] at h1
    rw [List.getElem?_eq_none (by omega)]; rfl
  | some v =>
    obtain ⟨en, hen, hv⟩ := it.2 j v (by rw [← Array.getElem?_toList]; exact hj)
    have qe : es.toList[j]? = (ks.map (entryOfKey (tupleKind (mixKind prog w))))[j]? := by rw [he]
    rw [Array.getElem?_toList, hen, List.getElem?_map] at qe
    cases hb : ks[j]? with
    | none => rw [hb] at qe; cases qe
    | some b =>
      rw [hb] at qe
      have e2 : en = entryOfKey (tupleKind (mixKind prog w)) b := Option.some.inj qe
      rw [hv, e2]; rfl
theorem cr_sortT (hc : X.calm = true) (hu : X.A.units + 100 < cLine) : CallR X (.builtin "sorted") (rSortT X) := by
  intro pins s σ H xs us Q I r ⟨a, kvs, ex, hd, ok, q⟩
  subst ex
  obtain ⟨u, rfl, ru⟩ := vals1 r
  obtain rfl : u = Value.ref a := ru
  obtain ⟨z, lo, ks, pr, o, es, ep, ho, hx, hdt, he, hn⟩ := (show ObjOk X.prog X.w H s.heap a (.dT kvs) from I.hok a _ hd)
  obtain ⟨o1, o2, o3, o4, o5⟩ := srtOk_of ok
  have l1 : es.size = ks.length := by rw [← Array.length_toList, he, List.length_map]
  have l2 : kvs.length = ks.length := Paired.length pr
  have l3 : es.size ≤ sizeLine := by rw [l1, ← l2]; rw [List.length_map] at o5; exact o5
  refine Calls.call_function_entry kind_sorted plain_sorted entry_sorted (args_sorted1 _) ?_
  unfold Builtin.«sorted»
  refine wpAny_bind (m := checkCount "sorted" 1 1 _) (wpAny_pure ?_)
  refine wpAny_bind (PySem.W.kdu_collect (A := X.A.in1) (kdl_raw lo hx hdt) (I.ok.hd hc) ho l3 fun h1 tk acc kp it => ?_)
  have ea := keys_acc (prog := X.prog) (w := X.w) he it
  have J : Inv X pins σ H { s with heap := h1, toks := tk } := I.kept kp
  have rd : RDs X.K (⟨[], [], []⟩ : Gh) H (kvs.map fun k => D.tup (k.1.map keyD)) ((ks.map fun x => x.2.1).map V.ref) := isKeys_rd (isKeys_of pr)
  have rv : Vals ((ks.map fun x => x.2.1).map V.ref) acc.toList := by rw [ea]; exact vals_refs _
  have e := each_of rd rv
  refine wpAny_bind (wpAny_newList ?_ (by rw [ea, List.length_map, List.length_map, ← l1]; exact l3))
  have hL : (h1.push (seqObj "list" acc.toList.toArray 0)).get? h1.objs.size = some (seqObj "list" acc.toList.toArray 0) := Heap.get?_push_size _ rfl
  show wpAny _ _ _ _ _ { s with heap := h1.push (seqObj "list" acc.toList.toArray 0), toks := tk }
  have er := reads_each J e o1
  have old : ∀ b u, h1.get? b = some u → (h1.push (seqObj "list" acc.toList.toArray 0)).get? b = some u := fun b u e => Heap.get?_push_of_some _ e
  refine wpAny_bind (wpAny_holding (PySem.W.list_sort_data (s := { s with heap := h1.push (seqObj "list" acc.toList.toArray 0), toks := tk }) (R := RVD X.K (⟨[], [], []⟩ : Gh) H) (enc := D.toP) hL e (each_but old er o1) o3 o4 o5 (fun b hb => ?_) fun out ho eo => ?_))
  · rw [toP_dep b (pls_all o1 b hb)]
    have := deps_mem hb
    have hin : X.A.in1.units ≤ X.A.units + 1 := Nat.le_refl _
    omega
  · rw [leD_data] at eo
    obtain ⟨ws, rw', hw⟩ := of_each eo
    obtain ⟨n, hn2⟩ := sortedHeap_at (vs := acc.toList) (out := out.toArray) hL
    have hz2 : ws.length ≤ sizeLine := by rw [← hw.length, List.length_mergeSort]; exact o5
    refine wpAny_pure ⟨_, rfl, .ref h1.objs.size, _, J.laid (t' := tk) (o := .lst ws) (fun b u e => ?_) (Nat.le_refl _) ⟨hz2, out, n, rw', hn2⟩, rfl, q _ _ ws (J.hok.fresh (Nat.le_refl _)) hw⟩
    have hb : b < h1.objs.size := Heap.lt_size e
    rw [sortedHeap_old (Nat.ne_of_lt hb) (by rw [size_push']; exact Nat.lt_succ_of_lt hb)]
    exact old b u e
end
end Eng
end

section
/-! The engine, part F: subscripts, slices, truth, built-ins, isinstance, by values. -/
namespace Eng
open PySem PySem.Spec PyProof.Rows L2
section
variable {X : Cx} {W : WX}

theorem atI_rel {K : PySem.W.Frag} {g : Gh} {H : Hp} {ds : List D} {vs : List V} {i : Int} {d : D} (r : RDs K g H ds vs) (e : atI ds i = some d) : ∃ v, atI vs i = some v ∧ RD K g H d v := by
  unfold atI at e ⊢
  rw [← r.length]
  cases h : ixN ds.length i with
  | none => rw [h] at e; cases e
  | some j =>
    rw [h] at e
    exact r.get e
/-- d[k], d a dict -/
def rIxD : R2 := fun x y H Q => ∃ a v, x = .ref a ∧ DGet H a y (some v) ∧ Q v H
theorem ix_dict (hu : X.A.units + 66 < cLine) : IxR X rIxD := by
  intro ve sl pn s σ H x y v u Q I rx ry ⟨a, z, ex, dg, q⟩ hs
  subst ex
  obtain rfl : v = Value.ref a := rx
  have ty := dict_typeIs I dg
  unfold subscriptTail
  refine wpAny_bind ?_
  rw [getitemInPython_of_ne ty.not_modules]
  refine wpAny_bind (wpAny_specialOf ty PySem.F.slot_dict_getitem.lookup ?_)
  have last : wpAny (model X.prog X.w) X.A (subscripted sl false (.ref a) u) (fun r s3 => wpAny (model X.prog X.w) X.A (letTemporaryGo ve (.ref a) r >>= fun _ => pure r) (EP X pn σ Q) X.xe s3) X.xe s := by
    rw [hs]
    exact wpAny_operating (d_getItem (by omega) I dg ry fun u2 s2 J ru => wpAny_bind (wpAny_letTemporaryGo (wpAny_pure ⟨z, H, J, ru, q⟩)))
  first
    | exact wpAny_pure (wpAny_bind last)
    | exact wpAny_bind (wpAny_pure (wpAny_bind last))
    | exact wpAny_bind last
def rSub (X : Cx) (W : WX) : R2 := fun x y H Q => ∃ g fr S σ a b, Rel X.K X.mg g fr S σ H ∧ Vw X.K g H x a ∧ RD X.K g H b y ∧ Aft X.K X.mg W (rV X.K X.mg) g H σ (RX.lift ((subD a b).map Val.fz) fr S) Q
theorem ix_sub (hu : X.A.units + 66 < cLine) : IxR X (rSub X W) := by
  intro value slice pins s σ H x y v u Q I rx ry ⟨g, fr, S, σ', a, b, rel, va, vb, h⟩ hs
  have some_of : ∃ r, subD a b = some r := by
    cases e : subD a b with
    | none => rw [e] at h; exact False.elim h
    | some r => exact ⟨r, rfl⟩
  obtain ⟨r, er⟩ := some_of
  rw [er] at h
  cases a with
  | lst xs =>
    cases b with
    | int i =>
      obtain ⟨p, vs, rfl, h1, h2⟩ := va
      obtain rfl := RD.of_int vb
      obtain ⟨z, e1, e2⟩ := atI_rel h2 er
      exact ix_list value slice pins s σ H _ _ v u Q I rx ry ⟨_, _, _, _, rfl, rfl, SqL.of h1, e1, fin_old h rel e2⟩ hs
    | _ => cases er
  | tup xs =>
    cases b with
    | int i =>
      obtain ⟨p, vs, rfl, h1, h2⟩ := RD.of_tup va
      obtain rfl := RD.of_int vb
      obtain ⟨z, e1, e2⟩ := atI_rel h2 er
      exact ix_tup value slice pins s σ H _ _ v u Q I rx ry ⟨_, _, _, _, rfl, rfl, h1, e1, fin_old h rel e2⟩ hs
    | _ => cases er
  | scr xs =>
    cases b with
    | int i =>
      obtain ⟨p, vs, rfl, h1, h2⟩ := RD.of_scr va
      obtain rfl := RD.of_int vb
      obtain ⟨z, e1, e2⟩ := atI_rel h2 er
      exact ix_list value slice pins s σ H _ _ v u Q I rx ry ⟨_, _, _, _, rfl, rfl, h1, e1, fin_old h rel e2⟩ hs
    | _ => cases er
  | str z =>
    cases b with
    | int i =>
      obtain rfl := RD.of_str va
      obtain rfl := RD.of_int vb
      have er' : (if z.length ≤ sizeLine then (atI z.cps.toList i).map fun c => D.str ⟨#[c]⟩ else none) = some r := er
      by_cases hz : z.length ≤ sizeLine
      · rw [if_pos hz] at er'
        obtain ⟨c, e1, e2⟩ := Option.map_eq_some_iff.mp er'
        subst e2
        exact ix_str value slice pins s σ H _ _ v u Q I rx ry ⟨_, _, c, rfl, rfl, hz, e1, fin_old h rel (.str _)⟩ hs
      · rw [if_neg hz] at er'; cases er'
    | _ => cases er
  | dic ks xs =>
    have er' : ((toKey b).bind fun k => findK ks xs k) = some r := er
    obtain ⟨k, e1, e2⟩ := Option.bind_eq_some_iff.mp er'
    have e3 : dgetD (.dic ks xs) b = some (some r) := by
      show (toKey b).map _ = _
      rw [e1, Option.map_some, e2]
    obtain ⟨p, o, e4, e5, e6⟩ := dget_rel va (show Vw X.K g H y b by cases b <;> first | exact vb | cases e1) e3
    cases o with
    | none => exact e6.elim
    | some w => exact ix_dict hu value slice pins s σ H _ _ v u Q I rx ry ⟨p, w, e4, e5, fin_old h rel e6⟩ hs
  | dit ks xs =>
    have er' : ((keyT b).bind fun k => findK ks xs k) = some r := er
    obtain ⟨k, e1, e2⟩ := Option.bind_eq_some_iff.mp er'
    have e3 : dgetD (.dit ks xs) b = some (some r) := by
      show (keyT b).map _ = _
      rw [e1, Option.map_some, e2]
    obtain ⟨p, o, e4, e5, e6⟩ := dget_rel va (show Vw X.K g H y b by cases b <;> first | exact vb | cases e1) e3
    cases o with
    | none => exact e6.elim
    | some w => exact ix_dict hu value slice pins s σ H _ _ v u Q I rx ry ⟨p, w, e4, e5, fin_old h rel e6⟩ hs
  | _ => cases er

theorem cut_rel {K : PySem.W.Frag} {g : Gh} {H : Hp} {ds : List D} {vs : List V} (r : RDs K g H ds vs) (lo hi : Option Int) : RDs K g H (cutD ds lo hi) (cutV vs lo hi) := by
  unfold cutD cutV
  rw [r.length]
  exact (r.drop _).take _
def rSli (X : Cx) (W : WX) : V → Option Int → Option Int → Hp → VK → Prop := fun x lo hi H Q => ∃ g fr S σ a, Rel X.K X.mg g fr S σ H ∧ Vw X.K g H x a ∧ Aft X.K X.mg W (rV X.K X.mg) g H σ (RX.lift (sliceD lo hi a) fr S) Q
theorem sl_any : SlR X (rSli X W) := by
  intro pins s σ H x v vl vu lo hi sl Q I rx hs pl pu ⟨g, fr, S, σ', a, rel, va, h⟩
  cases a with
  | lst xs =>
    obtain ⟨p, vs, rfl, h1, h2⟩ := va
    exact sl_list pins s σ H _ v vl vu lo hi sl Q I rx hs pl pu ⟨_, _, rfl, SqL.of h1, fun p hp => fin_lst h rel (cut_rel h2 lo hi) hp⟩
  | tup xs =>
    obtain ⟨p, vs, rfl, h1, h2⟩ := RD.of_tupX va
    refine sl_tupA pins s σ H _ v vl vu lo hi sl Q I rx hs pl pu ⟨_, _, rfl, SqT.of h1, fun e => ?_, fun _ p hp => fin_tup h rel (cut_rel h2 lo hi) hp⟩
    have e1 : cutD xs lo hi = xs := by
      unfold cutD
      rw [h2.length, e.1, e.2, List.drop_zero, Nat.sub_zero, ← h2.length, List.take_length]
    have h' : Aft X.K X.mg W (rV X.K X.mg) g H σ' (.ok (.fz (.tup (cutD xs lo hi))) fr S) Q := h
    rw [e1] at h'
    exact fin_old h' rel (.tup h1 h2)
  | str z =>
    obtain rfl := RD.of_str va
    have h' : Aft X.K X.mg W (rV X.K X.mg) g H σ' (RX.lift (if z.length ≤ sizeLine then some (.fz (.str (Txt.slice z lo hi))) else none) fr S) Q := h
    by_cases hz : z.length ≤ sizeLine
    · rw [if_pos hz] at h'
      exact C8.sl_txt pins s σ H _ v vl vu lo hi sl Q I rx hs pl pu ⟨z, rfl, hz, fin_old h' rel (.str _)⟩
    · rw [if_neg hz] at h'; exact h'.elim
  | _ => exact False.elim h

theorem truV_of {H : Hp} {g : Gh} {x : V} {d : D} {k : Bool} (va : Vw X.K g H x d) (e : truD d = some k) : TruV X.K x H k := by
  cases d with
  | non => obtain rfl := RD.of_non va; exact (Option.some.inj e).symm
  | bl b => obtain rfl := RD.of_bl va; exact (Option.some.inj e).symm
  | int b => obtain rfl := RD.of_int va; exact (Option.some.inj e).symm
  | lst xs =>
    obtain ⟨p, vs, rfl, h1, h2⟩ := va
    refine .inl ⟨vs, SqL.of h1, ?_⟩
    have e' : (!xs.isEmpty) = k := Option.some.inj e
    rw [← e']
    cases h2 <;> rfl
  | tup xs =>
    obtain ⟨p, vs, rfl, h1, h2⟩ := RD.of_tup va
    refine .inr (.inl ⟨vs, h1, ?_⟩)
    have e' : (!xs.isEmpty) = k := Option.some.inj e
    rw [← e']
    cases h2 <;> rfl
  | _ => cases e

/-! ### built-ins -/
inductive Vws (K : PySem.W.Frag) (g : Gh) (H : Hp) : List V → List D → Prop
  | nil : Vws K g H [] []
  | cons {x : V} {xs : List V} {d : D} {ds : List D} : Vw K g H x d → Vws K g H xs ds → Vws K g H (x :: xs) (d :: ds)
theorem vws_look {K : PySem.W.Frag} {mg : Str → Option Value} {g : Gh} {H : Hp} {S : Store} (st : StR K mg g S H) : ∀ {ds : List D} {xs : List V}, RDs K g H ds xs → Vws K g H xs (ds.map (look S))
  | _, _, .nil => .nil
  | _, _, .cons h t => .cons (vw_look st h) (vws_look st t)
def rBlt (X : Cx) (W : WX) (k : FK) : List V → Hp → VK → Prop := fun xs H Q => ∃ g fr S σ ds, Rel X.K X.mg g fr S σ H ∧ Vws X.K g H xs ds ∧ Aft X.K X.mg W (rV X.K X.mg) g H σ (RX.lift (bltD k ds) fr S) Q
def FK.name : FK → Str
  | .len => "len" | .all => "all" | .any => "any" | .sum => "sum" | .tuple => "tuple" | .list => "list" | .int => "int" | .max2 => "max" | .min2 => "min" | .repr => "repr" | .sorted => "sorted" | .str => "str"
/-- the built-in's value -/
def FK.val : FK → Value
  | .len => .builtin "len" | .all => .builtin "all" | .any => .builtin "any" | .sum => .builtin "sum" | .tuple => .type "tuple" | .list => .type "list" | .int => .type "int" | .max2 => .builtin "max" | .min2 => .builtin "min" | .repr => .builtin "repr" | .sorted => .builtin "sorted" | .str => .type "str"
theorem boolL_rel {K : PySem.W.Frag} {g : Gh} {H : Hp} : ∀ {ds : List D} {vs : List V} {bs : List Bool}, RDs K g H ds vs → boolL ds = some bs → vs = bs.map V.bl
  | _, _, _, .nil, e => by cases e; rfl
  | d :: ds, v :: vs, bs, .cons h t, e => by
    cases d with
    | bl b =>
      have e' : (boolL ds).map (b :: ·) = some bs := e
      cases q : boolL ds with
      | none => rw [q] at e'; cases e'
      | some cs =>
        rw [q] at e'
        cases e'
        rw [RD.of_bl h, boolL_rel t q]; rfl
    | _ => cases e
theorem intL_rel {K : PySem.W.Frag} {g : Gh} {H : Hp} : ∀ {ds : List D} {vs : List V} {bs : List Int}, RDs K g H ds vs → intL ds = some bs → vs = bs.map V.int
  | _, _, _, .nil, e => by cases e; rfl
  | d :: ds, v :: vs, bs, .cons h t, e => by
    cases d with
    | int b =>
      have e' : (intL ds).map (b :: ·) = some bs := e
      cases q : intL ds with
      | none => rw [q] at e'; cases e'
      | some cs =>
        rw [q] at e'
        cases e'
        rw [RD.of_int h, intL_rel t q]; rfl
    | _ => cases e
mutual
theorem toP_noDict : ∀ d : D, d.toP.hasDict = false
  | .non | .bl _ | .int _ | .str _ | .dic _ _ | .dit _ _ | .ref _ | .scr _ => by unfold D.toP PyData.hasDict; rfl
  | .lst xs | .tup xs => by unfold D.toP PyData.hasDict; exact toPs_noDict xs
theorem toPs_noDict : ∀ ds : List D, PyData.hasDictAll (D.toPs ds) = false
  | [] => by unfold D.toPs PyData.hasDictAll; rfl
  | x :: xs => by unfold D.toPs PyData.hasDictAll; rw [toP_noDict x, toPs_noDict xs]; rfl
end
/-- repr of plain data behind a reference -/
theorem ints_rel {K : PySem.W.Frag} {g : Gh} {H : Hp} : ∀ ns : List Int, RDs K g H (ns.map D.int) (ns.map V.int)
  | [] => .nil
  | n :: ns => .cons (.int n) (ints_rel ns)
theorem call_repr (hg : X.A.guards = some []) (hu : X.A.units + 100 < cLine) {pins : List (Addr × Obj)} {s : Shared} {σ : L2.St} {H : Hp} {us : List Value} {Q : VK} {a : Addr} {d : PyData} (I : Inv X pins σ H s) (rx : Vals [.ref a] us) (h : Dp X.K H (.ref a) d)
    (hs : d.showable = true) (hp : d.hasDict = false) (hd : d.depth ≤ 64) (hz : d.shown.length ≤ sizeLine) (q : Q (.str d.shown) H) : wpAny (model X.prog X.w) X.A (call (.builtin "repr") us) (EP X pins σ Q) X.xe s := by
  cases rx with
  | cons r1 r2 =>
    cases r2
    cases r1
    obtain ⟨as, rd⟩ := Dp.reads I d (.ref a) (.ref a) h rfl
    refine repr_of_reads' rd hs (fun z => by rw [hp] at z; cases z) hg (by omega) (fun _ _ e => e) (fun h' u tk k => ?_) hz
    exact ⟨.str d.shown, H, I.kept k, ⟨u, rfl⟩, q⟩
theorem zip_keys {ks : List (List Key)} {vs : List V} (h : ks.length = vs.length) : ((ks.zip vs).map fun k => D.tup (k.1.map keyD)) = ks.map fun k => D.tup (k.map keyD) := by
  have e : (ks.zip vs).map (·.1) = ks := by rw [List.map_fst_zip]; rw [h]; exact Nat.le_refl _
  have e2 : ((ks.zip vs).map fun k => D.tup (k.1.map keyD)) = ((ks.zip vs).map (·.1)).map fun k => D.tup (k.map keyD) := by rw [List.map_map]; rfl
  rw [e2, e]
theorem keysAny_aux {K : PySem.W.Frag} {g g' : Gh} {H : Hp} : ∀ {ds : List D} {vs : List V}, (∀ d ∈ ds, ∃ k : List Key, d = D.tup (k.map keyD)) → RDs K g H ds vs → RDs K g' H ds vs
  | _, _, _, .nil => .nil
  | d :: ds, v :: vs, hk, .cons h t => by
    refine .cons ?_ (keysAny_aux (fun d hd => hk d (List.mem_cons_of_mem _ hd)) t)
    obtain ⟨k, rfl⟩ := hk d List.mem_cons_self
    obtain ⟨b, vs, rfl, h1, h2⟩ := RD.of_tupX h
    refine .tup h1 ?_
    clear h h1
    induction k generalizing vs with
    | nil => cases h2; exact .nil
    | cons j k ih =>
      cases h2 with
      | cons a b =>
        refine .cons ?_ (ih (fun d hd => ?_) _ b)
        · cases j with
          | inl i => obtain rfl := RD.of_int a; exact .int i
          | inr x => obtain rfl := RD.of_str a; exact .str x
        · rcases List.mem_cons.mp hd with rfl | hd
          · exact ⟨k, rfl⟩
          · exact hk d (List.mem_cons_of_mem _ hd)
theorem RDs.keysAny {K : PySem.W.Frag} {g g' : Gh} {H : Hp} {ks : List (List Key)} {vs : List V} (h : RDs K g H (srtD (ks.map fun k => D.tup (k.map keyD))) vs) : RDs K g' H (srtD (ks.map fun k => D.tup (k.map keyD))) vs := by
  refine keysAny_aux (fun d hd => ?_) h
  have hd : d ∈ (ks.map fun k => D.tup (k.map keyD)).mergeSort leD := hd
  rw [List.mem_mergeSort] at hd
  obtain ⟨k, _, rfl⟩ := List.mem_map.mp hd
  exact ⟨k, rfl⟩
theorem call_blt (hc : X.calm = true) (hgd : X.A.guards = some []) (hun : X.A.units + 100 < cLine) (k : FK) : CallR X k.val (rBlt X W k) := by
  intro pins s σ H xs us Q I rx ⟨g, fr, S, σ', ds, rel, va, h⟩
  have some_of : ∃ r, bltD k ds = some r := by
    cases e : bltD k ds with
    | none => rw [e] at h; exact False.elim h
    | some r => exact ⟨r, rfl⟩
  obtain ⟨r, er⟩ := some_of
  rw [er] at h
  cases va with
  | nil => cases k <;> cases er
  | cons v1 vr =>
    rename_i x xs d ds
    cases vr with
    | nil =>
      cases k with
      | len =>
        cases d with
        | lst ys =>
          cases er
          obtain ⟨p, vs, rfl, h1, h2⟩ := v1
          refine call_len_seq pins s σ H _ us Q I rx ⟨_, vs, rfl, .inl (SqL.of h1), ?_⟩
          rw [← h2.length]; exact fin_old h rel (.int _)
        | tup ys =>
          cases er
          obtain ⟨p, vs, rfl, h1, h2⟩ := RD.of_tup v1
          refine call_len_seq pins s σ H _ us Q I rx ⟨_, vs, rfl, .inr h1, ?_⟩
          rw [← h2.length]; exact fin_old h rel (.int _)
        | scr ys =>
          cases er
          obtain ⟨p, vs, rfl, h1, h2⟩ := RD.of_scr v1
          refine call_len_seq pins s σ H _ us Q I rx ⟨_, vs, rfl, .inl h1, ?_⟩
          rw [← h2.length]; exact fin_old h rel (.int _)
        | dit ks ys =>
          cases er
          obtain ⟨p, vs, rfl, h1, h2, h3⟩ := v1
          refine call_len_dT pins s σ H _ us Q I rx ⟨_, _, rfl, h1, ?_⟩
          rw [List.length_zip, ← h2, Nat.min_self]; exact fin_old h rel (.int _)
        | dic ks ys =>
          cases er
          obtain ⟨p, vs, rfl, h1, h2, h3⟩ := v1
          refine call_lenD pins s σ H _ us Q I rx ⟨_, _, rfl, h1, ?_⟩
          rw [List.length_zip, ← h2, Nat.min_self]; exact fin_old h rel (.int _)
        | str z =>
          have e : (if z.length ≤ sizeLine then some (Val.fz (.int z.length)) else none) = some r := er
          by_cases hz : z.length ≤ sizeLine
          · rw [if_pos hz] at e
            cases e
            obtain rfl := RD.of_str v1
            exact call_len_str pins s σ H _ us Q I rx ⟨_, rfl, hz, fin_old h rel (.int _)⟩
          · rw [if_neg hz] at e; cases e
        | _ => cases er
      | all =>
        cases d with
        | lst ys =>
          obtain ⟨p, vs, rfl, h1, h2⟩ := v1
          have e : (boolL ys).map (fun bs => Val.fz (.bl (bs.all id))) = some r := er
          cases q : boolL ys with
          | none => rw [q] at e; cases e
          | some bs =>
            rw [q] at e
            cases e
            obtain rfl := boolL_rel h2 q
            exact cr_all hc pins s σ H _ us Q I rx ⟨_, _, rfl, SqL.of h1, fin_old h rel (.bl _)⟩
        | _ => cases er
      | any =>
        cases d with
        | lst ys =>
          obtain ⟨p, vs, rfl, h1, h2⟩ := v1
          have e : (boolL ys).map (fun bs => Val.fz (.bl (bs.any id))) = some r := er
          cases q : boolL ys with
          | none => rw [q] at e; cases e
          | some bs =>
            rw [q] at e
            cases e
            obtain rfl := boolL_rel h2 q
            exact cr_any hc pins s σ H _ us Q I rx ⟨_, _, rfl, SqL.of h1, fin_old h rel (.bl _)⟩
        | _ => cases er
      | sum =>
        cases d with
        | lst ys =>
          obtain ⟨p, vs, rfl, h1, h2⟩ := v1
          have e : (intL ys).map (fun bs => Val.fz (.int bs.sum)) = some r := er
          cases q : intL ys with
          | none => rw [q] at e; cases e
          | some bs =>
            rw [q] at e
            cases e
            obtain rfl := intL_rel h2 q
            exact cr_sum hc pins s σ H _ us Q I rx ⟨_, _, rfl, SqL.of h1, fin_old h rel (.int _)⟩
        | _ => cases er
      | tuple =>
        cases d with
        | lst ys =>
          cases er
          obtain ⟨p, vs, rfl, h1, h2⟩ := v1
          exact call_tuple_of pins s σ H _ us Q I rx ⟨_, vs, rfl, .inl ⟨SqL.of h1, fun l hl => fin_tup h rel h2 hl⟩⟩
        | tup ys =>
          cases er
          obtain ⟨p, vs, rfl, h1, h2⟩ := RD.of_tupX v1
          exact call_tuple_of pins s σ H _ us Q I rx ⟨_, vs, rfl, .inr ⟨SqT.of h1, fin_old h rel (.tup h1 h2)⟩⟩
        | _ => cases er
      | list =>
        cases d with
        | lst ys =>
          cases er
          obtain ⟨p, vs, rfl, h1, h2⟩ := v1
          exact call_list_of pins s σ H _ us Q I rx ⟨_, vs, rfl, .inl (SqL.of h1), fun l hl => fin_lst h rel h2 hl⟩
        | tup ys =>
          cases er
          obtain ⟨p, vs, rfl, h1, h2⟩ := RD.of_tup v1
          exact call_list_of pins s σ H _ us Q I rx ⟨_, vs, rfl, .inr h1, fun l hl => fin_lst h rel h2 hl⟩
        | dit ks ys =>
          cases er
          obtain ⟨p, vs, rfl, h1, h2, h3⟩ := v1
          refine call_list_dT hc pins s σ H _ us Q I rx ⟨_, _, rfl, .inl h1, fun p bs hp hk => ?_⟩
          have ek := zip_keys h2
          exact fin_lst h rel (by rw [← ek]; exact isKeys_rd hk) hp
        | _ => cases er
      | int =>
        cases d with
        | int i =>
          cases er
          obtain rfl := RD.of_int v1
          exact call_int1 pins s σ H _ us Q I rx (.inl ⟨_, rfl, fin_old h rel (.int _)⟩)
        | bl i =>
          cases er
          obtain rfl := RD.of_bl v1
          exact call_int1 pins s σ H _ us Q I rx (.inr ⟨_, rfl, fin_old h rel (.int _)⟩)
        | _ => cases er
      | max2 => cases d <;> cases er
      | min2 => cases d <;> cases er
      | repr =>
        have fin : ∀ (d : D) (a : Addr), Dp X.K H (.ref a) d.toP → reprD d = some r → Vals [.ref a] us → wpAny (model X.prog X.w) X.A (call (.builtin "repr") us) (EP X pins σ Q) X.xe s := fun d a hd er rx => by
          unfold reprD at er
          by_cases hh : d.pl = true ∧ d.toP.showable = true ∧ d.toP.shown.length ≤ sizeLine ∧ d.dep ≤ 64
          · rw [if_pos hh] at er
            cases er
            exact call_repr hgd hun I rx hd hh.2.1 (toP_noDict d) (by rw [toP_dep d hh.1]; exact hh.2.2.2) hh.2.2.1 (fin_old h rel (.str _))
          · rw [if_neg hh] at er; cases er
        cases d with
        | tup ys =>
          have pl : (D.tup ys).pl = true := by
            have er' : reprD (.tup ys) = some r := er
            unfold reprD at er'
            by_cases hh : (D.tup ys).pl = true ∧ (D.tup ys).toP.showable = true ∧ (D.tup ys).toP.shown.length ≤ sizeLine ∧ (D.tup ys).dep ≤ 64
            · exact hh.1
            · rw [if_neg hh] at er'; cases er'
          have dp := Vw.dp v1 pl
          obtain ⟨a, rfl⟩ : ∃ a, x = .ref a := by cases v1; exact ⟨_, rfl⟩
          exact fin _ a dp er rx
        | lst ys =>
          have pl : (D.lst ys).pl = true := by
            have er' : reprD (.lst ys) = some r := er
            unfold reprD at er'
            by_cases hh : (D.lst ys).pl = true ∧ (D.lst ys).toP.showable = true ∧ (D.lst ys).toP.shown.length ≤ sizeLine ∧ (D.lst ys).dep ≤ 64
            · exact hh.1
            · rw [if_neg hh] at er'; cases er'
          have dp := Vw.dp v1 pl
          obtain ⟨a, _, rfl, _⟩ := v1
          exact fin _ a dp er rx
        | _ => cases er
      | sorted =>
        cases d with
        | lst ys =>
          obtain ⟨p, vs, rfl, h1, h2⟩ := v1
          have e : (match intL ys with | some ns => some (Val.own (.lst ((srtI ns).map .int))) | none => if srtOk ys then some (.own (.lst (srtD ys))) else none) = some r := er
          cases q : intL ys with
          | none =>
            rw [q] at e
            have e : (if srtOk ys then some (Val.own (.lst (srtD ys))) else none) = some r := e
            by_cases ho : srtOk ys = true
            · rw [if_pos ho] at e
              cases e
              exact cr_sortD hun pins s σ H _ us Q I rx ⟨g, _, ys, vs, rfl, SqL.of h1, h2, ho, fun p ws hp hw => fin_lst h rel hw hp⟩
            · rw [if_neg ho] at e; cases e
          | some ns =>
            rw [q] at e
            cases e
            obtain rfl := intL_rel h2 q
            refine cr_sortedI pins s σ H _ us Q I rx ⟨_, ns, rfl, SqL.of h1, fun ms q pm pw hq => ?_⟩
            rw [srtI_one pm pw]
            exact fin_lst h rel (ints_rel _) hq
        | dit ks ys =>
          obtain ⟨p, vs, rfl, h1, h2, h3⟩ := v1
          have e : (if srtOk (ks.map fun k => D.tup (k.map keyD)) then some (Val.own (.lst (srtD (ks.map fun k => D.tup (k.map keyD))))) else none) = some r := er
          have ek := zip_keys h2
          by_cases ho : srtOk (ks.map fun k => D.tup (k.map keyD)) = true
          · rw [if_pos ho] at e
            cases e
            refine cr_sortT hc hun pins s σ H _ us Q I rx ⟨_, _, rfl, h1, by rw [ek]; exact ho, fun g' p ws hp hw => ?_⟩
            rw [ek] at hw
            exact fin_lst h rel hw.keysAny hp
          · rw [if_neg ho] at e; cases e
        | _ => cases er
      | str =>
        cases d with
        | int i =>
          have e : (if i.natAbs.log2 < 1920 then some (Val.fz (.str (toString i))) else none) = some r := er
          by_cases hz : i.natAbs.log2 < 1920
          · rw [if_pos hz] at e
            cases e
            obtain rfl := RD.of_int v1
            exact call_str_int pins s σ H _ us Q I rx ⟨_, rfl, hz, fin_old h rel (.str _)⟩
          · rw [if_neg hz] at e; cases e
        | str z =>
          cases er
          obtain rfl := RD.of_str v1
          exact SkE.call_str_str pins s σ H _ us Q I rx ⟨_, rfl, fin_old h rel (.str _)⟩
        | _ => cases er
    | cons v2 vr =>
      rename_i y ys e es
      cases vr with
      | nil =>
        cases k with
        | max2 =>
          cases d <;> cases e <;> first | cases er | skip
          obtain rfl := RD.of_int v1; obtain rfl := RD.of_int v2
          exact call_max2 hc pins s σ H _ us Q I rx ⟨_, _, rfl, fin_old h rel (.int _)⟩
        | min2 =>
          cases d <;> cases e <;> first | cases er | skip
          obtain rfl := RD.of_int v1; obtain rfl := RD.of_int v2
          exact call_min2 hc pins s σ H _ us Q I rx ⟨_, _, rfl, fin_old h rel (.int _)⟩
        | _ => cases d <;> cases er
      | cons v3 vr => cases k <;> cases d <;> first | cases er | (cases e <;> cases er)

/-! ### isinstance -/
def TK.tyn : TK → String
  | .int => "int" | .bool => "bool" | .tuple => "tuple" | .str => "str" | .list => "list" | .dict => "dict"
def TK.name : TK → Str
  | .int => "int" | .bool => "bool" | .tuple => "tuple" | .str => "str" | .list => "list" | .dict => "dict"
theorem tyx_of {K : PySem.W.Frag} {g : Gh} {H : Hp} {d : D} {x : V} {t : TK} {b : Bool} (r : RD K g H d x) (e : isD t d = some b) : ∃ ty : String, TyX K H x (.type ty) ∧ kitB ty t.tyn = some b := by
  cases r with
  | non => exact ⟨"NoneType", .base .non, by cases t <;> cases e <;> decide +kernel⟩
  | bl k => exact ⟨"bool", .base (.bl k), by cases t <;> cases e <;> decide +kernel⟩
  | int k => exact ⟨"int", .base (.int k), by cases t <;> cases e <;> decide +kernel⟩
  | str k => exact ⟨"str", .base (.str k), by cases t <;> cases e <;> decide +kernel⟩
  | lst h n r => exact ⟨"list", .base (.lst h), by cases t <;> cases e <;> decide +kernel⟩
  | tup h r =>
    refine ⟨"tuple", ?_, by cases t <;> cases e <;> decide +kernel⟩
    exact .base (.tup h)
  | dic h l n r => exact ⟨"dict", .base (.dK h), by cases t <;> cases e <;> decide +kernel⟩
  | dit h l n r => exact ⟨"dict", .base (.dT h), by cases t <;> cases e <;> decide +kernel⟩
  | ref h => cases t <;> cases e
  | scr h r =>
    refine ⟨"list", ?_, by cases t <;> cases e <;> decide +kernel⟩
    rcases h with ⟨h | ⟨o, h⟩, _⟩ | h
    · exact .base (.lst h)
    · exact .base (.frz h)
    · rcases h (fun _ => none) with h | ⟨o, its, n, h1, h2, _⟩
      · rcases h with h | ⟨o, h⟩ <;> cases h
      · exact .kList h1 h2
end
end Eng
end

section
/-! The engine, part G: the look at the text, what is known where a body runs, weakenings. -/
namespace Eng
open PySem PySem.Spec PyProof.Rows L2

/-! ### the look at the text -/
structure SC where
  sc : Scope
  N : List Str
  fs : List Str
  gl : Str → Option D
  xs : List Str
  top : Bool
  /-- how many arguments a def takes: at least, at most -/
  ar : Str → Nat × Nat := fun _ => (0, 0)
  /-- methods: the def's qualified name, its class, its name -/
  ms : List (Str × Str × Str) := []
  /-- classes -/
  cs : List Str := []
  /-- fields of classes -/
  ats : List (Str × Str) := []
  /-- own exceptions with a field -/
  xf : List (Str × Str) := []
/-- no star, no set, no slice -/
def pln : Expr → Bool
  | .Starred .. => false
  | .Set .. => false
  | .Slice .. => false
  | _ => true
def isVis : Option NameKind → Bool
  | some .local => true
  | some .cell => true
  | some .free => true
  | _ => false
def isLoc (top : Bool) : Option NameKind → Bool
  | some .local => true
  | some .cell => top
  | _ => false
def isGl : Option NameKind → Bool
  | some .globalImplicit => true
  | _ => false
def visB (c : SC) (i : Nat) (x : Str) : Bool := decide (c.N[i]? = some x) && isVis (c.sc.names.lookup x) && !(x == "__debug__") && !(x == "__classdict__")
def glB (c : SC) (x : Str) : Bool := isGl (c.sc.names.lookup x) && !(x == "__debug__")
def conOk : D → Const → Bool
  | .non, .none => true
  | .bl b, .bool k => b == k
  | .int i, .int j => decide (i = j)
  | .str x, .str y => decide (x = y)
  | _, _ => false
def Tg.own (N : List Str) (tg : Tg) : List (Str × Nat) := tg.slots.map fun i => (N.getD i Str.empty, i)
mutual
def chkG (c : SC) : Tg → Expr → Bool
  | .nm i, .Name x _ => decide (c.N[i]? = some x) && isLoc c.top (c.sc.names.lookup x)
  | .tp ts, .Tuple es _ _ => chkGs c ts es
  | _, _ => false
def chkGs (c : SC) : Tgs → List Expr → Bool
  | .nil, [] => true
  | .cons t ts, e :: es => chkG c t e && chkGs c ts es
  | _, _ => false
end
def isTupleE : Expr → Bool
  | .Tuple .. => true
  | _ => false
structure CK2 where
  v : Expr → Bool
  t : Expr → Bool
def chkO (m : Xp) (f : Expr → Bool) (o : Option Expr) : Bool := match m, o with
  | .omit, none => true
  | .omit, some _ => false
  | _, some x => f x
  | _, none => false
/-! ### shapes of the text -/
def xMeth : Expr → Option (Expr × Str × Pos × List Expr × Pos)
  | .Call (.Attribute o m ap) es [] p => some (o, m, ap, es, p)
  | _ => none
theorem xMeth_eq {e : Expr} {o : Expr} {m : Str} {ap p : Pos} {es : List Expr} (h : xMeth e = some (o, m, ap, es, p)) : e = .Call (.Attribute o m ap) es [] p := by
  unfold xMeth at h
  split at h
  · cases h; rfl
  · cases h
def xFn : Expr → Option (Str × Pos × List Expr × Pos)
  | .Call (.Name x q) es [] p => some (x, q, es, p)
  | _ => none
theorem xFn_eq {e : Expr} {x : Str} {q p : Pos} {es : List Expr} (h : xFn e = some (x, q, es, p)) : e = .Call (.Name x q) es [] p := by
  unfold xFn at h
  split at h
  · cases h; rfl
  · cases h
def xAttr : Expr → Option (Expr × Str × Pos)
  | .Attribute o f p => some (o, f, p)
  | _ => none
theorem xAttr_eq {e o : Expr} {f : Str} {p : Pos} (h : xAttr e = some (o, f, p)) : e = .Attribute o f p := by
  unfold xAttr at h
  split at h
  · cases h; rfl
  · cases h
def xCmp : Expr → Option (Expr × CmpOp × Expr)
  | .Compare l [o] [r] _ => some (l, o, r)
  | _ => none
theorem xCmp_eq {e l r : Expr} {o : CmpOp} (h : xCmp e = some (l, o, r)) : ∃ p, e = .Compare l [o] [r] p := by
  unfold xCmp at h
  split at h
  · cases h; exact ⟨_, rfl⟩
  · cases h
def xRev : Expr → Option Expr
  | .Subscript x (.Slice none none (some (.UnaryOp .USub (.Constant (.int 1) _ _) _)) _) _ => some x
  | _ => none
theorem xRev_eq {e x : Expr} (h : xRev e = some x) : ∃ k p1 p2 p3 p, e = .Subscript x (.Slice none none (some (.UnaryOp .USub (.Constant (.int 1) k p1) p2)) p3) p := by
  unfold xRev at h
  split at h
  · cases h; exact ⟨_, _, _, _, _, rfl⟩
  · cases h
def xName : Expr → Option Str
  | .Name x _ => some x
  | _ => none
/-- no super() -/
def noSup : Expr → Bool
  | .Call (.Name _ _) [] [] _ => false
  | _ => true
def MK.name : MK → Str
  | .upper => "upper" | .get1 => "get" | .get2 => "get" | .join => "join" | .split => "split" | .isdigit => "isdigit"
def MK.ar : MK → Nat
  | .upper => 0 | .get1 => 1 | .get2 => 2 | .join => 1 | .split => 1 | .isdigit => 0
def arB (c : SC) (f : Str) (n : Nat) : Bool := decide ((c.ar f).1 ≤ n) && decide (n ≤ (c.ar f).2)
mutual
def chk2 : Xp → SC → CK2
  | .con d, c => ⟨fun e => match e with | .Constant k _ _ => conOk d k | _ => false, fun _ => false⟩
  | .var i, c => let f := fun e => match e with | .Name x _ => visB c i x | _ => false; ⟨f, f⟩
  | .glo x, c => ⟨fun e => match e with | .Name y _ => decide (x = y) && glB c y | _ => false, fun _ => false⟩
  | .bin k a b, c => ⟨fun e => match e with | .BinOp l o r _ => decide (o = k.op) && (chk2 a c).v l && (chk2 b c).v r | _ => false, fun _ => false⟩
  | .cmp k a b, c => let f := fun e => match e with | .Compare l [o] [r] _ => decide (o = k.op) && pln r && (chk2 a c).v l && (chk2 b c).v r | _ => false; ⟨f, f⟩
  | .chain k l a b d, c => let f := fun e => match e with | .Compare x [o, o'] [y, z] _ => decide (o = k.op) && decide (o' = l.op) && pln z && (chk2 a c).v x && (chk2 b c).v y && (chk2 d c).v z | _ => false; ⟨f, f⟩
  | .not a, c => ⟨fun e => match e with | .UnaryOp .Not x _ => (chk2 a c).v x | _ => false, fun e => match e with | .UnaryOp .Not x _ => (chk2 a c).t x | _ => false⟩
  | .and a b, c => ⟨fun e => match e with
    | .BoolOp .And [x, y] _ => (chk2 a c).v x && (chk2 b c).v y
    | .BoolOp .And (x :: y :: z :: r) p => (chk2 a c).v x && (chk2 b c).v (.BoolOp .And (y :: z :: r) p)
    | _ => false, fun e => match e with
    | .BoolOp .And [x, y] _ => (chk2 a c).t x && (chk2 b c).t y
    | .BoolOp .And (x :: y :: z :: r) p => (chk2 a c).t x && (chk2 b c).t (.BoolOp .And (y :: z :: r) p)
    | _ => false⟩
  | .or a b, c => ⟨fun e => match e with
    | .BoolOp .Or [x, y] _ => (chk2 a c).v x && (chk2 b c).v y
    | .BoolOp .Or (x :: y :: z :: r) p => (chk2 a c).v x && (chk2 b c).v (.BoolOp .Or (y :: z :: r) p)
    | _ => false, fun e => match e with
    | .BoolOp .Or [x, y] _ => (chk2 a c).t x && (chk2 b c).t y
    | .BoolOp .Or (x :: y :: z :: r) p => (chk2 a c).t x && (chk2 b c).t (.BoolOp .Or (y :: z :: r) p)
    | _ => false⟩
  | .ife t a b, c => ⟨fun e => match e with | .IfExp x y z _ => (chk2 t c).t x && (chk2 a c).v y && (chk2 b c).v z | _ => false, fun _ => false⟩
  | .tup es, c => ⟨fun e => match e with | .Tuple l _ _ => chks es c l | _ => false, fun _ => false⟩
  | .lst es, c => ⟨fun e => match e with | .List l _ => chks es c l | _ => false, fun _ => false⟩
  | .sub a b, c => let f := fun e => match e with | .Subscript x y _ => pln y && (chk2 a c).v x && (chk2 b c).v y | _ => false; ⟨f, f⟩
  | .slice a lo hi, c => ⟨fun e => match e with | .Subscript x (.Slice l h none _) _ => (chk2 a c).v x && chkO lo (chk2 lo c).v l && chkO hi (chk2 hi c).v h | _ => false, fun _ => false⟩
  | .omit, _ => ⟨fun _ => false, fun _ => false⟩
  | .call f es, c => let g := fun e => match e with | .Call (.Name x _) (y :: ys) [] _ => decide (f = x) && c.fs.contains x && glB c x && arB c f (ys.length + 1) && chks es c (y :: ys) | _ => false; ⟨g, g⟩
  | .blt k es, c => let g := fun e => match e with | .Call (.Name x _) (y :: ys) [] _ => decide (x = k.name) && glB c x && chks es c (y :: ys) | _ => false; ⟨g, g⟩
  | .isi t a, c => let g := fun e => match e with | .Call (.Name x _) [y, .Name z _] [] _ => decide (x = "isinstance") && decide (z = t.name) && glB c x && glB c z && pln y && (chk2 a c).v y | _ => false; ⟨g, g⟩
  | .bltv k i, c => let g := fun e => match e with | .Call (.Name x _) [.Name y _] [] _ => decide (x = k.name) && glB c x && visB c i y | _ => false; ⟨g, g⟩
  | .subv i b, c => let g := fun e => match e with | .Subscript (.Name x _) y _ => pln y && visB c i x && (chk2 b c).v y | _ => false; ⟨g, g⟩
  | .cmpv k a i, c => let g := fun e => match e with | .Compare l [o] [.Name x _] _ => decide (o = k.op) && visB c i x && (chk2 a c).v l | _ => false; ⟨g, g⟩
  | .popv i b, c => ⟨fun e => match e with | .Call (.Attribute (.Name x _) m ap) [y] [] cp => decide (m = "pop") && (ap.endLine == cp.line) && visB c i x && pln y && (chk2 b c).v y | _ => false, fun _ => false⟩
  | .comp elt tg it cs, c => ⟨fun e => match e with
    | .ListComp el [⟨t, i, fs, 0⟩] sc _ => blkC c.N c.sc sc (tg.own c.N) && pln i && chkW it c t i && chkG { c with sc := relS sc c.sc, top := false } tg t && chkC cs { c with sc := relS sc c.sc, top := false } fs &&
        (chk2 elt { c with sc := relS sc c.sc, top := false }).v el
    | _ => false, fun _ => false⟩
  | .share a, c => ⟨(chk2 a c).v, fun _ => false⟩
  | .listrg b, c => ⟨fun e => match e with | .Call (.Name x _) [.Call (.Name y _) [z] [] _] [] _ => decide (x = "list") && decide (y = "range") && glB c x && glB c y && pln z && (chk2 b c).v z | _ => false, fun _ => false⟩
  | .lenset a, c => ⟨fun e => match e with | .Call (.Name x _) [.Call (.Name y _) [z] [] _] [] _ => decide (x = "len") && decide (y = "set") && glB c x && glB c y && pln z && (chk2 a c).v z | _ => false, fun _ => false⟩
  | .neg a, c => ⟨fun e => match e with | .UnaryOp .USub x _ => (chk2 a c).v x | _ => false, fun _ => false⟩
  | .never, _ => ⟨fun _ => true, fun _ => true⟩
  | .rev a, c => ⟨fun e => match xRev e with | some x => (chk2 a c).v x | none => false, fun _ => false⟩
  | .dic0 _, _ => ⟨fun e => match e with | .Dict [] [] _ => true | _ => false, fun _ => false⟩
  | .sortset a, c => ⟨fun e => match e with | .Call (.Name x _) [.Call (.Name y _) [z] [] _] [] _ => decide (x = "sorted") && decide (y = "set") && glB c x && glB c y && pln z && (chk2 a c).v z | _ => false, fun _ => false⟩
  | .mind a b, c => ⟨fun e => match e with | .Call (.Name x _) [y] [⟨some k, z, _⟩] _ => decide (x = "min") && decide (k = "default") && glB c x && pln y && (chk2 a c).v y && (chk2 b c).v z | _ => false, fun _ => false⟩
  | .mth k a es, c => let f := fun e => match xMeth e with
    | some (o, m, ap, l, p) => decide (m = k.name) && decide (l.length = k.ar) && (ap.endLine == p.line) && noSup o && (chk2 a c).v o && chks es c l
    | none => false; ⟨f, f⟩
  | .mthv k i es, c => let f := fun e => match xMeth e with
    | some (.Name y _, m, ap, l, p) => (decide (k = .get1) || decide (k = .get2)) && decide (m = k.name) && decide (l.length = k.ar) && (ap.endLine == p.line) && visB c i y && chks es c l
    | _ => false; ⟨f, f⟩
  | .fld cl f a, c => let g := fun e => match xAttr e with
    | some (o, f', _) => decide (f = f') && noSup o && c.cs.contains cl && c.ats.contains (cl, f) && (chk2 a c).v o
    | none => false; ⟨g, g⟩
  | .meth cl m f a es, c => let g := fun e => match xMeth e with
    | some (o, m', ap, l, p) => decide (m = m') && decide (l.length < 20) && (ap.endLine == p.line) && noSup o && c.ms.contains (f, cl, m) && arB c f (l.length + 1) && (chk2 a c).v o && chks es c l
    | none => false; ⟨g, g⟩
  | .make cl f es, c => let g := fun e => match xFn e with
    | some (x, _, l, _) => decide (x = cl) && c.ms.contains (f, cl, "__init__") && arB c f (l.length + 1) && glB c x && chks es c l
    | none => false; ⟨g, g⟩
  | .orv a b, c => ⟨fun e => match e with | .BoolOp .Or [x, y] _ => (chk2 a c).v x && (chk2 b c).v y | _ => false, fun _ => false⟩
  | .isc cl a, c => let g := fun e => match xFn e with
    | some (x, _, [y, .Name z _], _) => decide (x = "isinstance") && decide (z = cl) && c.cs.contains cl && glB c x && glB c z && pln y && (chk2 a c).v y
    | _ => false; ⟨g, g⟩
  | .cmpl k i b, c => let g := fun e => match xCmp e with
    | some (.Name x _, o, r) => decide (o = k.op) && pln r && visB c i x && (chk2 b c).v r
    | _ => false; ⟨g, g⟩
  | .tuprg b, c => ⟨fun e => match xFn e with
    | some (x, _, [y], _) => match xFn y with
      | some (y', _, [z], _) => decide (x = "tuple") && decide (y' = "range") && glB c x && glB c y' && pln z && (chk2 b c).v z
      | _ => false
    | _ => false, fun _ => false⟩
  | .disp k v, c => ⟨fun e => match e with | .Dict [some x] [y] _ => (chk2 k c).v x && (chk2 v c).v y | _ => false, fun _ => false⟩
def chks : Xs → SC → List Expr → Bool
  | .nil, _ => fun l => l.isEmpty
  | .cons e es, c => fun l => match l with | x :: xs => pln x && (chk2 e c).v x && chks es c xs | [] => false
def chkC : Xs → SC → List Expr → Bool
  | .nil, _ => fun l => l.isEmpty
  | .cons e es, c => match es with
    | .nil => fun l => match l with | [x] => (chk2 e c).t x | _ => false
    | .cons _ _ => fun _ => false
def chkW : Wk → SC → Expr → Expr → Bool
  | .seq e, c => fun _ x => (chk2 e c).v x
  | .rng1 a, c => fun _ x => match x with | .Call (.Name f _) [y] [] _ => decide (f = "range") && glB c f && pln y && (chk2 a c).v y | _ => false
  | .rng2 a b, c => fun _ x => match x with | .Call (.Name f _) [y, z] [] _ => decide (f = "range") && glB c f && pln y && pln z && (chk2 a c).v y && (chk2 b c).v z | _ => false
  | .enm a, c => fun t x => match t, x with | .Tuple _ _ _, .Call (.Name f _) [y] [] _ => decide (f = "enumerate") && glB c f && pln y && (chk2 a c).v y | _, _ => false
  | .zip a b, c => fun t x => match t, x with | .Tuple _ _ _, .Call (.Name f _) [y, z] [] _ => decide (f = "zip") && glB c f && pln y && pln z && (chk2 a c).v y && (chk2 b c).v z | _, _ => false
  | .rng3 a b d, c => fun _ x => match x with | .Call (.Name f _) [y, z, u] [] _ => decide (f = "range") && glB c f && pln y && pln z && pln u && (chk2 a c).v y && (chk2 b c).v z && (chk2 d c).v u | _ => false
end
def chk (c : SC) (m : Xp) (e : Expr) : Bool := (chk2 m c).v e
def chkT (c : SC) (m : Xp) (e : Expr) : Bool := (chk2 m c).t e

/-! ### what is known where a body runs -/
def spC (K : PySem.W.Frag) (mg : Str → Option Value) (m : List D → Store → RC) (ar : Nat) : Sp := fun vs H Q E => vs.length = ar ∧ ∃ g S ds, g.own = [] ∧ StR K mg g S H ∧ RDs K g H ds vs ∧ match m ds S with
  | .ok v S' => ∀ g' H' x, Keep g H g' H' → g'.own = [] → StR K mg g' S' H' → rV K mg g.tmp g' H' v x → Q x H'
  | .ex e S' => ∀ g' H' c d, Keep g H g' H' → g'.own = [] → StR K mg g' S' H' → g'.tmp = g.tmp → XR K mg g' H' e c d → E c d H'
  | .no => False
/-- a def's promise, where no repr is under way -/
structure FnG (prog : Program) (w : World) (K : PySem.W.Frag) (mg : Str → Option Value) (base : Heap) (n : Nat) (fa : Addr) (fd : FuncData) (qs : List Str) (sp : Sp) : Prop where
  ar : ∀ xs H Q E, sp xs H Q E → xs.length = qs.length
  go : ∀ (A : Around) (out : List Env) (s : Shared) (H : Hp) (ags : Args) (us : List Value) (xs : List V) (Q : VK) (E : XK), A.guards = some [] → Room n A → Env0 prog w K mg base A out s H →
    BindsTo s fd ags (qs.zip us) → Vals xs us → sp xs H Q E → codeAny (model prog w) A (.call (.ref fa) ags) (CR (L2.CX prog w) out prog w H s Q E) s
/-- a def that is called: how its parameters are bound, whatever number of them is written -/
def Callee0 (X : Cx) (cf : CF) (f : Str) (a : Addr) (k : Nat) (ar : Nat × Nat) : Prop := ∃ fd ps dD, FnG X.prog X.w X.K X.mg X.base k a fd ps (spC X.K X.mg (cf f) ps.length) ∧ ps.length = ar.2 ∧ (∀ n, ar.1 ≤ n → n ≤ ps.length → ps.length ≤ n + List.length dD ∧ ∃ dvs ds, Vals dvs ds ∧ Binds X.K fd ps ds ∧ (∀ g H, RDs X.K g H (dD.drop (n + dD.length - ps.length)) dvs)) ∧
    (∀ ds S, ds.length ≤ ps.length → ps.length ≤ ds.length + dD.length → cf f ds S = cf f (ds ++ dD.drop (ds.length + dD.length - ps.length)) S)
def Callee (X : Cx) (cf : CF) (f : Str) (ar : Nat × Nat) : Prop := ∃ k a, Callee0 X cf f a k ar ∧ Room k X.A ∧ X.mg f = some (.ref a) ∧ PySem.W.keepIn X.K (.ref a) = true
/-- a method of a class; an __init__ besides makes instances -/
def CalleeM (X : Cx) (cf : CF) (f cl m : Str) (ar : Nat × Nat) : Prop := ∃ k a C, Callee0 X cf f a k ar ∧ Room (k + 1) X.A ∧ X.mg cl = some (.ref C) ∧ Cls X.K C ∧ Meth X.K C m a ∧ (m = "__init__" → Mk X.K C a)
/-- no built-in data is an instance of it -/
def dataTys : List String := ["NoneType", "bool", "int", "str", "list", "tuple", "dict"]
def isClsB (K : PySem.W.Frag) (C : Addr) : Bool := dataTys.all fun T => decide (PySem.W.kitOne K (.type T) (.ref C) = some false)
def insClsB (K : PySem.W.Frag) (C : Addr) : Bool := decide (PySem.W.findIn K (.ref C) "__class__" = some (some (.builtin "object.__class__"))) && decide (PySem.W.specialIn K (.builtin "object.__class__") "__get__" = some (some (.builtin "getset_descriptor.__get__"))) &&
  decide (PySem.W.takesIn K (.builtin "object.__class__") = some true) && decide (PySem.W.mroIn K C (.type "object") = some true)
def IsCls (K : PySem.W.Frag) (C : Addr) : Prop := isClsB K C = true ∧ insClsB K C = true
def bltNames : List Str := ["len", "all", "any", "sum", "tuple", "list", "int", "max", "min", "repr", "isinstance", "bool", "str", "dict", "range", "enumerate", "zip", "sorted", "set"]
/-- an own exception class without an __init__ of its own -/
def ExcOk (X : Cx) (x : Str) : Prop := ∃ C, X.mg x = some (.ref C) ∧ PySem.W.excIn X.K C [.type "ValueError", .type "Exception", .type "BaseException", .type "object"] "ValueError.__new__" = true ∧
  PySem.W.keepIn X.K (.ref C) = true ∧ PySem.W.subIn X.K (.ref C) (.type "BaseException") = some true ∧ PySem.W.typeIn X.K (.ref C) = some (.type "type")
structure Good (c : SC) (X : Cx) (W : WX) (cf : CF) : Prop where
  sc : X.env.scope = c.sc
  N : X.N = c.N
  nd : c.N.Nodup
  calm : X.calm = true
  tk : Takes X W
  po : PassesOwn (model X.prog X.w) X.A X.env X.xe
  un : X.A.units + 100 < cLine
  gd : X.A.guards = some []
  fn : ∀ f, c.fs.contains f = true → Callee X cf f (c.ar f)
  blt : ∀ x ∈ bltNames, X.mg x = none
  gl : ∀ x d, c.gl x = some d → ∃ u v, X.mg x = some u ∧ RelV v u ∧ ∀ g H, RD X.K g H d v
  exc : ∀ x, c.xs.contains x = true → ExcOk X x
  ms : ∀ f cl m, c.ms.contains (f, cl, m) = true → CalleeM X cf f cl m (c.ar f)
  cs : ∀ cl, c.cs.contains cl = true → ∃ C, X.mg cl = some (.ref C) ∧ Cls X.K C ∧ IsCls X.K C
  ats : ∀ cl f, c.ats.contains (cl, f) = true → c.cs.contains cl = true → ∃ C, X.mg cl = some (.ref C) ∧ NoAttr X.K C f
  top : c.top = true → ∀ x, X.fn x = true

section
variable {X : Cx} {e : Expr} {es : List Expr}
theorem _root_.L2.PE.weak {t t' : TE} (h : PE X e t) (i : ∀ σ H Q, t' σ H Q → t σ H Q) : PE X e t' := ⟨fun pins s σ H Q I q => h.run pins s σ H Q I (i σ H Q q)⟩
theorem _root_.L2.PT.weak {t t' : TT} (h : PT X e t) (i : ∀ σ H Q, t' σ H Q → t σ H Q) : PT X e t' := ⟨fun pins s σ H Q I q => h.run pins s σ H Q I (i σ H Q q)⟩
theorem _root_.L2.PW.weak {t t' : TT} (h : PW X e t) (i : ∀ σ H Q, t' σ H Q → t σ H Q) : PW X e t' := ⟨fun w pins s σ H Q I q => h.run w pins s σ H Q I (i σ H Q q)⟩
theorem _root_.L2.PA.weak {t t' : TA} (h : PA X es t) (i : ∀ σ H Q, t' σ H Q → t σ H Q) : PA X es t' := ⟨fun pos pins s σ H Q I q => h.run pos pins s σ H Q I (i σ H Q q)⟩
theorem _root_.L2.PO.weak {o : Option Expr} {t t' : TO} (h : PO X o t) (i : ∀ σ H Q, t' σ H Q → t σ H Q) : PO X o t' := ⟨fun pins s σ H Q I q => h.run pins s σ H Q I (i σ H Q q)⟩
theorem _root_.L2.PTs.weak {t t' : TT} (h : PTs X es t) (i : ∀ σ H Q, t' σ H Q → t σ H Q) : PTs X es t' := ⟨fun pins s σ H Q I q => h.run pins s σ H Q I (i σ H Q q)⟩
theorem _root_.L2.PG.weak {t t' : TG} (h : PG X e t) (i : ∀ v σ H Q, t' v σ H Q → t v σ H Q) : PG X e t' := ⟨fun pins s σ H v u Q I r q => h.run pins s σ H v u Q I r (i v σ H Q q)⟩
theorem _root_.L2.PGs.weak {t t' : TGs} (h : PGs X es t) (i : ∀ v σ H Q, t' v σ H Q → t v σ H Q) : PGs X es t' := ⟨fun pins s σ H v u Q I r q => h.run pins s σ H v u Q I r (i v σ H Q q)⟩
theorem _root_.L2.PI.weak {tg : Expr} {t t' : TI} (h : PI X tg e t) (i : ∀ σ H R, t' σ H R → t σ H R) : PI X tg e t' := ⟨fun pins s σ H R I q => h.run pins s σ H R I (i σ H R q)⟩
theorem _root_.L2.PI.or {tg : Expr} {t t' : TI} (h : PI X tg e t) (h' : PI X tg e t') : PI X tg e (fun σ H R => t σ H R ∨ t' σ H R) := ⟨fun pins s σ H R I q => q.elim (h.run pins s σ H R I) (h'.run pins s σ H R I)⟩
theorem _root_.L2.PS.weak {st : Stmt} {t t' : TS} (h : PS X st t) (i : ∀ D σ H, t' D σ H → t D σ H) : PS X st t' := ⟨fun pins s σ H D I q => h.run pins s σ H D I (i D σ H q)⟩
theorem _root_.L2.PSs.weak {st : List Stmt} {t t' : TS} (h : PSs X st t) (i : ∀ D σ H, t' D σ H → t D σ H) : PSs X st t' := ⟨fun pins s σ H D I q => h.run pins s σ H D I (i D σ H q)⟩
theorem pln_star (h : pln e = true) (env : Env) : starEach (e :: es) env = (false, eval e env) :: starEach es env := by
  cases e <;> first | rfl | cases h
theorem pln_sub (h : pln e = true) : PlainIx e := by
  intro o i
  cases e <;> first | rfl | cases h
theorem pln_in (h : pln e = true) (op : CmpOp) : behindInMarks op e = false := by
  cases e <;> first | rfl | cases h
theorem pln_fold (h : pln e = true) (env : Env) (x : Value) : foldedSetIterable e env x = pure x := by
  cases e <;> first | rfl | cases h
theorem pln_last (h : pln e = true) (o o' : CmpOp) (y : Expr) : lastMarks [o, o'] [y, e] = false := pln_in h o'
theorem chks_plain {c : SC} : ∀ (ms : Xs) (es : List Expr), chks ms c es = true → ∀ (env : Env) (pos : Pos), (backTo pos (starEach es env)).any (·.1) = false
  | .nil, [], _, _, _ => rfl
  | .nil, _ :: _, h, _, _ => nomatch h
  | .cons _ _, [], h, _, _ => nomatch h
  | .cons m ms, x :: xs, h, env, pos => by
    have h' : (pln x && chk c m x && chks ms c xs) = true := h
    rw [Bool.and_eq_true, Bool.and_eq_true] at h'
    rw [pln_star h'.1.1 env]
    have ih := chks_plain ms xs h'.2 env pos
    show (false || _) = false
    exact ih
theorem frzPE {K : PySem.W.Frag} {mg : Str → Option Value} {W : WX} {f : Frame → Store → RX Val} (h : PE X e (tX K mg W (rV K mg) f)) : PE X e (tX K mg W (rD K) fun fr S => frzX (f fr S)) :=
  h.weak fun _ _ _ ⟨g, fr, S, rel, a⟩ => ⟨g, fr, S, rel, a.frz⟩
end
section
variable {c : SC} {X : Cx} {W : WX} {cf : CF}
theorem Good.noat (G : Good c X W cf) {cl f : Str} {C : Addr} (h : c.ats.contains (cl, f) = true) (h2 : c.cs.contains cl = true) (hC : X.mg cl = some (.ref C)) : NoAttr X.K C f := by
  obtain ⟨C2, e, n⟩ := G.ats cl f h h2
  rw [hC] at e; cases e; exact n
theorem Good.vis (G : Good c X W cf) {i : Nat} {x : Str} (h : visB c i x = true) : X.N[i]? = some x ∧ Vis X.env.scope x ∧ (x == ("__debug__" : Str)) = false ∧ (x == ("__classdict__" : Str)) = false := by
  unfold visB at h
  rw [Bool.and_eq_true, Bool.and_eq_true, Bool.and_eq_true, decide_eq_true_iff, Bool.not_eq_true', Bool.not_eq_true'] at h
  obtain ⟨⟨⟨h1, h2⟩, h3⟩, h4⟩ := h
  refine ⟨by rw [G.N]; exact h1, ?_, h3, h4⟩
  unfold Vis
  rw [G.sc]
  cases e : c.sc.names.lookup x with
  | none => rw [e] at h2; cases h2
  | some k =>
    rw [e] at h2
    cases k with
    | «local» => exact .inl rfl
    | cell => exact .inr (.inl rfl)
    | free => exact .inr (.inr rfl)
    | globalExplicit => cases h2
    | globalImplicit => cases h2
theorem Good.glob (G : Good c X W cf) {x : Str} (h : glB c x = true) : Gl X x ∧ (x == ("__debug__" : Str)) = false := by
  unfold glB at h
  rw [Bool.and_eq_true, Bool.not_eq_true'] at h
  refine ⟨?_, h.2⟩
  show X.env.scope.names.lookup x = some .globalImplicit
  rw [G.sc]
  have h2 := h.1
  cases e : c.sc.names.lookup x with
  | none => rw [e] at h2; cases h2
  | some k =>
    rw [e] at h2
    cases k <;> first | rfl | cases h2
/-- where a comprehension's block runs -/
theorem Good.blk (G : Good c X W cf) (sc : Scope) (s : Shared) (H : Hp) (C : Addr) (cl : List (Str × Addr)) (fp : List Addr) :
    Good { c with sc := relS sc c.sc, top := false } (X.blk s H sc (compEnvC sc cl C X.env) fp) (fun _ _ _ _ => False) cf where
  sc := by
    show relabel sc X.env = relS sc c.sc
    rw [← G.sc]; rfl
  N := G.N
  nd := G.nd
  calm := G.calm
  tk := fun u s' x => by
    obtain ⟨_, _, _, _, _, _, _, _, _, _, _, _, _, _, _, _, z⟩ := x
    exact z
  po := PassesOwn.never
  un := G.un
  gd := G.gd
  fn := G.fn
  blt := G.blt
  gl := G.gl
  exc := G.exc
  ms := G.ms
  cs := G.cs
  ats := G.ats
  top := fun z => nomatch z
end
end Eng
end

section
/-! The engine, part H: an expression of the text does what the function says, construct by construct. -/
namespace Eng
open PySem PySem.Spec PyProof.Rows L2

abbrev tV (c : SC) (X : Cx) (W : WX) (cf : CF) (m : Xp) : TE := tX X.K X.mg W (rV X.K X.mg) (ev cf c.gl m)
abbrev tF (c : SC) (X : Cx) (W : WX) (cf : CF) (m : Xp) : TE := tX X.K X.mg W (rD X.K) (fun fr S => frzX (ev cf c.gl m fr S))
abbrev tTs (c : SC) (X : Cx) (W : WX) (cf : CF) (m : Xp) : TT := tX X.K X.mg W rId (evT cf c.gl m)
abbrev tAs (c : SC) (X : Cx) (W : WX) (cf : CF) (m : Xs) : TA := tX X.K X.mg W (rDs X.K) (evs cf c.gl m)

section
variable {c : SC} {X : Cx} {W : WX} {cf : CF} {pos : Pos}
theorem se_con (d : D) {k : Const} {j : Nat} (h : conOk d k = true) : PE X (.Constant k j pos) (tV c X W cf (.con d)) := by
  cases d <;> cases k <;> first | cases h | skip
  · exact pe_non.weak fun σ H Q ⟨g, fr, S, rel, a⟩ => fin_old a rel .non
  · rename_i b k
    have h' : (b == k) = true := h
    obtain rfl : b = k := by simpa using h'
    exact pe_bl.weak fun σ H Q ⟨g, fr, S, rel, a⟩ => fin_old a rel (.bl _)
  · rename_i b k
    obtain rfl : b = k := of_decide_eq_true h
    exact pe_int.weak fun σ H Q ⟨g, fr, S, rel, a⟩ => fin_old a rel (.int _)
  · rename_i b k
    obtain rfl : b = k := of_decide_eq_true h
    exact pe_str.weak fun σ H Q ⟨g, fr, S, rel, a⟩ => fin_old a rel (.str _)

theorem varX_own {i : Nat} {fr : Frame} {S : Store} {cl : Cell} {d : D} (e : fr[i]? = some (some (.own cl))) (h : cl.frz = some d) : varX i fr S = .ok (.fz d) (fr.set i (some (.fz d))) S := by
  unfold varX; rw [e]; dsimp only; rw [h]
theorem se_var (G : Good c X W cf) {i : Nat} {x : Str} (h : visB c i x = true) : PE X (.Name x pos) (tV c X W cf (.var i)) := by
  obtain ⟨h1, h2, h3, h4⟩ := G.vis h
  refine (pe_var h1 h2 h3 h4).weak fun σ H Q ⟨g, fr, S, rel, a⟩ => ?_
  have a' : Aft X.K X.mg W (rV X.K X.mg) g H σ (varX i fr S) Q := a
  cases e : fr[i]? with
  | none => unfold varX at a'; rw [e] at a'; exact a'.elim
  | some o =>
    cases o with
    | none => unfold varX at a'; rw [e] at a'; exact a'.elim
    | some v =>
      obtain ⟨x, e1, s⟩ := rel.slot i v e
      cases v with
      | fz d =>
        unfold varX at a'; rw [e] at a'
        exact ⟨x, e1, fin_old a' rel s⟩
      | own cl =>
        cases q : cl.frz with
        | none => unfold varX at a'; rw [e] at a'; dsimp only at a'; rw [q] at a'; exact a'.elim
        | some d =>
          rw [varX_own e q] at a'
          obtain ⟨g', k', rel', t', r'⟩ := rel.freeze e q e1
          exact ⟨x, e1, a' g' H x k' rel' ⟨t', r'⟩⟩
theorem se_glo (G : Good c X W cf) {x : Str} (h : glB c x = true) : PE X (.Name x pos) (tV c X W cf (.glo x)) := by
  obtain ⟨h1, h2⟩ := G.glob h
  cases e : c.gl x with
  | none =>
    refine ⟨fun pins s σ H Q I ⟨g, fr, S, rel, a⟩ => ?_⟩
    have a' : Aft X.K X.mg W (rV X.K X.mg) g H σ (RX.lift ((c.gl x).map Val.fz) fr S) Q := a
    rw [e] at a'
    exact a'.elim
  | some d =>
    obtain ⟨u, v, hm, hr, hd⟩ := G.gl x d e
    refine (pe_glob h1 hm hr h2).weak fun σ H Q ⟨g, fr, S, rel, a⟩ => ?_
    have a' : Aft X.K X.mg W (rV X.K X.mg) g H σ (RX.lift ((c.gl x).map Val.fz) fr S) Q := a
    rw [e] at a'
    exact fin_old a' rel (hd g H)

variable {a b d : Xp} {l r z : Expr}
theorem se_bin (k : BK) (ha : PE X l (tV c X W cf a)) (hb : PE X r (tV c X W cf b)) : PE X (.BinOp l k.op r pos) (tV c X W cf (.bin k a b)) := by
  refine (pe_op (op_bin (W := W) k) (frzPE ha) (frzPE hb)).weak fun σ H Q ⟨g, fr, S, rel, h⟩ => ⟨g, fr, S, rel, ?_⟩
  refine (Aft.bind rD_tmp h).imp fun x H1 ⟨d1, fr1, S1, g1, k1, rel1, r1, t1, h1⟩ => ⟨g1, fr1, S1, rel1, ?_⟩
  refine (Aft.bind rD_tmp h1).imp fun y H2 ⟨d2, fr2, S2, g2, k2, rel2, r2, t2, h2⟩ => ?_
  exact ⟨g2, fr2, S2, σ, _, _, rel2, vw_look rel2.st (r1.2.mono k2.mono), vw_look rel2.st r2.2, h2⟩
theorem wk_cmp (k : CK) : ∀ σ H Q, tV c X W cf (.cmp k a b) σ H Q → tOp (rCmp X W k) (tF c X W cf a) (tF c X W cf b) σ H Q := fun σ H Q ⟨g, fr, S, rel, h⟩ => by
  refine ⟨g, fr, S, rel, ?_⟩
  refine (Aft.bind rD_tmp h).imp fun x H1 ⟨d1, fr1, S1, g1, k1, rel1, r1, t1, h1⟩ => ⟨g1, fr1, S1, rel1, ?_⟩
  refine (Aft.bind rD_tmp h1).imp fun y H2 ⟨d2, fr2, S2, g2, k2, rel2, r2, t2, h2⟩ => ?_
  exact ⟨g2, fr2, S2, σ, _, _, rel2, vw_look rel2.st (r1.2.mono k2.mono), vw_look rel2.st r2.2, h2⟩
theorem hu_of' (G : Good c X W cf) : X.A.units + 66 < cLine := by have := G.un; omega
theorem se_cmp (G : Good c X W cf) (k : CK) (ha : PE X l (tV c X W cf a)) (hb : PE X r (tV c X W cf b)) (hp : pln r = true) : PE X (.Compare l [k.op] [r] pos) (tV c X W cf (.cmp k a b)) :=
  (pe_cmpR (op_cmp (W := W) (hu_of' G) k) (frzPE ha) (frzPE hb) (pln_in hp _)).weak (wk_cmp k)
theorem wk_chain (k m : CK) : ∀ σ H Q, tV c X W cf (.chain k m a b d) σ H Q → tChain (rCmp X W k) (rCmp X W m) (tF c X W cf a) (tF c X W cf b) (tF c X W cf d) σ H Q := fun σ H Q ⟨g, fr, S, rel, h⟩ => by
  refine ⟨g, fr, S, rel, ?_⟩
  refine (Aft.bind rD_tmp h).imp fun x H1 ⟨d1, fr1, S1, g1, k1, rel1, r1, t1, h1⟩ => ⟨g1, fr1, S1, rel1, ?_⟩
  refine (Aft.bind rD_tmp h1).imp fun y H2 ⟨d2, fr2, S2, g2, k2, rel2, r2, t2, h2⟩ => ?_
  refine ⟨g2, fr2, S2, σ, look S2 d1, look S2 d2, rel2, vw_look rel2.st (r1.2.mono k2.mono), vw_look rel2.st r2.2, ?_⟩
  cases e : cmpD k (look S2 d1) (look S2 d2) with
  | none => rw [e] at h2; exact h2.elim
  | some t =>
    rw [e] at h2
    intro g3 H3 x3 k3 rel3 r3
    obtain rfl := RD.of_bl r3.2
    refine ⟨t, rfl, ?_⟩
    cases t with
    | true =>
      refine iteT ?_
      refine ⟨g3, fr2, S2, rel3, ?_⟩
      refine (Aft.bind rD_tmp (Aft.shift k3 r3.1 h2)).imp fun w H4 ⟨d4, fr4, S4, g4, k4, rel4, r4, t4, h4⟩ => ?_
      exact ⟨g4, fr4, S4, σ, _, _, rel4, vw_look rel4.st ((r2.2.mono k3.mono).mono k4.mono), vw_look rel4.st r4.2, h4⟩
    | false =>
      refine iteF ?_
      exact h2 g3 H3 _ k3 rel3 ⟨r3.1, .bl _⟩
theorem se_chain (G : Good c X W cf) (k m : CK) (ha : PE X l (tV c X W cf a)) (hb : PE X r (tV c X W cf b)) (hd : PE X z (tV c X W cf d)) (hp : pln z = true) : PE X (.Compare l [k.op, m.op] [r, z] pos) (tV c X W cf (.chain k m a b d)) :=
  (pe_chain (op_cmp (W := W) (hu_of' G) k) (op_cmp (W := W) (hu_of' G) m) (frzPE ha) (frzPE hb) (frzPE hd) (pln_last hp _ _ _)).weak (wk_chain k m)
theorem se_not (ha : PE X l (tV c X W cf a)) : PE X (.UnaryOp .Not l pos) (tV c X W cf (.not a)) := by
  refine (pe_not (frzPE ha)).weak fun σ H Q ⟨g, fr, S, rel, h⟩ => ⟨g, fr, S, rel, ?_⟩
  refine (Aft.bind rD_tmp h).imp fun x H1 ⟨d1, fr1, S1, g1, k1, rel1, r1, t1, h1⟩ => ?_
  cases d1 with
  | bl t =>
    obtain rfl := RD.of_bl r1.2
    exact ⟨t, rfl, fin_old h1 rel1 (.bl _)⟩
  | _ => exact h1.elim
theorem wk_and : ∀ σ H Q, tV c X W cf (.and a b) σ H Q → tAndV (tF c X W cf a) (tV c X W cf b) σ H Q := fun σ H Q ⟨g, fr, S, rel, h⟩ => by
  refine ⟨g, fr, S, rel, ?_⟩
  refine (Aft.bind rD_tmp h).imp fun x H1 ⟨d1, fr1, S1, g1, k1, rel1, r1, t1, h1⟩ => ?_
  cases d1 with
  | bl t =>
    obtain rfl := RD.of_bl r1.2
    refine ⟨t, rfl, ?_⟩
    cases t with
    | true => exact iteT ⟨g1, fr1, S1, rel1, h1⟩
    | false => exact iteF (fin_old h1 rel1 (.bl _))
  | _ => exact h1.elim
theorem wk_or : ∀ σ H Q, tV c X W cf (.or a b) σ H Q → tOrV (tF c X W cf a) (tV c X W cf b) σ H Q := fun σ H Q ⟨g, fr, S, rel, h⟩ => by
  refine ⟨g, fr, S, rel, ?_⟩
  refine (Aft.bind rD_tmp h).imp fun x H1 ⟨d1, fr1, S1, g1, k1, rel1, r1, t1, h1⟩ => ?_
  cases d1 with
  | bl t =>
    obtain rfl := RD.of_bl r1.2
    refine ⟨t, rfl, ?_⟩
    cases t with
    | true => exact iteT (fin_old h1 rel1 (.bl _))
    | false => exact iteF ⟨g1, fr1, S1, rel1, h1⟩
  | _ => exact h1.elim
theorem se_and1 (ha : PE X l (tV c X W cf a)) (hb : PE X r (tV c X W cf b)) : PE X (.BoolOp .And [l, r] pos) (tV c X W cf (.and a b)) := (pe_and (frzPE ha) (pe_one hb)).weak wk_and
theorem se_and {rs : List Expr} (ha : PE X l (tV c X W cf a)) (hb : PE X (.BoolOp .And (r :: z :: rs) pos) (tV c X W cf b)) : PE X (.BoolOp .And (l :: r :: z :: rs) pos) (tV c X W cf (.and a b)) := (pe_and (frzPE ha) hb).weak wk_and
theorem se_or1 (ha : PE X l (tV c X W cf a)) (hb : PE X r (tV c X W cf b)) : PE X (.BoolOp .Or [l, r] pos) (tV c X W cf (.or a b)) := (pe_or (frzPE ha) (pe_one hb)).weak wk_or
theorem se_or {rs : List Expr} (ha : PE X l (tV c X W cf a)) (hb : PE X (.BoolOp .Or (r :: z :: rs) pos) (tV c X W cf b)) : PE X (.BoolOp .Or (l :: r :: z :: rs) pos) (tV c X W cf (.or a b)) := (pe_or (frzPE ha) hb).weak wk_or
theorem se_ife (hd : PT X z (tTs c X W cf d)) (ha : PE X l (tV c X W cf a)) (hb : PE X r (tV c X W cf b)) : PE X (.IfExp z l r pos) (tV c X W cf (.ife d a b)) := by
  refine (pe_ifExp hd ha hb).weak fun σ H Q ⟨g, fr, S, rel, h⟩ => ⟨g, fr, S, rel, ?_⟩
  refine (Aft.bind rId_tmp h).imp fun x H1 ⟨t, fr1, S1, g1, k1, rel1, r1, t1, h1⟩ => ?_
  obtain ⟨_, rfl⟩ := r1
  cases t with
  | true => exact iteT ⟨g1, fr1, S1, rel1, h1⟩
  | false => exact iteF ⟨g1, fr1, S1, rel1, h1⟩

/-! ### lists of expressions -/
theorem sa_nil : PA X [] (tAs c X W cf .nil) := pa_nil.weak fun σ H Q ⟨g, fr, S, rel, h⟩ => h g H [] Keep.refl rel ⟨rfl, .nil⟩
theorem sa_cons {ms : Xs} {es : List Expr} (ha : PE X l (tV c X W cf a)) (hb : PA X es (tAs c X W cf ms)) (hp : pln l = true) : PA X (l :: es) (tAs c X W cf (.cons a ms)) := by
  refine (pa_cons (frzPE ha) hb (pln_star hp _)).weak fun σ H Q ⟨g, fr, S, rel, h⟩ => ⟨g, fr, S, rel, ?_⟩
  refine (Aft.bind rD_tmp h).imp fun x H1 ⟨d1, fr1, S1, g1, k1, rel1, r1, t1, h1⟩ => ⟨g1, fr1, S1, rel1, ?_⟩
  refine (Aft.bind rDs_tmp h1).imp fun y H2 ⟨d2, fr2, S2, g2, k2, rel2, r2, t2, h2⟩ => ?_
  exact h2 g2 H2 _ Keep.refl rel2 ⟨rfl, .cons (r1.2.mono k2.mono) r2.2⟩
theorem se_tup {ms : Xs} {es : List Expr} {k : Nat} (h : PA X es (tAs c X W cf ms)) : PE X (.Tuple es k pos) (tV c X W cf (.tup ms)) := by
  refine (pe_tup h).weak fun σ H Q ⟨g, fr, S, rel, h⟩ => ⟨g, fr, S, rel, ?_⟩
  refine (Aft.bind rDs_tmp h).imp fun x H1 ⟨ds, fr1, S1, g1, k1, rel1, r1, t1, h1⟩ => ?_
  by_cases hz : ds.length ≤ sizeLine
  · rw [if_pos hz] at h1
    exact ⟨by rw [← r1.2.length]; exact hz, fun p hp => fin_tup h1 rel1 r1.2 hp⟩
  · rw [if_neg hz] at h1
    exact h1.elim
theorem se_lst {ms : Xs} {es : List Expr} (h : PA X es (tAs c X W cf ms)) : PE X (.List es pos) (tV c X W cf (.lst ms)) := by
  refine (pe_lst h).weak fun σ H Q ⟨g, fr, S, rel, h⟩ => ⟨g, fr, S, rel, ?_⟩
  refine (Aft.bind rDs_tmp h).imp fun x H1 ⟨ds, fr1, S1, g1, k1, rel1, r1, t1, h1⟩ => ?_
  by_cases hz : ds.length ≤ sizeLine
  · rw [if_pos hz] at h1
    exact ⟨by rw [← r1.2.length]; exact hz, fun p hp => fin_lst h1 rel1 r1.2 hp⟩
  · rw [if_neg hz] at h1
    exact h1.elim
theorem se_sub (G : Good c X W cf) (ha : PE X l (tV c X W cf a)) (hb : PE X r (tV c X W cf b)) (hp : pln r = true) : PE X (.Subscript l r pos) (tV c X W cf (.sub a b)) := by
  refine (pe_ix (ix_sub (W := W) (hu_of' G)) (frzPE ha) (frzPE hb) (pln_sub hp)).weak fun σ H Q ⟨g, fr, S, rel, h⟩ => ⟨g, fr, S, rel, ?_⟩
  refine (Aft.bind rD_tmp h).imp fun x H1 ⟨d1, fr1, S1, g1, k1, rel1, r1, t1, h1⟩ => ⟨g1, fr1, S1, rel1, ?_⟩
  refine (Aft.bind rD_tmp h1).imp fun y H2 ⟨d2, fr2, S2, g2, k2, rel2, r2, t2, h2⟩ => ?_
  exact ⟨g2, fr2, S2, σ, _, _, rel2, vw_look rel2.st (r1.2.mono k2.mono), r2.2, h2⟩
theorem so_any {o : Option Expr} (h : o = none ∧ a = .omit ∨ ∃ x, o = some x ∧ a ≠ .omit ∧ PE X x (tV c X W cf a)) : PO X o (tX X.K X.mg W rId (evO a (ev cf c.gl a))) := by
  rcases h with ⟨rfl, rfl⟩ | ⟨x, rfl, hn, hx⟩
  · exact po_none.weak fun σ H Q ⟨g, fr, S, rel, h⟩ => h g H none Keep.refl rel ⟨rfl, rfl⟩
  · refine (po_some (frzPE hx)).weak fun σ H Q ⟨g, fr, S, rel, h⟩ => ⟨g, fr, S, rel, ?_⟩
    have h' : Aft X.K X.mg W rId g H σ ((frzX (ev cf c.gl a fr S)).bind fun x fr S => RX.lift ((optI x).map some) fr S) Q := by
      cases a <;> first | exact absurd rfl hn | exact h
    refine (Aft.bind rD_tmp h').imp fun x H1 ⟨d1, fr1, S1, g1, k1, rel1, r1, t1, h1⟩ => ?_
    cases d1 with
    | int i =>
      obtain rfl := RD.of_int r1.2
      exact ⟨i, rfl, h1 g1 H1 _ Keep.refl rel1 ⟨rfl, rfl⟩⟩
    | _ => exact h1.elim
theorem se_slice {lo hi : Xp} {ol oh : Option Expr} {p2 : Pos} (ha : PE X l (tV c X W cf a)) (hl : PO X ol (tX X.K X.mg W rId (evO lo (ev cf c.gl lo)))) (hh : PO X oh (tX X.K X.mg W rId (evO hi (ev cf c.gl hi)))) :
    PE X (.Subscript l (.Slice ol oh none p2) pos) (tV c X W cf (.slice a lo hi)) := by
  refine (pe_slice (sl_any (W := W)) (frzPE ha) hl hh).weak fun σ H Q ⟨g, fr, S, rel, h⟩ => ⟨g, fr, S, rel, ?_⟩
  refine (Aft.bind rD_tmp h).imp fun x H1 ⟨d1, fr1, S1, g1, k1, rel1, r1, t1, h1⟩ => ⟨g1, fr1, S1, rel1, ?_⟩
  refine (Aft.bind rId_tmp h1).imp fun y H2 ⟨d2, fr2, S2, g2, k2, rel2, r2, t2, h2⟩ => ⟨g2, fr2, S2, rel2, ?_⟩
  refine (Aft.bind rId_tmp h2).imp fun w H3 ⟨d3, fr3, S3, g3, k3, rel3, r3, t3, h3⟩ => ?_
  obtain ⟨_, rfl⟩ := r2
  obtain ⟨_, rfl⟩ := r3
  exact ⟨g3, fr3, S3, σ, _, rel3, vw_look rel3.st ((r1.2.mono k2.mono).mono k3.mono), h3⟩

/-! ### calls -/
/-- the caller's own objects are the callee's strangers -/
abbrev Gh.down (g : Gh) : Gh := ⟨g.rho, [], g.own ++ g.tmp⟩
theorem down_av {g : Gh} {x : Addr} : g.down.av x ↔ g.av x := by
  constructor
  · intro z
    rcases z with z | z | z
    · exact .inl z
    · exact nomatch z
    · rcases List.mem_append.mp z with z | z
      · exact .inr (.inl z)
      · exact .inr (.inr z)
  · intro z
    rcases z with z | z | z
    · exact .inl z
    · exact .inr (.inr (List.mem_append.mpr (.inl z)))
    · exact .inr (.inr (List.mem_append.mpr (.inr z)))
theorem mono_down {K : PySem.W.Frag} {g : Gh} {H : Hp} : Mono K g H g.down H := Mono.less (fun _ z => down_av.mp z) fun _ _ z => z
theorem Rel.down {K : PySem.W.Frag} {mg : Str → Option Value} {g : Gh} {fr : Frame} {S : Store} {σ : L2.St} {H : Hp} (r : Rel K mg g fr S σ H) : StR K mg g.down S H :=
  ⟨r.st.len, r.st.nd, fun n c a e q => (r.st.cell n c a e q).mono mono_down rfl, fun a z => ⟨fun w => (nomatch w), fun w => (List.mem_append.mp w).elim (r.st.rt a z).1 (r.st.rt a z).2⟩, fun a z => (nomatch z), fun a z => r.st.tr a (down_av.mp z)⟩
/-- back in the caller -/
theorem Rel.up {K : PySem.W.Frag} {mg : Str → Option Value} {g g' : Gh} {fr : Frame} {S S' : Store} {σ : L2.St} {H H' : Hp} {t : List Addr} (r : Rel K mg g fr S σ H) (k : Keep g.down H g' H') (st : StR K mg g' S' H') (e0 : g'.own = [])
    (et : g'.tmp = t ++ (g.own ++ g.tmp)) (nt : ∀ a ∈ t, a ∉ g.own ∧ a ∉ g.tmp) : Keep g H ⟨g'.rho, g.own, t ++ g.tmp⟩ H' ∧ Rel K mg ⟨g'.rho, g.own, t ++ g.tmp⟩ fr S' σ H' ∧ Mono K g' H' ⟨g'.rho, g.own, t ++ g.tmp⟩ H' := by
  have av1 : ∀ x, Gh.av ⟨g'.rho, g.own, t ++ g.tmp⟩ x → g'.av x := fun x z => by
    rcases z with z | z | z
    · exact .inl z
    · exact .inr (.inr (by rw [et]; exact List.mem_append.mpr (.inr (List.mem_append.mpr (.inl z)))))
    · rcases List.mem_append.mp z with z | z
      · exact .inr (.inr (by rw [et]; exact List.mem_append.mpr (.inl z)))
      · exact .inr (.inr (by rw [et]; exact List.mem_append.mpr (.inr (List.mem_append.mpr (.inr z)))))
  have m : Mono K g' H' ⟨g'.rho, g.own, t ++ g.tmp⟩ H' := Mono.less av1 fun _ _ z => z
  have kp : Keep g H ⟨g'.rho, g.own, t ++ g.tmp⟩ H' := by
    refine ⟨fun a o h h1 h2 => ?_, fun a o h h1 h2 z => ?_, k.tups, k.pre⟩
    · obtain ⟨q1, q2, q3⟩ := k.keep a o h h1 (fun w => nomatch w)
      exact ⟨q1, q2, h2⟩
    · rcases List.mem_append.mp z with w | w
      · have := k.tmp a o h h1 (fun w => nomatch w) (by rw [et]; exact List.mem_append.mpr (.inl w))
        rcases List.mem_append.mp this with y | y
        · exact absurd y (nt a w).1
        · exact y
      · exact w
  refine ⟨kp, ⟨r.len, fun i v e => ?_, r.apart, ⟨st.len, st.nd, fun n c a e q => (st.cell n c a e q).mono m rfl, fun a z => ⟨fun w => ?_, fun w => ?_⟩, fun a z w => ?_, fun a z => st.tr a (av1 a z)⟩⟩, m⟩
  · obtain ⟨x, e1, s⟩ := r.slot i v e
    refine ⟨x, e1, ?_⟩
    cases v with
    | fz d => exact RD.mono kp.mono s
    | own cl =>
      obtain ⟨a, e2, ha, hc⟩ := s
      refine ⟨a, e2, ha, hc.mono kp.mono ?_⟩
      obtain ⟨o, ho, _⟩ := hc.some_of
      rw [(k.keep a o ho (fun w => (r.st.rt a w).1 ha) (fun w => nomatch w)).1, ho]
  · exact (st.rt a z).2 (by rw [et]; exact List.mem_append.mpr (.inr (List.mem_append.mpr (.inl w))))
  · refine (st.rt a z).2 ?_
    rw [et]
    rcases List.mem_append.mp w with w | w
    · exact List.mem_append.mpr (.inl w)
    · exact List.mem_append.mpr (.inr (List.mem_append.mpr (.inr w)))
  · rcases List.mem_append.mp w with w | w
    · exact (nt a w).1 z
    · exact r.st.ot a z w
theorem XR.mono {K : PySem.W.Frag} {mg : Str → Option Value} {g g' : Gh} {H : Hp} {e : Ex} {cl : Value} {d : Option Addr} (m : Mono K g H g' H) (h : XR K mg g H e cl d) : XR K mg g' H e cl d := by
  obtain ⟨h1, vs, h2, h3, h4⟩ := h
  exact ⟨h1, vs, h2.mono m, h3, h4⟩
/-- the promise of a call, from what is wanted behind it -/
theorem call_sp {g : Gh} {fr : Frame} {S : Store} {σ : L2.St} {H : Hp} {Q : VK} {m : List D → Store → RC} {ds : List D} {vs : List V} {ar : Nat} (rel : Rel X.K X.mg g fr S σ H) (r : RDs X.K g H ds vs) (hl : ds.length ≠ ar → m ds S = .no)
    (h : Aft X.K X.mg W (rV X.K X.mg) g H σ ((m ds S).back fr) Q) : spC X.K X.mg m ar vs H Q (WE W σ) := by
  have hlen : vs.length = ar := by
    by_cases e : ds.length = ar
    · rw [← r.length]; exact e
    · rw [hl e] at h; exact h.elim
  refine ⟨hlen, g.down, S, ds, rfl, rel.down, r.mono mono_down, ?_⟩
  cases e : m ds S with
  | no => rw [e] at h; exact h
  | ok v S' =>
    rw [e] at h
    intro g' H' x k e0 st rv
    cases v with
    | fz d =>
      obtain ⟨et, rd⟩ := rv
      obtain ⟨k', rel', m'⟩ := rel.up (t := []) k st e0 et (fun _ z => nomatch z)
      exact h _ H' x k' rel' ⟨rfl, rd.mono m'⟩
    | own cl =>
      obtain ⟨a, rfl, et, na, hc⟩ := rv
      obtain ⟨k', rel', m'⟩ := rel.up (t := [a]) k st e0 et (fun b z => by
        obtain rfl : b = a := List.mem_singleton.mp z
        exact ⟨fun w => na (List.mem_append.mpr (.inl w)), fun w => na (List.mem_append.mpr (.inr w))⟩)
      exact h _ H' _ k' rel' ⟨a, rfl, rfl, fun w => na (List.mem_append.mpr (.inr w)), hc.mono m' rfl⟩
  | ex e' S' =>
    rw [e] at h
    intro g' H' cl d k e0 st et xr
    obtain ⟨k', rel', m'⟩ := rel.up (t := []) k st e0 et (fun _ z => nomatch z)
    exact h _ H' cl d k' rel' rfl (xr.mono m')
/-- the callee runs, and gives up to what is wanted -/
theorem run_G {n : Nat} {fa : Addr} {fd : FuncData} {qs : List Str} {sp : Sp} {E : XK} {dvs : List V} {ds : List Value} {pn : List (Addr × Obj)} {σ : L2.St} {H : Hp} {s : Shared} {Q : VK} {us : List Value} {xs : List V} (F : FnG X.prog X.w X.K X.mg X.base n fa fd qs sp) (hq : X.A.guards = some []) (hr : Room n X.A)
    (hb : Binds X.K fd qs ds) (hd : Vals dvs ds) (hx : PassesAt (L2.CX X.prog X.w) X σ E) (J : Inv X pn σ H s) (rx : Vals xs us) (hs : sp (xs ++ dvs) H Q E) : wpAny (model X.prog X.w) X.A (call (.ref fa) us) (EP X pn σ Q) X.xe s := by
  have r2 : Vals (xs ++ dvs) (us ++ ds) := rx.append hd
  have hl : (us ++ ds).length = qs.length := by rw [← r2.length]; exact F.ar _ _ _ _ hs
  refine wpAny_call (codeAny_mono (F.go X.A X.stack s H ⟨us, []⟩ (us ++ ds) (xs ++ dvs) Q E hq hr J.env0 (hb s us J.kIn hl) r2 hs) fun r s2 z => ?_)
  match r, z with
  | .error e, z => exact hx pn H s e s2 J z
  | .ok (.ret u), z => exact J.after z
  | .ok .next, z => exact z.elim
  | .ok .brk, z => exact z.elim
  | .ok .cont, z => exact z.elim
/-- f(e, ..), f a def of the program -/
theorem pe_callG {n : Nat} {fa : Addr} {fd : FuncData} {qs : List Str} {sp : Sp} {U : L2.St → XK} {dvs : List V} {ds : List Value} {x : Str} {p pos : Pos} {y : Expr} {ys : List Expr} {t : TA} (F : FnG X.prog X.w X.K X.mg X.base n fa fd qs sp) (hq : X.A.guards = some []) (hr : Room n X.A) (g1 : Gl X x)
    (hm : X.mg x = some (.ref fa)) (hk : PySem.W.keepIn X.K (.ref fa) = true) (hb : Binds X.K fd qs ds) (hd : Vals dvs ds) (hx : ∀ σ, PassesAt (L2.CX X.prog X.w) X σ (U σ)) (ha : PA X (y :: ys) t) (g2 : (x == ("__debug__" : Str)) = false)
    (h1 : starEach (y :: ys) X.env = (false, eval y X.env) :: starEach ys X.env) (h2 : (backTo pos (starEach ys X.env)).any (·.1) = false) :
    PE X (.Call (.Name x p) (y :: ys) [] pos) (fun σ H Q => t σ H fun xs H1 => sp (xs ++ dvs) H1 Q (U σ)) := by
  refine ⟨fun pn s σ H Q I h => wpAny_Call_Name_kw (ld_glob I g1 hm (PySem.W.callWith_K (h₀ := X.base) I.ok.mod.kin hk (thn (ha.run pos pn s σ H _ I h) fun us s1 q => ?_) h1 h2) g2)⟩
  obtain ⟨xs, H1, J, rx, hs⟩ := q
  exact ⟨J.kIn, run_G F hq hr hb hd (hx σ) J rx hs⟩
def Xs.len : Xs → Nat
  | .nil => 0
  | .cons _ es => es.len + 1
theorem evs_len (cf : CF) (gl : Str → Option D) : ∀ (es : Xs) (fr : Frame) (S : Store) (xs : List D) (fr' : Frame) (S' : Store), evs cf gl es fr S = .ok xs fr' S' → xs.length = es.len
  | .nil, _, _, _, _, _, h => by cases h; rfl
  | .cons e es, fr, S, xs, fr', S', h => by
    have h' : ((frzX (ev cf gl e fr S)).bind fun x fr S => (evs cf gl es fr S).bind fun xs fr S => .ok (x :: xs) fr S) = RX.ok xs fr' S' := h
    cases q : frzX (ev cf gl e fr S) with
    | no => rw [q] at h'; cases h'
    | ex x f s => rw [q] at h'; cases h'
    | ok x f s =>
      rw [q] at h'
      have h2 : ((evs cf gl es f s).bind fun xs fr S => .ok (x :: xs) fr S) = RX.ok xs fr' S' := h'
      cases q2 : evs cf gl es f s with
      | no => rw [q2] at h2; cases h2
      | ex x f s => rw [q2] at h2; cases h2
      | ok ys f2 s2 =>
        rw [q2] at h2
        cases h2
        show ys.length + 1 = es.len + 1
        rw [evs_len cf gl es f s ys _ _ q2]
theorem chks_len {c : SC} : ∀ (es : Xs) (l : List Expr), chks es c l = true → l.length = es.len
  | .nil, [], _ => rfl
  | .nil, _ :: _, h => nomatch h
  | .cons _ _, [], h => nomatch h
  | .cons m ms, x :: xs, h => by
    have h' : (pln x && chk c m x && chks ms c xs) = true := h
    rw [Bool.and_eq_true] at h'
    show xs.length + 1 = ms.len + 1
    rw [chks_len ms xs h'.2]
theorem chks_head {c : SC} {ms : Xs} {y : Expr} {ys : List Expr} (h : chks ms c (y :: ys) = true) (env : Env) (pos : Pos) : pln y = true ∧ (backTo pos (starEach ys env)).any (·.1) = false := by
  cases ms with
  | nil => exact nomatch h
  | cons m ms =>
    have h' : (pln y && chk c m y && chks ms c ys) = true := h
    rw [Bool.and_eq_true, Bool.and_eq_true] at h'
    exact ⟨h'.1.1, chks_plain ms ys h'.2 _ _⟩
/-- arguments, with how many they are -/
theorem Aft.args {es : Xs} {fr : Frame} {S : Store} {g : Gh} {H : Hp} {σ : L2.St} {Q : List V → Hp → Prop} (h : Aft X.K X.mg W (rDs X.K) g H σ (evs cf c.gl es fr S) Q) :
    Aft X.K X.mg W (rDs X.K) g H σ (evs cf c.gl es fr S) (fun vs H' => vs.length = es.len ∧ Q vs H') := by
  cases e : evs cf c.gl es fr S with
  | no => rw [e] at h; exact h
  | ex x f s => rw [e] at h; exact h
  | ok xs f s =>
    rw [e] at h
    exact fun g' H' vs k r q => ⟨by rw [← q.2.length, evs_len _ _ _ _ _ _ _ _ e], h g' H' vs k r q⟩
/-- a call's promise, defaults and all -/
theorem callee_sp {f : Str} {k : Nat} {ps : List Str} {dD : List D} {dvs : List V} {g : Gh} {fr : Frame} {S : Store} {σ : L2.St} {H : Hp} {Q : VK} {ds : List D} {vs : List V}
    (hpad : ∀ ds S, ds.length ≤ ps.length → ps.length ≤ ds.length + dD.length → cf f ds S = cf f (ds ++ dD.drop (ds.length + dD.length - ps.length)) S) (hn : ds.length = k) (h1 : k ≤ ps.length) (h2 : ps.length ≤ k + dD.length)
    (rel : Rel X.K X.mg g fr S σ H) (r : RDs X.K g H ds vs) (rd : RDs X.K g H (dD.drop (k + dD.length - ps.length)) dvs) (h : Aft X.K X.mg W (rV X.K X.mg) g H σ ((cf f ds S).back fr) Q) : spC X.K X.mg (cf f) ps.length (vs ++ dvs) H Q (WE W σ) := by
  subst hn
  rw [hpad ds S h1 h2] at h
  refine call_sp rel (r.append rd) (fun hne => absurd ?_ hne) h
  rw [List.length_append, List.length_drop]
  omega
theorem arB_of {c : SC} {f : Str} {n : Nat} (h : arB c f n = true) : (c.ar f).1 ≤ n ∧ n ≤ (c.ar f).2 := by
  unfold arB at h
  rw [Bool.and_eq_true] at h
  exact ⟨of_decide_eq_true h.1, of_decide_eq_true h.2⟩
theorem se_call (G : Good c X W cf) {f : Str} {ms : Xs} {y : Expr} {ys : List Expr} {p : Pos} (hf : c.fs.contains f = true) (hg : glB c f = true) (har : arB c f (ys.length + 1) = true) (ha : PA X (y :: ys) (tAs c X W cf ms)) (hc : chks ms c (y :: ys) = true) :
    PE X (.Call (.Name f p) (y :: ys) [] pos) (tV c X W cf (.call f ms)) := by
  obtain ⟨k, a, ⟨fd, ps, dD, F, hps, hb, hpad⟩, hr, hm, hk⟩ := G.fn f hf
  obtain ⟨g1, g2⟩ := G.glob hg
  obtain ⟨hy, hys⟩ := chks_head hc X.env pos
  have hl : ys.length + 1 = ms.len := chks_len ms (y :: ys) hc
  obtain ⟨a1, a2⟩ := arB_of har
  rw [hl] at a1 a2
  rw [← hps] at a2
  obtain ⟨a3, dvs, ds, hv, hbn, hrd⟩ := hb ms.len a1 a2
  refine (pe_callG F G.gd hr g1 hm hk hbn hv (fun σ => passAt G.tk σ) ha g2 (pln_star hy _) hys).weak fun σ H Q ⟨g, fr, S, rel, h⟩ => ⟨g, fr, S, rel, ?_⟩
  refine (Aft.args (Aft.bind rDs_tmp h)).imp fun x H1 ⟨hlen, ds, fr1, S1, g1, k1, rel1, r1, t1, h1⟩ => ?_
  exact callee_sp hpad (by rw [r1.2.length]; exact hlen) a2 a3 rel1 r1.2 (hrd g1 H1) h1
end
end Eng
end

section
/-! The engine, part I: built-ins called, names with own objects, targets, tests. -/
namespace Eng
open PySem PySem.Spec PyProof.Rows L2
section
variable {c : SC} {X : Cx} {W : WX} {cf : CF} {pos : Pos} {a b d : Xp} {l r z : Expr}

theorem FK.mem (k : FK) : k.name ∈ bltNames := by cases k <;> decide +kernel
theorem FK.ne (k : FK) : k.name ≠ "__name__" := by cases k <;> decide +kernel
theorem FK.boot (k : FK) : bootBuiltins k.name = some k.val := by cases k <;> decide +kernel
theorem chks_cons {ms : Xs} {y : Expr} {ys : List Expr} (hc : chks ms c (y :: ys) = true) (env : Env) (pos : Pos) : pln y = true ∧ (backTo pos (starEach ys env)).any (·.1) = false := by
  cases ms with
  | nil => exact nomatch hc
  | cons m ms =>
    have h' : (pln y && chk c m y && chks ms c ys) = true := hc
    rw [Bool.and_eq_true, Bool.and_eq_true] at h'
    exact ⟨h'.1.1, chks_plain ms ys h'.2 _ _⟩
/-- a built-in by name, its arguments read as t -/
theorem pe_fk (G : Good c X W cf) (k : FK) {y : Expr} {ys : List Expr} {p : Pos} {t : TA} (hg : glB c k.name = true) (ha : PA X (y :: ys) t) (hy : pln y = true) (hys : (backTo pos (starEach ys X.env)).any (·.1) = false) :
    PE X (.Call (.Name k.name p) (y :: ys) [] pos) (tCB (rBlt X W k) t) := by
  obtain ⟨g1, g2⟩ := G.glob hg
  have hm := G.blt _ k.mem
  have hb := k.boot
  have hc := call_blt (W := W) G.calm G.gd G.un k
  have hn := k.ne
  cases k with
  | len => exact pe_callB hc g1 hm hb ha hn g2 (pln_star hy _) hys
  | all => exact pe_callB hc g1 hm hb ha hn g2 (pln_star hy _) hys
  | any => exact pe_callB hc g1 hm hb ha hn g2 (pln_star hy _) hys
  | sum => exact pe_callB hc g1 hm hb ha hn g2 (pln_star hy _) hys
  | tuple => exact pe_callTy hc g1 hm hb ha hn g2 (pln_star hy _) hys
  | list => exact pe_callTy hc g1 hm hb ha hn g2 (pln_star hy _) hys
  | int => exact pe_callTy hc g1 hm hb ha hn g2 (pln_star hy _) hys
  | max2 => exact pe_callB hc g1 hm hb ha hn g2 (pln_star hy _) hys
  | min2 => exact pe_callB hc g1 hm hb ha hn g2 (pln_star hy _) hys
  | repr => exact pe_callB hc g1 hm hb ha hn g2 (pln_star hy _) hys
  | sorted => exact pe_callB hc g1 hm hb ha hn g2 (pln_star hy _) hys
  | str => exact pe_callTy hc g1 hm hb ha hn g2 (pln_star hy _) hys
theorem se_blt (G : Good c X W cf) (k : FK) {ms : Xs} {y : Expr} {ys : List Expr} {p : Pos} (hg : glB c k.name = true) (ha : PA X (y :: ys) (tAs c X W cf ms)) (hc : chks ms c (y :: ys) = true) :
    PE X (.Call (.Name k.name p) (y :: ys) [] pos) (tV c X W cf (.blt k ms)) := by
  obtain ⟨h1, h2⟩ := chks_cons hc X.env pos
  refine (pe_fk G k hg ha h1 h2).weak fun σ H Q ⟨g, fr, S, rel, h⟩ => ⟨g, fr, S, rel, ?_⟩
  refine (Aft.bind rDs_tmp h).imp fun x H1 ⟨ds, fr1, S1, g1, k1, rel1, r1, t1, h1⟩ => ?_
  exact ⟨g1, fr1, S1, σ, _, rel1, vws_look rel1.st r1.2, h1⟩
theorem TK.mem (k : TK) : k.name ∈ bltNames := by cases k <;> decide +kernel
theorem TK.ne (k : TK) : k.name ≠ "__name__" := by cases k <;> decide +kernel
theorem TK.boot (k : TK) : bootBuiltins k.name = some (.type k.tyn) := by cases k <;> decide +kernel
theorem se_isi (G : Good c X W cf) (t : TK) {p p2 : Pos} (hg : glB c "isinstance" = true) (hz : glB c t.name = true) (ha : PE X l (tV c X W cf a)) (hp : pln l = true) :
    PE X (.Call (.Name "isinstance" p) [l, .Name t.name p2] [] pos) (tV c X W cf (.isi t a)) := by
  obtain ⟨g1, g2⟩ := G.glob hg
  obtain ⟨z1, z2⟩ := G.glob hz
  have hn : PE X (.Name t.name p2) (tC (.ty t.tyn)) := pe_bltn z1 (G.blt _ t.mem) t.boot rfl t.ne z2
  refine (pe_callB call_isi g1 (G.blt _ (by decide +kernel)) (by decide +kernel) (pa_cons (frzPE ha) (pa_cons hn pa_nil rfl) (pln_star hp _)) (by decide +kernel) g2 (pln_star hp _) rfl).weak fun σ H Q ⟨g, fr, S, rel, h⟩ => ⟨g, fr, S, rel, ?_⟩
  refine (Aft.bind rD_tmp h).imp fun x H1 ⟨d1, fr1, S1, g1, k1, rel1, r1, t1, h1⟩ => ?_
  cases e : isD t d1 with
  | none => rw [e] at h1; exact h1.elim
  | some k =>
    rw [e] at h1
    obtain ⟨ty, h2, h3⟩ := tyx_of r1.2 e
    exact ⟨x, _, _, _, k, rfl, .ty _, h2, kit_ty h3, fin_old h1 rel1 (.bl _)⟩

/-! ### names that hold own objects -/
theorem peek_rel {K : PySem.W.Frag} {mg : Str → Option Value} {g : Gh} {fr : Frame} {S : Store} {σ : L2.St} {H : Hp} {i : Nat} {d : D} (rel : Rel K mg g fr S σ H) (e : peek i fr S = some d) : ∃ x, σ[i]? = some (some x) ∧ Vw K g H x d := by
  unfold peek at e
  cases q : fr[i]? with
  | none => rw [q] at e; cases e
  | some o =>
    rw [q] at e
    cases o with
    | none => cases e
    | some v =>
      cases v with
      | fz d' =>
        obtain ⟨x, h1, h2⟩ := rel.slot i _ q
        cases e
        exact ⟨x, h1, vw_look rel.st h2⟩
      | own cl =>
        obtain ⟨x, h1, p, rfl, h2, h3⟩ := rel.slot i _ q
        exact ⟨_, h1, vw_cell h3 e⟩
theorem se_bltv (G : Good c X W cf) (k : FK) {i : Nat} {y : Str} {p p2 : Pos} (hg : glB c k.name = true) (hv : visB c i y = true) : PE X (.Call (.Name k.name p) [.Name y p2] [] pos) (tV c X W cf (.bltv k i)) := by
  obtain ⟨h1, h2, h3, h4⟩ := G.vis hv
  refine (pe_fk G k hg (pa_cons (pe_var h1 h2 h3 h4) pa_nil rfl) rfl rfl).weak fun σ H Q ⟨g, fr, S, rel, h⟩ => ?_
  have h' : Aft X.K X.mg W (rV X.K X.mg) g H σ (RX.lift ((peek i fr S).bind fun d => bltD k [d]) fr S) Q := h
  cases e : peek i fr S with
  | none => rw [e] at h'; exact h'.elim
  | some d =>
    rw [e] at h'
    obtain ⟨p, e1, v⟩ := peek_rel rel e
    exact ⟨_, e1, g, fr, S, σ, [d], rel, .cons v .nil, h'⟩
theorem se_subv (G : Good c X W cf) {i : Nat} {y : Str} {p : Pos} (hv : visB c i y = true) (hb : PE X r (tV c X W cf b)) (hp : pln r = true) : PE X (.Subscript (.Name y p) r pos) (tV c X W cf (.subv i b)) := by
  obtain ⟨h1, h2, h3, h4⟩ := G.vis hv
  refine (pe_ix (ix_sub (W := W) (hu_of' G)) (pe_var h1 h2 h3 h4) (frzPE hb) (pln_sub hp)).weak fun σ H Q ⟨g, fr, S, rel, h⟩ => ?_
  have h' : Aft X.K X.mg W (rV X.K X.mg) g H σ (if (peek i fr S).isSome then (frzX (ev cf c.gl b fr S)).bind fun y fr S => RX.lift ((peek i fr S).bind fun d => (subD d y).map Val.fz) fr S else .no) Q := h
  cases e : peek i fr S with
  | none => rw [e] at h'; exact h'.elim
  | some d0 =>
    rw [e] at h'
    obtain ⟨q, e1, _⟩ := peek_rel rel e
    refine ⟨_, e1, g, fr, S, rel, ?_⟩
    refine (Aft.bind rD_tmp h').imp fun x H1 ⟨d1, fr1, S1, g1, k1, rel1, r1, t1, h1⟩ => ?_
    cases e' : peek i fr1 S1 with
    | none => rw [e'] at h1; exact h1.elim
    | some d2 =>
      rw [e'] at h1
      obtain ⟨q', e2, v⟩ := peek_rel rel1 e'
      rw [e1] at e2; cases e2
      exact ⟨g1, fr1, S1, σ, d2, d1, rel1, v, r1.2, h1⟩
theorem wk_cmpv (k : CK) {i : Nat} : ∀ σ H Q, tV c X W cf (.cmpv k a i) σ H Q → tOp (rCmp X W k) (tF c X W cf a) (tVar i) σ H Q := fun σ H Q ⟨g, fr, S, rel, h⟩ => by
  refine ⟨g, fr, S, rel, ?_⟩
  refine (Aft.bind rD_tmp h).imp fun x H1 ⟨d1, fr1, S1, g1, k1, rel1, r1, t1, h1⟩ => ?_
  cases e' : peek i fr1 S1 with
  | none => rw [e'] at h1; exact h1.elim
  | some d2 =>
    rw [e'] at h1
    obtain ⟨q', e2, v⟩ := peek_rel rel1 e'
    exact ⟨_, e2, g1, fr1, S1, σ, look S1 d1, d2, rel1, vw_look rel1.st r1.2, v, h1⟩
theorem se_cmpv (G : Good c X W cf) (k : CK) {i : Nat} {y : Str} {p : Pos} (hv : visB c i y = true) (ha : PE X l (tV c X W cf a)) : PE X (.Compare l [k.op] [.Name y p] pos) (tV c X W cf (.cmpv k a i)) := by
  obtain ⟨h1, h2, h3, h4⟩ := G.vis hv
  exact (pe_cmpR (op_cmp (W := W) (hu_of' G) k) (frzPE ha) (pe_var h1 h2 h3 h4) rfl).weak (wk_cmpv k)
theorem ixN_bounds {n : Nat} {i : Int} {j : Nat} (hn : n ≤ sizeLine) (h : ixN n i = some j) : -(2 ^ 63) ≤ i ∧ i < 2 ^ 63 ∧ seqIndex? i n = some j := by
  obtain ⟨h1, h2, h3, h4⟩ := ixN_seq h
  have : sizeLine = 16777216 := rfl
  refine ⟨?_, ?_, h1⟩
  · have : (n : Int) ≤ 16777216 := by omega
    omega
  · have : (n : Int) ≤ 16777216 := by omega
    omega
theorem se_popv (G : Good c X W cf) {i : Nat} {y : Str} {p ap : Pos} (hv : visB c i y = true) (hb : PE X r (tV c X W cf b)) (hp : pln r = true) (hline : (ap.endLine == pos.line) = true) : PE X (.Call (.Attribute (.Name y p) "pop" ap) [r] [] pos) (tV c X W cf (.popv i b)) := by
  obtain ⟨h1, h2, h3, h4⟩ := G.vis hv
  have hfew : ((backTo pos (starEach [r] X.env)).all (fun x => !x.1) && (backToKw pos (keywordEach [] X.env)).all (fun x => x.1.isSome)
      && decide (([r] : List Expr).length + ([] : List Keyword).length + (if ([] : List Keyword).isEmpty then 0 else 1) < 30)) = true := by
    rw [pln_star hp]; rfl
  refine (pe_bm PySem.F.plainAttrs_list PySem.F.slot_list_pop PySem.F.type_list_pop mt_popAt (pe_var h1 h2 h3 h4) (pa_cons (frzPE hb) pa_nil (pln_star hp _)) rfl hfew hline (pln_star hp _) rfl).weak fun σ H Q ⟨g, fr, S, rel, h⟩ => ?_
  have h' : Aft X.K X.mg W (rV X.K X.mg) g H σ (if ownL i fr then (frzX (ev cf c.gl b fr S)).bind fun y fr S => popX i y fr S else .no) Q := h
  have own_of : ∀ {fr : Frame}, ownL i fr = true → ∃ xs, fr[i]? = some (some (.own (.lst xs))) := fun {fr} e => by
    unfold ownL at e
    split at e
    · rename_i xs q; exact ⟨xs, q⟩
    · cases e
  by_cases ho : ownL i fr = true
  · rw [if_pos ho] at h'
    obtain ⟨xs, q⟩ := own_of ho
    obtain ⟨x, e1, a1, rfl, ha1, vs, hv1, rv1⟩ := rel.slot i _ q
    refine ⟨_, e1, .inl ⟨rfl, vs, SqL.of hv1⟩, g, fr, S, rel, ?_⟩
    refine (Aft.bind rD_tmp h').imp fun x H1 ⟨d1, fr1, S1, g1, k1, rel1, r1, t1, h1⟩ => ?_
    have h1' : Aft X.K X.mg W (rV X.K X.mg) g1 H1 σ (popX i d1 fr1 S1) Q := h1
    unfold popX at h1'
    split at h1'
    · rename_i ys k q1
      obtain rfl := RD.of_int r1.2
      obtain ⟨x2, e2, a2, rfl, ha2, ws, hv2, rv2⟩ := rel1.slot i _ q1
      rw [e1] at e2; cases e2
      cases q2 : ixN ys.length k with
      | none => rw [q2] at h1'; exact h1'.elim
      | some j =>
        rw [q2] at h1'
        dsimp only at h1'
        cases q3 : ys[j]? with
        | none => rw [q3] at h1'; exact h1'.elim
        | some d =>
          rw [q3] at h1'
          dsimp only at h1'
          by_cases hz : ys.length ≤ sizeLine
          · rw [if_pos hz] at h1'
            obtain ⟨w, q4, rw4⟩ := rv2.get q3
            obtain ⟨kp, rl⟩ := rel1.mut (c' := .lst (ys.eraseIdx j)) (o := .lst (ws.eraseIdx j)) q1 e1 (fun g2 H2 m hh => ⟨_, hh, (rv2.mono m).eraseIdx j⟩)
            obtain ⟨b1, b2, b3⟩ := ixN_bounds hz q2
            rw [rv2.length] at b3
            exact ⟨a1, ws, k, j, w, rfl, rfl, hv2, b1, b2, b3, q4, h1' g1 _ w kp rl ⟨rfl, rw4.mono (show Mono X.K g1 H1 g1 _ from kp.mono)⟩⟩
          · rw [if_neg hz] at h1'; exact h1'.elim
    · exact h1'.elim
  · rw [if_neg ho] at h'; exact h'.elim

theorem se_share (ha : PE X l (tV c X W cf a)) : PE X l (tV c X W cf (.share a)) := by
  refine ha.weak fun σ H Q ⟨g, fr, S, rel, h⟩ => ⟨g, fr, S, rel, ?_⟩
  have h' : Aft X.K X.mg W (rV X.K X.mg) g H σ ((ev cf c.gl a fr S).bind fun v fr S => match v with | .own c => .ok (.fz (.ref S.length)) fr (S ++ [c]) | _ => .no) Q := h
  cases e : ev cf c.gl a fr S with
  | no => rw [e] at h'; exact h'
  | ex x fr1 S1 => rw [e] at h'; exact h'
  | ok v fr1 S1 =>
    rw [e] at h'
    cases v with
    | fz d => exact h'.elim
    | own cl =>
      intro g' H' x k rel' rv
      obtain ⟨p, rfl, ht, na, hc⟩ := rv
      refine h' ⟨g'.rho ++ [p], g'.own, g.tmp⟩ H' (.ref p) (keep_share ht na rfl k) (rel'.share ht na hc) ⟨rfl, .ref ?_⟩
      show (g'.rho ++ [p])[S1.length]? = some p
      rw [List.getElem?_append_right (by rw [rel'.st.len]; exact Nat.le_refl _), rel'.st.len]
      simp
theorem rg_rel {K : PySem.W.Frag} {g : Gh} {H : Hp} (i j : Int) : RDs K g H (rgD i j) (rgV i j) := by
  unfold rgD rgV
  induction (List.range (j - i).toNat) with
  | nil => exact .nil
  | cons n ns ih => exact .cons (.int _) ih
theorem rgOk_of {i j : Int} (h : rgOk i j = true) : -(2 ^ 62) ≤ i ∧ i < 2 ^ 62 ∧ -(2 ^ 62) ≤ j ∧ j < 2 ^ 62 := of_decide_eq_true h
theorem se_listrg (G : Good c X W cf) {p p2 p3 : Pos} (hl : glB c "list" = true) (hr : glB c "range" = true) (hb : PE X r (tV c X W cf b)) (hp : pln r = true) :
    PE X (.Call (.Name "list" p) [.Call (.Name "range" p2) [r] [] p3] [] pos) (tV c X W cf (.listrg b)) := by
  obtain ⟨g1, g2⟩ := G.glob hl
  obtain ⟨z1, z2⟩ := G.glob hr
  refine (pe_listRg G.calm g1 (G.blt _ (by decide +kernel)) (prg_1 z1 (G.blt _ (by decide +kernel)) (frzPE hb) (pln_star hp _)) rfl).weak fun σ H Q ⟨g, fr, S, rel, h⟩ => ⟨g, fr, S, rel, ?_⟩
  refine (Aft.bind rD_tmp h).imp fun x H1 ⟨d1, fr1, S1, g1, k1, rel1, r1, t1, h1⟩ => ?_
  cases d1 with
  | int j =>
    obtain rfl := RD.of_int r1.2
    have h1' : Aft X.K X.mg W (rV X.K X.mg) g1 H1 σ (if rgOk 0 j = true ∧ j.toNat ≤ 2 ^ 24 then .ok (.own (.lst (rgD 0 j))) fr1 S1 else .no) Q := h1
    by_cases hc : rgOk 0 j = true ∧ j.toNat ≤ 2 ^ 24
    · rw [if_pos hc] at h1'
      obtain ⟨b1, b2, b3, b4⟩ := rgOk_of hc.1
      exact ⟨j, rfl, ⟨b1, b2, b3, b4, by rw [Int.sub_zero]; exact hc.2⟩, fun q hq => fin_lst h1' rel1 (rg_rel 0 j) hq⟩
    · rw [if_neg hc] at h1'; exact h1'.elim
  | _ => exact h1.elim

theorem se_lenset (G : Good c X W cf) {p p2 p3 : Pos} (hl : glB c "len" = true) (hr : glB c "set" = true) (hb : PE X r (tV c X W cf b)) (hp : pln r = true) :
    PE X (.Call (.Name "len" p) [.Call (.Name "set" p2) [r] [] p3] [] pos) (tV c X W cf (.lenset b)) := by
  obtain ⟨g1, g2⟩ := G.glob hl
  obtain ⟨z1, z2⟩ := G.glob hr
  refine (RZ.pe_lenSetI g1 (G.blt _ (by decide +kernel)) z1 (G.blt _ (by decide +kernel)) (frzPE hb) G.calm (pln_star hp _)).weak fun σ H Q ⟨g, fr, S, rel, h⟩ => ⟨g, fr, S, rel, ?_⟩
  refine (Aft.bind rD_tmp h).imp fun x H1 ⟨d1, fr1, S1, g1, k1, rel1, r1, t1, h1⟩ => ?_
  cases d1 with
  | lst ys =>
    obtain ⟨q, vs, rfl, h2, _, h3⟩ := r1.2.tracked_lst
    have h1' : Aft X.K X.mg W (rV X.K X.mg) g1 H1 σ (RX.lift ((intL ys).bind fun ns => if ns.Nodup ∧ ns.length ≤ 4000 then some (.fz (.int ns.length)) else none) fr1 S1) Q := h1
    cases q1 : intL ys with
    | none => rw [q1] at h1'; exact h1'.elim
    | some ns =>
      rw [q1] at h1'
      obtain rfl := intL_rel h3 q1
      by_cases hc : ns.Nodup ∧ ns.length ≤ 4000
      · have h4 : Aft X.K X.mg W (rV X.K X.mg) g1 H1 σ (RX.lift (if ns.Nodup ∧ ns.length ≤ 4000 then some (.fz (.int ns.length)) else none) fr1 S1) Q := h1'
        rw [if_pos hc] at h4
        exact ⟨q, ns, rfl, SqL.of h2, hc.1, hc.2, fin_old h4 rel1 (.int _)⟩
      · have h4 : Aft X.K X.mg W (rV X.K X.mg) g1 H1 σ (RX.lift (if ns.Nodup ∧ ns.length ≤ 4000 then some (.fz (.int ns.length)) else none) fr1 S1) Q := h1'
        rw [if_neg hc] at h4
        exact h4.elim
  | _ => exact h1.elim

/-! ### tests -/
theorem st_truth (he : ∀ whole, isTrue l X.env whole = (do let v ← whole; standAt l.pos; holding [v] (truthy v))) (ha : PE X l (tV c X W cf a)) : PT X l (tX X.K X.mg W rId (tru (ev cf c.gl a))) := by
  refine (pt_truth (frzPE ha) he).weak fun σ H Q ⟨g, fr, S, rel, h⟩ => ⟨g, fr, S, rel, ?_⟩
  refine (Aft.bind rD_tmp h).imp fun x H1 ⟨d1, fr1, S1, g1, k1, rel1, r1, t1, h1⟩ => ?_
  cases e : truD (look S1 d1) with
  | none => rw [e] at h1; exact h1.elim
  | some k =>
    rw [e] at h1
    exact ⟨k, truV_of (vw_look rel1.st r1.2) e, h1 g1 H1 k Keep.refl rel1 ⟨rfl, rfl⟩⟩
/-- a value that is always a truth, as a test -/
theorem bool_res {f : Frame → Store → RX Val} (hf : ∀ fr S v fr' S', f fr S = .ok v fr' S' → ∃ k, v = .fz (.bl k)) {g : Gh} {fr : Frame} {S : Store} {σ : L2.St} {H : Hp} {Q : Bool → Hp → Prop} (h : Aft X.K X.mg W rId g H σ (tru f fr S) Q) :
    Aft X.K X.mg W (rV X.K X.mg) g H σ (f fr S) (fun x H' => ∃ k, x = .bl k ∧ Q k H') := by
  unfold tru at h
  cases e : f fr S with
  | no => rw [e] at h; exact h
  | ex x fr1 S1 => rw [e] at h; exact h
  | ok v fr1 S1 =>
    rw [e] at h
    obtain ⟨k, rfl⟩ := hf _ _ _ _ _ e
    intro g' H' x kp rel' rv
    obtain rfl := RD.of_bl rv.2
    exact ⟨k, rfl, h g' H' k kp rel' ⟨rv.1, rfl⟩⟩
theorem bind_ok {α β : Type} {r : RX α} {k : α → Frame → Store → RX β} {v : β} {fr : Frame} {S : Store} (h : r.bind k = .ok v fr S) : ∃ a fr1 S1, r = .ok a fr1 S1 ∧ k a fr1 S1 = .ok v fr S := by
  cases r with
  | ok a fr1 S1 => exact ⟨a, fr1, S1, rfl, h⟩
  | ex e f s => cases h
  | no => cases h
theorem lift_ok {α : Type} {o : Option α} {fr fr' : Frame} {S S' : Store} {v : α} (h : RX.lift o fr S = .ok v fr' S') : o = some v := by
  cases o with
  | none => cases h
  | some a => cases h; rfl
theorem map_bl {o : Option Bool} {v : Val} (h : (o.map fun r => Val.fz (.bl r)) = some v) : ∃ k, v = .fz (.bl k) := by
  cases o with
  | none => cases h
  | some k => exact ⟨k, (Option.some.inj h).symm⟩
theorem st_cmp (G : Good c X W cf) (k : CK) (ha : PE X l (tV c X W cf a)) (hb : PE X r (tV c X W cf b)) (hp : pln r = true) : PT X (.Compare l [k.op] [r] pos) (tTs c X W cf (.cmp k a b)) := by
  refine (pt_cmpR (op_cmp (W := W) (hu_of' G) k) (frzPE ha) (frzPE hb) (pln_in hp _)).weak fun σ H Q ⟨g, fr, S, rel, h⟩ => ?_
  refine wk_cmp k σ H _ ⟨g, fr, S, rel, bool_res (fun fr S v fr' S' e => ?_) h⟩
  obtain ⟨x, f1, s1, _, e⟩ := bind_ok e
  obtain ⟨y, f2, s2, _, e⟩ := bind_ok e
  exact map_bl (lift_ok e)
theorem st_cmpv (G : Good c X W cf) (k : CK) {i : Nat} {y : Str} {p : Pos} (hv : visB c i y = true) (ha : PE X l (tV c X W cf a)) : PT X (.Compare l [k.op] [.Name y p] pos) (tTs c X W cf (.cmpv k a i)) := by
  obtain ⟨h1, h2, h3, h4⟩ := G.vis hv
  refine (pt_cmpR (op_cmp (W := W) (hu_of' G) k) (frzPE ha) (pe_var h1 h2 h3 h4) rfl).weak fun σ H Q ⟨g, fr, S, rel, h⟩ => ?_
  refine wk_cmpv k σ H _ ⟨g, fr, S, rel, bool_res (fun fr S v fr' S' e => ?_) h⟩
  obtain ⟨x, f1, s1, _, e⟩ := bind_ok e
  have e' := lift_ok e
  cases q : peek i f1 s1 with
  | none => rw [q] at e'; cases e'
  | some d => rw [q] at e'; exact map_bl e'
theorem st_chain (G : Good c X W cf) (k m : CK) (ha : PE X l (tV c X W cf a)) (hb : PE X r (tV c X W cf b)) (hd : PE X z (tV c X W cf d)) (hp : pln z = true) : PT X (.Compare l [k.op, m.op] [r, z] pos) (tTs c X W cf (.chain k m a b d)) := by
  refine (pt_chain (op_cmp (W := W) (hu_of' G) k) (op_cmp (W := W) (hu_of' G) m) (frzPE ha) (frzPE hb) (frzPE hd) (pln_last hp _ _ _)).weak fun σ H Q ⟨g, fr, S, rel, h⟩ => ?_
  refine wk_chain k m σ H _ ⟨g, fr, S, rel, bool_res (fun fr S v fr' S' e => ?_) h⟩
  obtain ⟨x, f1, s1, _, e⟩ := bind_ok e
  obtain ⟨y, f2, s2, _, e⟩ := bind_ok e
  cases q : cmpD k (look s2 x) (look s2 y) with
  | none => rw [q] at e; cases e
  | some t =>
    rw [q] at e
    cases t with
    | true =>
      obtain ⟨w, f3, s3, _, e⟩ := bind_ok e
      exact map_bl (lift_ok e)
    | false => cases e; exact ⟨false, rfl⟩
theorem st_not (ha : PT X l (tTs c X W cf a)) : PT X (.UnaryOp .Not l pos) (tTs c X W cf (.not a)) := by
  refine (pt_not ha).weak fun σ H Q ⟨g, fr, S, rel, h⟩ => ⟨g, fr, S, rel, ?_⟩
  refine (Aft.bind rId_tmp h).imp fun x H1 ⟨t, fr1, S1, g1, k1, rel1, r1, t1, h1⟩ => ?_
  obtain ⟨_, rfl⟩ := r1
  exact h1 g1 H1 _ Keep.refl rel1 ⟨rfl, rfl⟩
theorem wkt_and : ∀ σ H Q, tTs c X W cf (.and a b) σ H Q → tAnd (tTs c X W cf a) (tTs c X W cf b) σ H Q := fun σ H Q ⟨g, fr, S, rel, h⟩ => by
  refine ⟨g, fr, S, rel, ?_⟩
  refine (Aft.bind rId_tmp h).imp fun x H1 ⟨t, fr1, S1, g1, k1, rel1, r1, t1, h1⟩ => ?_
  obtain ⟨_, rfl⟩ := r1
  cases t with
  | true => exact iteT ⟨g1, fr1, S1, rel1, h1⟩
  | false => exact iteF (h1 g1 H1 _ Keep.refl rel1 ⟨rfl, rfl⟩)
theorem wkt_or : ∀ σ H Q, tTs c X W cf (.or a b) σ H Q → tOr (tTs c X W cf a) (tTs c X W cf b) σ H Q := fun σ H Q ⟨g, fr, S, rel, h⟩ => by
  refine ⟨g, fr, S, rel, ?_⟩
  refine (Aft.bind rId_tmp h).imp fun x H1 ⟨t, fr1, S1, g1, k1, rel1, r1, t1, h1⟩ => ?_
  obtain ⟨_, rfl⟩ := r1
  cases t with
  | true => exact iteT (h1 g1 H1 _ Keep.refl rel1 ⟨rfl, rfl⟩)
  | false => exact iteF ⟨g1, fr1, S1, rel1, h1⟩
theorem pw_of {op : BoolOp} {vs : List Expr} {t : TT} (h : PT X (.BoolOp op vs pos) t) : PW X (.BoolOp op vs pos) t := ⟨fun w pins s σ H Q I q => h.run pins s σ H Q I q⟩
theorem st_and1 (ha : PT X l (tTs c X W cf a)) (hb : PT X r (tTs c X W cf b)) : PT X (.BoolOp .And [l, r] pos) (tTs c X W cf (.and a b)) := (PW.pt (pw_and ha (pw_and1 hb))).weak wkt_and
theorem st_and {rs : List Expr} (ha : PT X l (tTs c X W cf a)) (hb : PT X (.BoolOp .And (r :: z :: rs) pos) (tTs c X W cf b)) : PT X (.BoolOp .And (l :: r :: z :: rs) pos) (tTs c X W cf (.and a b)) := (PW.pt (pw_and ha (pw_of hb))).weak wkt_and
theorem st_or1 (ha : PT X l (tTs c X W cf a)) (hb : PT X r (tTs c X W cf b)) : PT X (.BoolOp .Or [l, r] pos) (tTs c X W cf (.or a b)) := (PW.pt (pw_or ha (pw_or1 hb))).weak wkt_or
theorem st_or {rs : List Expr} (ha : PT X l (tTs c X W cf a)) (hb : PT X (.BoolOp .Or (r :: z :: rs) pos) (tTs c X W cf b)) : PT X (.BoolOp .Or (l :: r :: z :: rs) pos) (tTs c X W cf (.or a b)) := (PW.pt (pw_or ha (pw_of hb))).weak wkt_or

/-! ### targets -/
def gT (X : Cx) (tg : Tg) : TG := fun v σ H Q => ∃ g fr S d fr', Rel X.K X.mg g fr S σ H ∧ RD X.K g H d v ∧ asg tg d fr = some fr' ∧ ∀ σ', Rel X.K X.mg g fr' S σ' H → σ'.length = σ.length → (∀ i, i ∉ tg.slots → σ'[i]? = σ[i]?) → Q σ' H
def gTs (X : Cx) (tg : Tgs) : TGs := fun vs σ H Q => ∃ g fr S ds fr', Rel X.K X.mg g fr S σ H ∧ RDs X.K g H ds vs ∧ asgs tg ds fr = some fr' ∧ ∀ σ', Rel X.K X.mg g fr' S σ' H → σ'.length = σ.length → (∀ i, i ∉ tg.slots → σ'[i]? = σ[i]?) → Q σ' H
theorem assignEach_len (env : Env) : ∀ {ts : Tgs} {es : List Expr}, chkGs c ts es = true → (assignEach es env).findIdx? (·.1) = none
  | .nil, [], _ => rfl
  | .nil, _ :: _, h => nomatch h
  | .cons _ _, [], h => nomatch h
  | .cons t ts, e :: es, h => by
    have h' : (chkG c t e && chkGs c ts es) = true := h
    rw [Bool.and_eq_true] at h'
    have ih := assignEach_len env h'.2
    cases t with
    | nm i =>
      cases e with
      | Name x p =>
        show List.findIdx? _ ((false, _) :: assignEach es env) = none
        rw [List.findIdx?_cons]
        simp [ih]
      | _ => exact nomatch h'.1
    | tp ts' =>
      cases e with
      | Tuple l k p =>
        show List.findIdx? _ ((false, _) :: assignEach es env) = none
        rw [List.findIdx?_cons]
        simp [ih]
      | _ => exact nomatch h'.1
end
end Eng
end

section
/-! The engine, part V: enumerate over a tuple. -/
namespace Eng
open PySem PySem.Spec PyProof.Rows L2
theorem meets_enum1 {v : Value} {o : Obj} {Hh : Heap → Prop} (B : Begins v o Hh) :
    Meets (Builtin.«enumerate.__new__» ⟨[.type "enumerate", v], []⟩) (fun _ R s => Hh s.heap ∧ R (.ok (.ret (.ref (s.heap.push o).objs.size)))
      { s with heap := (s.heap.push o).push { cls := .type "enumerate", data := .fields #[.none, .bool false, .ref s.heap.objs.size, rawInt 0, .none, .none] } }) :=
  .of_wp fun prog w A R s h => by
    obtain ⟨hp, g, d, tk, os⟩ := s
    obtain ⟨h1, h⟩ := h
    have hsub := sub_enumerate
    have go : ∀ {A' : Around} {E : Value → Shared → Prop} {Q : Value → Shared → Prop}, Q (.ref hp.objs.size) ⟨hp.push o, g, d, tk, os⟩ → wpAny (model prog w) A' (pyIter v) Q E ⟨hp, g, d, tk, os⟩ :=
      fun q => B.iter prog w _ _ ⟨hp, g, d, tk, os⟩ _ h1 q
    wp_walk
    refine wpAny_stack_any fun st => wpAny_pure ?_
    split
    · rename_i c _ _ _ _ _
      cases (c == Value.type "enumerate")
      · wp_walk using go
        exact ⟨_, rfl, h⟩
      · wp_walk using go
        exact ⟨_, rfl, h⟩
    · wp_walk using go
      exact ⟨_, rfl, h⟩
/-- enumerate(v): two new objects -/
theorem enum1_begins {prog : Program} {w : World} {A : Around} {E : Value → Shared → Prop} {s : Shared} {v : Value} {o : Obj} {Hh : Heap → Prop} {Q : Value → Shared → Prop} (B : Begins v o Hh) (h1 : Hh s.heap)
    (h : ∀ h', IsEnum h' (s.heap.objs.size + 1) s.heap.objs.size 0 .none → h'.get? s.heap.objs.size = some o → (∀ b u, s.heap.get? b = some u → h'.get? b = some u) → Q (.ref (s.heap.objs.size + 1)) { s with heap := h' }) :
    wpAny (model prog w) A (call (.type "enumerate") [v]) Q E s := by
  refine callType_new F.called_enumerate (by decide) (F.typeCall_enumerate_1 _) (F.newCall_enumerate_1 _) (fun obj => F.args_object_init_2 obj _) F.entry_enumerate_new (meets_enum1 B) ⟨h1, ?_⟩
  have z1 : (s.heap.push o).objs.size = s.heap.objs.size + 1 := Heap.size_push ..
  have en : IsEnum ((s.heap.push o).push { cls := .type "enumerate", data := .fields #[.none, .bool false, .ref s.heap.objs.size, rawInt 0, .none, .none] }) (s.heap.objs.size + 1) s.heap.objs.size 0 .none := by
    have y := Heap.get?_push_size (s.heap.push o) (o := { cls := .type "enumerate", data := .fields #[.none, .bool false, .ref s.heap.objs.size, rawInt 0, .none, .none] }) rfl
    rw [z1] at y; exact y
  show _ ∧ _
  rw [z1]
  exact ⟨⟨_, en, rfl⟩, h _ en (Heap.get?_push_of_some _ (Heap.get?_push_size _ B.free)) fun b u z => Heap.get?_push_of_some _ (Heap.get?_push_of_some _ z)⟩
/-- the tuple at a, each item in a new pair -/
def IteT (K : PySem.W.Frag) (a : Addr) : It :=
  ⟨fun i H => ∃ (xs : List V) (x : V), SqT K H a xs ∧ xs[i]? = some x, fun i H v H' => ∃ T x, v = .ref T ∧ H T = none ∧ H' = upd H T (.tup [.int (i : Nat), x]) ∧ ∀ xs, SqT K H a xs → xs[i]? = some x, fun i H => ∃ xs : List V, SqT K H a xs ∧ xs.length = i⟩
theorem turn_enumT {P : Program} {w : World} {K : PySem.W.Frag} {elts : List Expr} {kk : Nat} {tpos : Pos} (a e it : Addr) :
    Turn P w K (.Tuple elts kk tpos) (IteT K a) [e, it] e (fun i h => (∃ old, IsEnum h e it ((i : Nat) : Int) old) ∧ h.IsTupleIter it a i ∧ e ≠ it ∧ a ≠ it ∧ e ≠ a) where
  mem := List.mem_cons_self ..
  obj := fun i h st b hb => by
    obtain ⟨⟨old, he⟩, ⟨o, ho, hc, hd⟩, _⟩ := st
    rcases List.mem_cons.mp hb with z | hb
    · rw [z]; exact ⟨_, he, fun v q => nomatch q⟩
    · rw [List.mem_singleton.mp hb]; exact ⟨o, ho, fun v q => by rw [hd] at q; cases q⟩
  keep := fun i h h' st k => by
    obtain ⟨⟨old, he⟩, hi, hn⟩ := st
    exact ⟨⟨old, k e (by simp) _ he⟩, hi.at fun o q => k it (by simp) o q, hn⟩
  item := by
    intro X hP hw hK hc i pins s σ H E I hf st hg
    subst hP hw hK
    obtain ⟨⟨old, he⟩, hit, n1, n2, n3⟩ := st
    obtain ⟨xs, x, hq, hx⟩ := hg
    obtain ⟨its, rv, tp, _⟩ := I.tuple hq
    have tp' : s.heap.IsTuple a its.toArray := tp
    have hel : e < s.heap.objs.size := Heap.lt_size he
    have hil : it < s.heap.objs.size := by obtain ⟨_, q, _⟩ := hit; exact Heap.lt_size q
    have hlt : i < its.toArray.size := by
      have := (List.getElem?_eq_some_iff.mp hx).1
      have l := rv.length
      simp; omega
    refine wpAny_pyNext_enum_itemD (Draws.tuple (A := X.A.in1) (I.ok.hd hc) it a n2 its.toArray) he ⟨hit, tp'⟩ hlt n1 (fun z => ?_) fun u h' tk hu ho st' hT hsz hk => ?_
    · rcases List.mem_cons.mp z with z | z
      · exact n1 z
      · exact n3 (List.mem_singleton.mp z)
    · refine ⟨_, rfl, wpAny_letOwnedTupleGo_enum (s := { s with heap := h', toks := tk + 1 }) ho fun h2 he2 sb => ?_⟩
      have ru : RelV x u := by
        obtain ⟨u', hu', r⟩ := rv.get hx
        have : its[i]? = some u := by simpa using hu
        rw [hu'] at this
        cases this
        exact r
      have hT2 : h2.get? s.heap.objs.size = some { cls := .type "tuple", data := .seq #[.int i tk, u] } := (sb.2 _ (Nat.ne_of_gt hel)).trans hT
      have new : ObjOk X.prog X.w (upd H s.heap.objs.size (.tup [.int (i : Nat), x])) h2 s.heap.objs.size (.tup [.int (i : Nat), x]) :=
        ⟨by show 2 ≤ sizeLine; decide, [.int i tk, u], .cons ⟨_, rfl⟩ (.cons ru .nil), ⟨_, hT2, rfl, _, rfl⟩⟩
      have I1 : Inv X pins σ (upd H s.heap.objs.size (.tup [.int (i : Nat), x])) { s with heap := h2, toks := tk + 1 } :=
        I.turnedNew (ch := [e, it]) (fun b ob hb q => (sb.2 b (fun z => hb (by simp [z]))).trans (hk b ob (fun z => hb (by simp [z])) (fun z => hb (by simp [z])) q)) hf (Nat.le_refl _) new
      refine ⟨.ref s.heap.objs.size, _, I1, rfl, ⟨_, x, rfl, I.hok.fresh (Nat.le_refl _), rfl, fun ys hy => by rw [I.tuple_inj hy hq]; exact hx⟩, ⟨⟨u, ?_⟩, st'.1.at fun o q => (sb.2 it (Ne.symm n1)).trans q, n1, n2, n3⟩, fun b hb => ?_⟩
      · have e1 : ((i + 1 : Nat) : Int) = (i : Int) + 1 := by omega
        rw [e1]; exact he2
      · have hb' : b < s.heap.objs.size := by
          rcases List.mem_cons.mp hb with z | z
          · rw [z]; exact hel
          · rw [List.mem_singleton.mp z]; exact hil
        rw [upd_ne (Nat.ne_of_lt hb')]
        exact (hf b hb).1
  done := by
    intro X hP hw hK hc i pins s σ H E I hf st hg
    subst hP hw hK
    obtain ⟨⟨old, he⟩, hit, n1, n2, n3⟩ := st
    obtain ⟨xs, hq, hx⟩ := hg
    obtain ⟨its, rv, tp, _⟩ := I.tuple hq
    have tp' : s.heap.IsTuple a its.toArray := tp
    obtain ⟨f0, f1, f2, f3, f4, f5⟩ := hf it (by simp)
    have hi : i = its.toArray.size := by
      have l := rv.length
      simp; omega
    rw [hi] at hit
    exact wpAny_pyNext_enum_endD (Draws.tuple (A := X.A.in1) (I.ok.hd hc) it a n2 its.toArray) he ⟨hit, tp'⟩ fun h' eb => ⟨rfl, I.turned (t' := s.toks) (fun b o hb q => eb b o hb q) f0 f1 f3 f4 f5⟩
  self := fun A i s Q E st h => by
    obtain ⟨⟨old, he⟩, _⟩ := st
    exact wpAny_pyIter_enum he h
/-- what enumerate walks: a list or a tuple -/
def iEnumA (K : PySem.W.Frag) (ta : TA) : TI := fun σ H R => ta σ H fun vs H1 => ∃ a xs, vs = [.ref a] ∧ ((SqL K H1 a xs ∧ R (Ite K a) H1) ∨ (SqT K H1 a xs ∧ R (IteT K a) H1))
theorem pi_enumA {X : Cx} {e : Expr} {ta : TA} {p pos tpos : Pos} {elts : List Expr} {kk : Nat} (hg : Gl X "enumerate") (hm : X.mg "enumerate" = none) (ha : PA X [e] ta) (hs : starEach [e] X.env = [(false, eval e X.env)]) :
    PI X (.Tuple elts kk tpos) (.Call (.Name "enumerate" p) [e] [] pos) (iEnumA X.K ta) := by
  refine ⟨fun pins s σ H R I h => Call_ (ld_blt I hg hm boot_enumerate (PyProof.Rows.callWith_type1 (thn (ha.run pos pins s σ H _ I h) fun us s1 q => ?_) hs rfl))⟩
  obtain ⟨vs, H1, I1, r1, a, xs, rfl, q⟩ := q
  cases r1 with
  | cons r rr =>
    cases rr
    cases r
    have fresh : ∀ b ∈ [s1.heap.objs.size + 1, s1.heap.objs.size], FpOk X pins H1 b := fun b hb => by
      have hle : s1.heap.objs.size ≤ b := by
        rcases List.mem_cons.mp hb with z | z
        · omega
        · rw [List.mem_singleton.mp z]; exact Nat.le_refl _
      exact I1.fpOk hle (I1.hok.fresh hle)
    rcases q with ⟨hq, q⟩ | ⟨hq, q⟩
    · obtain ⟨its, rv, p', _⟩ := I1.list hq
      refine call_enumerate_list p'.isList fun h' he hit hsz hk => wpAny_pyIter_enum he ?_
      exact ⟨s1.heap.objs.size + 1, [s1.heap.objs.size + 1, s1.heap.objs.size], _, _, H1, rfl, I1.kept (t' := s1.toks) hk, turn_enum a (s1.heap.objs.size + 1) s1.heap.objs.size, ⟨⟨.none, he⟩, hit, Nat.succ_ne_self _⟩, fresh, q⟩
    · obtain ⟨its, rv, p', _⟩ := I1.tuple hq
      have p2 : s1.heap.IsTuple a its.toArray := p'
      have al : a < s1.heap.objs.size := by obtain ⟨o, ho, _⟩ := p2; exact Heap.lt_size ho
      refine enum1_begins (begins_tuple a its.toArray) p2 fun h' he hit hk => wpAny_pyIter_enum he ?_
      exact ⟨s1.heap.objs.size + 1, [s1.heap.objs.size + 1, s1.heap.objs.size], _, _, H1, rfl, I1.kept (t' := s1.toks) hk, turn_enumT a (s1.heap.objs.size + 1) s1.heap.objs.size, ⟨⟨.none, he⟩, ⟨_, hit, rfl, rfl⟩, Nat.succ_ne_self _, Nat.ne_of_lt al, Nat.ne_of_gt (Nat.lt_succ_of_lt al)⟩, fresh, q⟩
theorem walk_enumT {K : PySem.W.Frag} {a : Addr} {xs : List V} : Walk (IteT K a) xs.length (fun H => SqT K H a xs) (YPair (fun i => some (.int (i : Nat))) (fun i => xs[i]?)) := by
  refine ⟨fun i _ hi q => ⟨xs, xs[i], q, by simp [hi]⟩, fun _ q => ⟨xs, q, rfl⟩, fun i H v H' _ q y => ?_⟩
  obtain ⟨T, x, h1, h2, h3, h4⟩ := y
  exact ⟨T, .int (i : Nat), x, h1, h2, h3, rfl, h4 xs q⟩
end Eng
end

section
/-! The engine, part W: sorted(set(x)), min(x, default=y), over the heap. -/
namespace Eng
open PySem PySem.Spec PyProof.Rows L2

section
variable {P : Program} {w : World} {A : Around} {E : Value → Shared → Prop} {s : Shared}
/-- a new set's object -/
abbrev set0 (w : World) : Obj := { cls := .type "set", dict := none, data := .set #[] 0 (.fresh 0 0 (!w.params.followText "set-order")) }
/-- set(x), x a list of ints: the set as sorted wants it -/
theorem call_set_listR {l : Addr} {its : Array Value} (ns : List Int) {Q : Value → Shared → Prop} (hd : A.handled = none) (hl : s.heap.IsList l its) (hit : IntsAre its.toList ns) (hb : ns.length + 1 < scanBound)
    (h : ∀ (h' : Heap) (tk c : Nat), SetR w h' s.heap.objs.size (fun j => decide (j ∈ ns)) c → c ≤ ns.length → (∀ b o, s.heap.get? b = some o → h'.get? b = some o) → Q (.ref s.heap.objs.size) { s with heap := h', toks := tk }) :
    wpAny (model P w) A (call (.type "set") [.ref l]) Q E s := by
  have hz : its.size = ns.length := by rw [← Array.length_toList]; exact hit.length
  obtain ⟨cc, tt, m1⟩ := F.called_set.mro
  have m2 := F.called_set.made
  have m3 := F.called_set.sub
  refine wpAny_call (codeAny_of_tree ?_)
  show wpAny _ _ (callAny (.type "set") _) _ _ _
  refine wpAny_pure ⟨Code.quiet_builtin _ (by decide +kernel), codeAny_builtin F.entry_type_call ?_⟩
  rw [Around.under_plain (weight_type_call_type "set" [.ref l] []) rfl]
  have m4 := F.called_set.notType
  have m5 := F.called_set.canCreate
  have m6 := F.typeCall_set_1 (.ref l)
  repeat any_goals first | assumption | wp_step
  refine codeAny_mono (code_set_led1 (.ref l) (E := E) (Q₁ := fun ob s1 => ob = .ref s.heap.objs.size ∧ s1 = { s with heap := s.heap.push (set0 w) }) ⟨rfl, rfl⟩) fun r s1 hr => ?_
  cases r with
  | error e => exact hr
  | ok fl =>
    cases fl with
    | ret ob =>
      obtain ⟨rfl, rfl⟩ := hr
      have gS : (s.heap.push (set0 w)).get? s.heap.objs.size = some (set0 w) := Heap.get?_push_size _ rfl
      have tS : Shared.TypeIs { s with heap := s.heap.push (set0 w) } (.ref s.heap.objs.size) "set" := ⟨_, gS, rfl⟩
      have i1 := F.called_set.init.lookup
      have i2 := F.called_set.init.bind (.ref s.heap.objs.size)
      repeat any_goals first | assumption | wp_step
      refine codeAny_mono (codeAny_call_builtin (R := wants (fun r s2 => r = .none ∧ ∃ h' tk c, s2 = { s with heap := h', toks := tk } ∧ SetR w h' s.heap.objs.size (fun j => decide (j ∈ ns)) c ∧ c ≤ ns.length ∧
          (∀ b o, s.heap.get? b = some o → h'.get? b = some o)) E) F.called_set.init.plain F.entry_set_init (check_set_init_1 tS ?_)) fun r2 s2 hr2 => ?_
      · obtain ⟨ol, gl, kl, nl, dl⟩ := hl
        obtain ⟨c1, c2, c3, c4⟩ := ol
        simp only at kl dl
        subst kl; subst dl
        have gl' : (s.heap.push (set0 w)).get? l = some { cls := .type "list", dict := c2, data := .seq its nl, slots := c4 } := Heap.get?_push_of_some _ gl
        have n1 := F.sub_list_set
        have n2 := F.sub_list_frozenset
        have n3 : (Value.type "list" == Value.type "dict") = false := by decide
        have hl1 : (s.heap.push (set0 w)).IsList l its := ⟨_, gl', rfl, nl, rfl⟩
        unfold Builtin.«set.__init__» noKeywords Builtin.Frozenset.updateFrom
        generalize ePI : pyIter = PI
        wp_walk
        subst ePI
        refine wpAny_pyIter_list hl1 ?_
        refine wpAny_bind (wpAny_runValue ?_)
        have lS : l < s.heap.objs.size := Heap.lt_size gl
        have d3 : A.in1.in1.in1.handled = none := by simp [hd]
        have z1 : (s.heap.push (set0 w)).objs.size = s.heap.objs.size + 1 := Heap.size_push ..
        have neI : l ≠ (s.heap.push (set0 w)).objs.size := by rw [z1]; exact Nat.ne_of_lt (Nat.lt_succ_of_lt lS)
        have nS : s.heap.objs.size ∉ [(s.heap.push (set0 w)).objs.size, l] := by
          rw [z1]; intro z
          rcases List.mem_cons.mp z with z | z
          · exact absurd z (Nat.ne_of_lt (Nat.lt_succ_self _))
          · exact absurd (List.mem_singleton.mp z) (Nat.ne_of_gt lS)
        have val : ∀ (i : Nat) (v : Value), its[i]? = some v → ∃ k t, ns[i]? = some k ∧ v = .int k t := fun i v hv => by
          have hi : i < ns.length := by rw [← hz]; exact (Array.getElem?_eq_some_iff.mp hv).1
          obtain ⟨t, e⟩ := PyProof.Rows.IntsAre.int_at hit i v (by rw [Array.getElem?_toList]; exact hv)
          refine ⟨ns[i], t, List.getElem?_eq_getElem hi, ?_⟩
          rw [e, List.getD_eq_getElem?_getD, List.getElem?_eq_getElem hi] <;> rfl
        refine set_update_ints ((Walks.list d3 _ l neI its).toS) s.heap.objs.size nS ns hz hb val (its.size - 0) 0 _ (by omega) (Nat.zero_le _) ⟨⟨_, Heap.get?_push_size _ rfl, rfl, rfl⟩, (hl1.push _)⟩ ?g0 ?g1
        case g0 => exact ⟨0, Nat.le_refl 0, setR_new_at (Heap.get?_push_of_some _ gS)⟩
        case g1 =>
          intro s' c' hm hc' hS'
          obtain ⟨h', g2, d', tk', os'⟩ := s'
          obtain rfl : g2 = s.gens := hm.gens
          obtain rfl : d' = s.drawn := hm.drawn
          obtain rfl : os' = s.os := hm.os
          show wpAny _ _ _ _ _ _
          refine wpAny_pure ?_
          show wpAny _ _ (ret Value.none) _ _ _
          rw [hz] at hc'
          refine wpAny_pure ⟨rfl, h', tk', c', rfl, hS', hc', fun b o e => ?_⟩
          have b0 : b < s.heap.objs.size := Heap.lt_size e
          refine hm.heap b o (fun z => ?_) (Heap.get?_push_of_some _ (Heap.get?_push_of_some _ e))
          rcases List.mem_cons.mp z with z | z
          · exact absurd z (Nat.ne_of_lt b0)
          · have z := List.mem_singleton.mp z
            rw [z1] at z
            exact absurd z (Nat.ne_of_lt (Nat.lt_succ_of_lt b0))
      · cases r2 with
        | error e => exact hr2
        | ok f2 =>
          cases f2 with
          | ret r =>
            obtain ⟨rfl, h', tk, c', rfl, hS', hc', hk'⟩ := hr2
            repeat any_goals first | assumption | wp_step
            exact h _ _ _ hS' hc' hk'
          | _ => exact hr2.elim
    | _ => exact hr.elim
end

/-- sorted(set(x)), x a list or a tuple of ints -/
def tSortSet (K : PySem.W.Frag) (ta : TE) : TE := fun σ H Q => ta σ H fun x H1 => ∃ (l : Addr) (ns : List Int), x = .ref l ∧ (SqL K H1 l (ns.map V.int) ∨ SqT K H1 l (ns.map V.int)) ∧ ns.length ≤ 60 ∧
  ∀ (ms : List Int) (p : Addr), ms.Pairwise (· < ·) → (∀ k, k ∈ ms ↔ k ∈ ns) → H1 p = none → Q (.ref p) (upd H1 p (.lst (ms.map V.int)))
theorem pe_sortset {X : Cx} {a : Expr} {ta : TE} {p p2 q pos : Pos} (hg : Gl X "sorted") (hm : X.mg "sorted" = none) (hg2 : Gl X "set") (hm2 : X.mg "set" = none) (ha : PE X a ta) (hc : X.calm = true)
    (na : starEach [a] X.env = (false, eval a X.env) :: starEach [] X.env) : PE X (.Call (.Name "sorted" p) [.Call (.Name "set" p2) [a] [] q] [] pos) (tSortSet X.K ta) := by
  refine ⟨fun pins s σ H Q I h => ?_⟩
  refine Call_ (ld_blt I hg hm boot_sorted ?_)
  refine PyProof.Rows.callWith_builtin1 (PyProof.Rows.args_cons ?_ rfl) rfl rfl
  refine Call_ (ld_blt I hg2 hm2 boot_set ?_)
  refine PyProof.Rows.callWith_type1 (PyProof.Rows.args_cons (thn (ha.run pins s σ H _ I h) fun v s1 ⟨x, H1, I1, r1, q1⟩ => PyProof.Rows.args_nil ?_) na) na rfl
  obtain ⟨l, ns, rfl, hq, hl, q1⟩ := q1
  cases r1
  have fin : ∀ (h' : Heap) (tk c : Nat), SetR X.w h' s1.heap.objs.size (fun j => decide (j ∈ ns)) c → c ≤ ns.length → (∀ b o, s1.heap.get? b = some o → h'.get? b = some o) →
      wpAny (model X.prog X.w) X.A (call (.builtin "sorted") [.ref s1.heap.objs.size]) (EP X pins σ Q) X.xe { s1 with heap := h', toks := tk } := fun h' tk c R hcn k => by
    have I2 : Inv X pins σ H1 { s1 with heap := h', toks := tk } := I1.kept fun b o e => k b o e
    refine sorted_set R (I1.ok.hd hc) (by omega) fun s' p out c ms k g o hp hg hi hs hm hl => ?_
    have hlen : (ms.map V.int).length ≤ sizeLine := by rw [List.length_map, hl, sizeLine_eq]; omega
    have hn : H1 p = none := I2.hok.fresh hp
    have J : Inv X pins σ (upd H1 p (.lst (ms.map V.int))) { (⟨h', s1.gens, s1.drawn, tk, s1.os⟩ : Shared) with heap := s'.heap, gens := s'.gens, drawn := s'.drawn, toks := s'.toks } :=
      I2.call (ch := []) (Un.laid k hp hn) (I2.hok.laid k hp ⟨hlen, out.toList, c, vals_of_ints hi, hg⟩) (by rw [g]; exact I2.bare) (fun _ z => nomatch z)
    have e : s' = { (⟨h', s1.gens, s1.drawn, tk, s1.os⟩ : Shared) with heap := s'.heap, gens := s'.gens, drawn := s'.drawn, toks := s'.toks } := by
      cases s'; cases o; rfl
    rw [e]
    exact ⟨.ref p, _, J, rfl, q1 ms p hs (fun z => by rw [hm z, decide_eq_true_iff]) hn⟩
  rcases hq with hq | hq
  · obtain ⟨its, r, pl, hz⟩ := I1.list hq
    exact call_set_listR ns (I1.ok.hd hc) pl.isList (by simpa using ints_of_vals r) (by unfold scanBound; omega) fun h' tk c R hcn k => PyProof.Rows.args_nil (fin h' tk c R hcn k)
  · obtain ⟨its, r, pl, hz⟩ := I1.tuple hq
    exact call_set_tupI ns (I1.ok.hd hc) (show s1.heap.IsTuple l its.toArray from pl) (ints_of_vals r) (by unfold scanBound; omega) fun h' tk c R hcn k => PyProof.Rows.args_nil (fin h' tk c R hcn k)

theorem dpAll_at {K : PySem.W.Frag} {H : Hp} : ∀ {us : List V} {xs : List PyData} {i : Nat} {v : V}, DpAll K H us xs → us[i]? = some v → ∃ d, xs[i]? = some d ∧ Dp K H v d
  | _, _, _, _, .nil, e => by simp at e
  | _, _, 0, _, .cons h _, e => by simp at e; subst e; exact ⟨_, rfl, h⟩
  | _, _, i + 1, v, .cons _ t, e => by
    obtain ⟨d, h1, h2⟩ := dpAll_at (i := i) (v := v) t (by simpa using e)
    exact ⟨d, by simpa using h1, h2⟩
theorem vals_at : ∀ {xs : List V} {us : List Value} {i : Nat} {u : Value}, Vals xs us → us[i]? = some u → ∃ x, xs[i]? = some x ∧ RelV x u
  | _, _, _, _, .nil, e => by simp at e
  | _, _, 0, _, .cons h _, e => by simp at e; subst e; exact ⟨_, rfl, h⟩
  | _, _, i + 1, v, .cons _ t, e => by
    obtain ⟨d, h1, h2⟩ := vals_at (i := i) (u := v) t (by simpa using e)
    exact ⟨d, by simpa using h1, h2⟩
/-- min(x, default=z), x a list of alike data -/
def rMinDef (K : PySem.W.Frag) : List V → List V → Hp → VK → Prop := fun vs zs H Q => ∃ (a : Addr) (us : List V) (xs : List PyData) (z : V), vs = [.ref a] ∧ zs = [z] ∧ SqL K H a us ∧ DpAll K H us xs ∧ PySem.W.AlikeAll xs ∧ PyData.depthAll xs ≤ 60 ∧
  (xs = [] → Q z H) ∧ ∀ (i : Nat) v y ys, xs = y :: ys → us[i]? = some v → xs[i]? = some (PySem.W.minD y ys) → Q v H
theorem cr_minDef {X : Cx} (hc : X.calm = true) (hu : X.A.units + 100 < cLine) : CallRK X (.builtin "min") [Str.ofString "default"] (rMinDef X.K) := by
  intro pins s σ H vs zs us ws Q I r rz ⟨a, xs, ds, z, e1, e2, hs, hd, ha, hdp, h0, h1⟩
  subst e1; subst e2
  obtain rfl := Vals.ref1 r
  obtain ⟨w1, rfl, rw1⟩ := vals1 rz
  obtain ⟨its, rv, hl, hz⟩ := I.list hs
  obtain ⟨as, hr⟩ := Dp.readsAll I ds xs its hd rv
  refine PySem.W.min_list_default (I.ok.hd hc) hl.isList (xs := ds) (as := as) (by simpa using hr) ha (by omega) (fun e h' tk k => ?_) fun y ys i v h' tk bs e hv hrd k => ?_
  · exact ⟨z, H, I.kept k, rw1, h0 e⟩
  · obtain ⟨x, hx, rx⟩ := vals_at rv (by simpa using hv)
    obtain ⟨d, hd1, hd2⟩ := dpAll_at hd hx
    obtain ⟨cs, hc1⟩ := Dp.reads I d x v hd2 rx
    obtain ⟨e3, _⟩ := PyProof.Rows.reads_det (fun b o e _ => k b o e) hc1 hrd
    exact ⟨x, H, I.kept k, rx, h1 i x y ys e hx (by rw [hd1, ← e3])⟩
end Eng
end

section
/-! The engine, part J: targets, what is walked, comprehensions; every expression. -/
namespace Eng
open PySem PySem.Spec PyProof.Rows L2
section
variable {c : SC} {X : Cx} {W : WX} {cf : CF} {pos : Pos}

/-! ### targets -/
mutual
def Tgs.len : Tgs → Nat
  | .nil => 0
  | .cons _ ts => ts.len + 1
end
theorem chkGs_len : ∀ {ts : Tgs} {es : List Expr}, chkGs c ts es = true → es.length = ts.len
  | .nil, [], _ => rfl
  | .nil, _ :: _, h => nomatch h
  | .cons _ _, [], h => nomatch h
  | .cons t ts, e :: es, h => by
    have h' : (chkG c t e && chkGs c ts es) = true := h
    rw [Bool.and_eq_true] at h'
    show es.length + 1 = ts.len + 1
    rw [chkGs_len h'.2]
theorem asgs_len : ∀ {ts : Tgs} {ds : List D} {fr fr' : Frame}, asgs ts ds fr = some fr' → ds.length = ts.len
  | .nil, [], _, _, _ => rfl
  | .nil, _ :: _, _, _, h => nomatch h
  | .cons _ _, [], _, _, h => nomatch h
  | .cons t ts, d :: ds, fr, fr', h => by
    have h' : (asg t d fr).bind (fun f => asgs ts ds f) = some fr' := h
    cases q : asg t d fr with
    | none => rw [q] at h'; cases h'
    | some f =>
      rw [q] at h'
      show ds.length + 1 = ts.len + 1
      rw [asgs_len (show asgs ts ds f = some fr' from h')]
theorem assignEach_length (env : Env) : ∀ es : List Expr, (assignEach es env).length = es.length
  | [] => rfl
  | e :: es => by
    have ih := assignEach_length env es
    cases e <;> (show (assignEach es env).length + 1 = es.length + 1; rw [ih])
mutual
theorem sg (G : Good c X W cf) : ∀ (t : Tg) (e : Expr), chkG c t e = true → PG X e (gT X t)
  | .nm i, e, h => by
    cases e with
    | Name x p =>
      have h' : (decide (c.N[i]? = some x) && isLoc c.top (c.sc.names.lookup x)) = true := h
      rw [Bool.and_eq_true, decide_eq_true_iff] at h'
      have hl : L2.Loc X.env.scope x ∧ (X.fn x = true ∨ X.env.scope.names.lookup x = some .local) := by
        unfold L2.Loc
        rw [G.sc]
        have h2 := h'.2
        cases q : c.sc.names.lookup x with
        | none => rw [q] at h2; cases h2
        | some k =>
          rw [q] at h2
          cases k with
          | «local» => exact ⟨.inl rfl, .inr rfl⟩
          | cell => exact ⟨.inr rfl, .inl (G.top h2 x)⟩
          | free => cases h2
          | globalExplicit => cases h2
          | globalImplicit => cases h2
      refine (pg_name (i := i) (by rw [G.N]; exact G.nd) (by rw [G.N]; exact h'.1) hl.1 hl.2).weak fun v σ H Q ⟨g, fr, S, d, fr', rel, rd, e, q⟩ => ?_
      have e' : some (fr.set i (some (Val.fz d))) = some fr' := e
      cases e'
      exact q _ (rel.setFz rd) (List.length_set ..) fun j hj => List.getElem?_set_ne (fun z => hj (by rw [z]; exact List.mem_singleton.mpr rfl))
    | _ => exact nomatch h
  | .tp ts, e, h => by
    cases e with
    | Tuple es k p =>
      have h' : chkGs c ts es = true := h
      refine (pg_tup G.calm (sgs G ts es h') rfl (assignEach_len X.env h')).weak fun v σ H Q ⟨g, fr, S, d, fr', rel, rd, e, q⟩ => ?_
      cases d with
      | tup ds =>
        have e' : asgs ts ds fr = some fr' := e
        obtain ⟨a, vs, rfl, h1, h2⟩ := rd.of_tup
        refine ⟨a, vs, rfl, h1, ?_, g, fr, S, ds, fr', rel, h2, e', q⟩
        rw [← h2.length, asgs_len e', assignEach_length, chkGs_len h']
      | _ => exact nomatch e
    | _ => exact nomatch h
theorem sgs (G : Good c X W cf) : ∀ (t : Tgs) (e : List Expr), chkGs c t e = true → PGs X e (gTs X t)
  | .nil, [], _ => pgs_nil.weak fun v σ H Q ⟨g, fr, S, ds, fr', rel, rd, e, q⟩ => by
    cases ds with
    | nil =>
      cases rd
      have e' : some fr = some fr' := e
      cases e'
      exact ⟨rfl, q σ rel rfl fun _ _ => rfl⟩
    | cons d ds => exact nomatch e
  | .nil, _ :: _, h => nomatch h
  | .cons _ _, [], h => nomatch h
  | .cons t ts, e :: es, h => by
    have h' : (chkG c t e && chkGs c ts es) = true := h
    rw [Bool.and_eq_true] at h'
    have hs : (assignEach (e :: es) X.env).map (·.2) = assign e X.env :: (assignEach es X.env).map (·.2) := by
      cases t with
      | nm i => cases e with
        | Name x p => rfl
        | _ => exact nomatch h'.1
      | tp ts' => cases e with
        | Tuple l k p => rfl
        | _ => exact nomatch h'.1
    refine (pgs_cons (sg G t e h'.1) (sgs G ts es h'.2) hs).weak fun v σ H Q ⟨g, fr, S, ds, fr', rel, rd, e, q⟩ => ?_
    cases ds with
    | nil => exact nomatch e
    | cons d ds =>
      cases rd with
      | cons r1 r2 =>
        have e' : (asg t d fr).bind (fun f => asgs ts ds f) = some fr' := e
        cases q1 : asg t d fr with
        | none => rw [q1] at e'; cases e'
        | some f =>
          rw [q1] at e'
          refine ⟨_, _, rfl, g, fr, S, d, f, rel, r1, q1, fun σ1 rel1 l1 s1 => ⟨g, f, S, ds, fr', rel1, r2, e', fun σ2 rel2 l2 s2 => q σ2 rel2 (l2.trans l1) fun j hj => ?_⟩⟩
          have hj' : j ∉ t.slots ++ ts.slots := hj
          rw [s2 j (fun z => hj' (List.mem_append.mpr (.inr z))), s1 j (fun z => hj' (List.mem_append.mpr (.inl z)))]
end

/-! ### what is walked -/
def WalksD (K : PySem.W.Frag) (J : It) (g0 : Gh) (H0 : Hp) (ds : List D) : Prop := ∃ G Y, Walk J ds.length G Y ∧ (∀ g H, Keep g0 H0 g H → G H) ∧
  ∀ i g H x H', Keep g0 H0 g H → i < ds.length → Y i H x H' → Grows H H' ∧ ∃ d, ds[i]? = some d ∧ RD K g H' d x
def rW (K : PySem.W.Frag) : List Addr → Gh → Hp → List D → It → Prop := fun t g H ds J => g.tmp = t ∧ WalksD K J g H ds
theorem rW_tmp {K : PySem.W.Frag} : ∀ t g H a b, rW K t g H a b → g.tmp = t := fun _ _ _ _ _ h => h.1
abbrev tWk (c : SC) (X : Cx) (W : WX) (cf : CF) (w : Wk) : TI := tX X.K X.mg W (rW X.K) (evW cf c.gl w)
theorem walks_list {K : PySem.W.Frag} {g : Gh} {H : Hp} {p : Addr} {xs : List D} {vs : List V} (h : H p = some (.lst vs)) (n : ¬ g.av p) (r : RDs K g H xs vs) : WalksD K (Itl K p) g H xs := by
  have keep : ∀ g' H', Keep g H g' H' → H' p = some (.lst vs) := fun g' H' k => (k.keep p _ h (fun z => n (.inl z)) (fun z => n (.inr (.inl z)))).1
  refine ⟨_, _, by rw [r.length]; exact walk_list (xs := vs), fun g' H' k => SqL.of (keep g' H' k), fun i g' H' x H2 k hi y => ?_⟩
  obtain ⟨rfl, e⟩ := y
  obtain ⟨d, e1, e2⟩ := r.getV e
  exact ⟨Grows.refl, d, e1, e2.mono k.mono⟩
theorem walks_tup {K : PySem.W.Frag} {g : Gh} {H : Hp} {p : Addr} {xs : List D} {vs : List V} (h : H p = some (.tup vs)) (r : RDs K g H xs vs) : WalksD K (Itt K p) g H xs := by
  refine ⟨_, _, by rw [r.length]; exact walk_tup (xs := vs), fun g' H' k => SqT.of (k.tups _ _ h), fun i g' H' x H2 k hi y => ?_⟩
  obtain ⟨rfl, e⟩ := y
  obtain ⟨d, e1, e2⟩ := r.getV e
  exact ⟨Grows.refl, d, e1, e2.mono k.mono⟩
theorem walks_rng {K : PySem.W.Frag} {g : Gh} {H : Hp} (lo hi : Int) : WalksD K (Itr lo (hi - lo).toNat) g H (rgD lo hi) := by
  have hl : (rgD lo hi).length = (hi - lo).toNat := by unfold rgD; rw [List.length_map, List.length_range]
  refine ⟨_, _, by rw [hl]; exact walk_range, fun _ _ _ => trivial, fun i g' H' x H2 k hi' y => ?_⟩
  obtain ⟨rfl, rfl⟩ := y
  refine ⟨Grows.refl, .int (lo + (i : Nat)), ?_, .int _⟩
  unfold rgD
  rw [List.getElem?_map, List.getElem?_range (by rw [hl] at hi'; exact hi')]
  rfl
theorem walks_str {K : PySem.W.Frag} {g : Gh} {H : Hp} {z : Str} : WalksD K (Its z) g H (signsD z) := by
  have hl : (signsD z).length = z.cps.size := by unfold signsD; rw [List.length_map, Array.length_toList]
  refine ⟨_, _, by rw [hl]; exact walk_str, fun _ _ _ => trivial, fun i g' H' x H2 k hi y => ?_⟩
  obtain ⟨rfl, cc, e, rfl⟩ := y
  refine ⟨Grows.refl, .str ⟨#[cc]⟩, ?_, .str _⟩
  unfold signsD
  rw [List.getElem?_map, Array.getElem?_toList, e]; rfl
variable {a b : Xp} {l r tge : Expr}
theorem sw_seq (ha : PE X l (tV c X W cf a)) : PI X tge l (tWk c X W cf (.seq a)) := by
  refine (PI.or (pi_list (frzPE ha)) (PI.or (pi_tup (frzPE ha)) (pi_str (frzPE ha)))).weak fun σ H R ⟨g, fr, S, rel, h⟩ => ?_
  have h' : Aft X.K X.mg W (rW X.K) g H σ ((frzX (ev cf c.gl a fr S)).bind fun x fr S => match x with | .lst xs => .ok xs fr S | .tup xs => .ok xs fr S | .str z => .ok (signsD z) fr S | _ => .no) R := h
  cases e : frzX (ev cf c.gl a fr S) with
  | no => rw [e] at h'; exact h'.elim
  | ex x f s =>
    rw [e] at h'
    refine .inl ⟨g, fr, S, rel, ?_⟩
    show Aft X.K X.mg W (rD X.K) g H σ (frzX (ev cf c.gl a fr S)) _
    rw [e]; exact h'
  | ok d f s =>
    rw [e] at h'
    cases d with
    | lst xs =>
      refine .inl ⟨g, fr, S, rel, ?_⟩
      show Aft X.K X.mg W (rD X.K) g H σ (frzX (ev cf c.gl a fr S)) _
      rw [e]
      intro g1 H1 x k1 rel1 ⟨t1, r1⟩
      obtain ⟨p, vs, rfl, h1, h2, h3⟩ := r1.tracked_lst
      exact ⟨p, rfl, ⟨vs, SqL.of h1⟩, h' g1 H1 _ k1 rel1 ⟨t1, walks_list h1 h2 h3⟩⟩
    | tup xs =>
      refine .inr (.inl ⟨g, fr, S, rel, ?_⟩)
      show Aft X.K X.mg W (rD X.K) g H σ (frzX (ev cf c.gl a fr S)) _
      rw [e]
      intro g1 H1 x k1 rel1 ⟨t1, r1⟩
      obtain ⟨p, vs, rfl, h1, h2⟩ := r1.of_tupX
      exact ⟨p, rfl, ⟨vs, SqT.of h1⟩, h' g1 H1 _ k1 rel1 ⟨t1, walks_tup h1 h2⟩⟩
    | str z =>
      refine .inr (.inr ⟨g, fr, S, rel, ?_⟩)
      show Aft X.K X.mg W (rD X.K) g H σ (frzX (ev cf c.gl a fr S)) _
      rw [e]
      intro g1 H1 x k1 rel1 ⟨t1, r1⟩
      obtain rfl := RD.of_str r1
      exact ⟨z, rfl, h' g1 H1 _ k1 rel1 ⟨t1, walks_str⟩⟩
    | _ => exact h'.elim
theorem pair_rel {K : PySem.W.Frag} {g : Gh} {H : Hp} {T : Addr} {d1 d2 : D} {x y : V} (hT : H T = none) (r1 : RD K g H d1 x) (r2 : RD K g H d2 y) : RD K g (upd H T (.tup [x, y])) (.tup [d1, d2]) (.ref T) :=
  .tup upd_same (.cons (r1.mono (Grows.fresh hT).mono) (.cons (r2.mono (Grows.fresh hT).mono) .nil))
theorem enum_at {ds : List D} {i : Nat} {d : D} (h : ds[i]? = some d) : (enumD ds)[i]? = some (.tup [.int (i : Nat), d]) := by
  have hi := (List.getElem?_eq_some_iff.mp h).1
  unfold enumD
  rw [List.getElem?_map, List.getElem?_range hi]
  show some (D.tup [.int (i : Nat), ds.getD i .non]) = _
  rw [List.getD_eq_getElem?_getD, h]; rfl
theorem enum_len (ds : List D) : (enumD ds).length = ds.length := by unfold enumD; rw [List.length_map, List.length_range]
theorem walks_enumL {K : PySem.W.Frag} {g : Gh} {H : Hp} {p : Addr} {xs : List D} {vs : List V} (h : H p = some (.lst vs)) (n : ¬ g.av p) (r : RDs K g H xs vs) : WalksD K (Ite K p) g H (enumD xs) := by
  have keep : ∀ g' H', Keep g H g' H' → H' p = some (.lst vs) := fun g' H' k => (k.keep p _ h (fun z => n (.inl z)) (fun z => n (.inr (.inl z)))).1
  refine ⟨_, _, by rw [enum_len, r.length]; exact walk_enum (xs := vs), fun g' H' k => SqL.of (keep g' H' k), fun i g' H' x H2 k hi y => ?_⟩
  obtain ⟨T, u, v, rfl, hT, rfl, e1, e2⟩ := y
  cases e1
  obtain ⟨d, q1, q2⟩ := r.getV e2
  exact ⟨Grows.fresh hT, _, enum_at q1, pair_rel hT (.int _) (q2.mono k.mono)⟩
theorem walks_enumT {K : PySem.W.Frag} {g : Gh} {H : Hp} {p : Addr} {xs : List D} {vs : List V} (h : H p = some (.tup vs)) (r : RDs K g H xs vs) : WalksD K (IteT K p) g H (enumD xs) := by
  refine ⟨_, _, by rw [enum_len, r.length]; exact walk_enumT (xs := vs), fun g' H' k => SqT.of (k.tups _ _ h), fun i g' H' x H2 k hi y => ?_⟩
  obtain ⟨T, u, v, rfl, hT, rfl, e1, e2⟩ := y
  cases e1
  obtain ⟨d, q1, q2⟩ := r.getV e2
  exact ⟨Grows.fresh hT, _, enum_at q1, pair_rel hT (.int _) (q2.mono k.mono)⟩
theorem sw_enm (G : Good c X W cf) {p : Pos} {elts : List Expr} {kk : Nat} {tp : Pos} (hr : glB c "enumerate" = true) (ha : PE X l (tV c X W cf a)) (hp : pln l = true) : PI X (.Tuple elts kk tp) (.Call (.Name "enumerate" p) [l] [] pos) (tWk c X W cf (.enm a)) := by
  obtain ⟨z1, z2⟩ := G.glob hr
  refine (pi_enumA z1 (G.blt _ (by decide +kernel)) (pa_cons (frzPE ha) pa_nil (pln_star hp _)) (pln_star hp _)).weak fun σ H R ⟨g, fr, S, rel, h⟩ => ⟨g, fr, S, rel, ?_⟩
  refine (Aft.bind rD_tmp h).imp fun x H1 ⟨d1, fr1, S1, g1, k1, rel1, r1, t1, h1⟩ => ?_
  cases d1 with
  | lst xs =>
    obtain ⟨q, vs, rfl, y1, y2, y3⟩ := r1.2.tracked_lst
    have h1' : Aft X.K X.mg W (rW X.K) g1 H1 σ (.ok (enumD xs) fr1 S1) R := h1
    exact ⟨q, vs, rfl, .inl ⟨SqL.of y1, h1' g1 H1 _ Keep.refl rel1 ⟨rfl, walks_enumL y1 y2 y3⟩⟩⟩
  | tup xs =>
    obtain ⟨q, vs, rfl, y1, y2⟩ := r1.2.of_tupX
    have h1' : Aft X.K X.mg W (rW X.K) g1 H1 σ (.ok (enumD xs) fr1 S1) R := h1
    exact ⟨q, vs, rfl, .inr ⟨SqT.of y1, h1' g1 H1 _ Keep.refl rel1 ⟨rfl, walks_enumT y1 y2⟩⟩⟩
  | _ => exact h1.elim
theorem zip_at {xs ys : List D} {i : Nat} {d e : D} (h1 : xs[i]? = some d) (h2 : ys[i]? = some e) : (zipD xs ys)[i]? = some (.tup [d, e]) := by
  unfold zipD
  rw [List.getElem?_zipWith, h1, h2]
theorem zip_len (xs ys : List D) : (zipD xs ys).length = min xs.length ys.length := by unfold zipD; rw [List.length_zipWith]
theorem walks_zipL {K : PySem.W.Frag} {g : Gh} {H : Hp} {p q : Addr} {xs ys : List D} {vs us : List V} (h : H p = some (.lst vs)) (n : ¬ g.av p) (r : RDs K g H xs vs) (h' : H q = some (.lst us)) (n' : ¬ g.av q) (r' : RDs K g H ys us) : WalksD K (Itz K p q) g H (zipD xs ys) := by
  have keep : ∀ g' H', Keep g H g' H' → H' p = some (.lst vs) := fun g' H' k => (k.keep p _ h (fun z => n (.inl z)) (fun z => n (.inr (.inl z)))).1
  have keep' : ∀ g' H', Keep g H g' H' → H' q = some (.lst us) := fun g' H' k => (k.keep q _ h' (fun z => n' (.inl z)) (fun z => n' (.inr (.inl z)))).1
  refine ⟨_, _, walk_zip (xs := vs) (ys := us) (by rw [zip_len, r.length, r'.length]), fun g' H' k => ⟨SqL.of (keep g' H' k), SqL.of (keep' g' H' k)⟩, fun i g' H' x H2 k hi y => ?_⟩
  obtain ⟨T, u, v, rfl, hT, rfl, e1, e2⟩ := y
  obtain ⟨d1, q1, q2⟩ := r.getV e1
  obtain ⟨d2, q3, q4⟩ := r'.getV e2
  exact ⟨Grows.fresh hT, _, zip_at q1 q3, pair_rel hT (q2.mono k.mono) (q4.mono k.mono)⟩
theorem walk_zipT {K : PySem.W.Frag} {a b : Addr} {xs ys : List V} {n : Nat} (hn : n = min xs.length ys.length) : Walk (RZ.ItzT K a b) n (fun H => SqT K H a xs ∧ SqT K H b ys) (YPair (fun i => xs[i]?) (fun i => ys[i]?)) := by
  refine ⟨fun i _ hi q => ?_, fun _ q => ⟨xs, ys, q.1, q.2, by omega⟩, fun i H v H' _ q y => ?_⟩
  · have b1 : i < xs.length := by omega
    have b2 : i < ys.length := by omega
    exact ⟨xs, ys, xs[i], ys[i], q.1, q.2, List.getElem?_eq_getElem b1, List.getElem?_eq_getElem b2⟩
  · obtain ⟨T, x, z, y1, y2, y3, y4, y5⟩ := y
    exact ⟨T, x, z, y1, y2, y3, y4 xs q.1, y5 ys q.2⟩
theorem walks_zipT {K : PySem.W.Frag} {g : Gh} {H : Hp} {p q : Addr} {xs ys : List D} {vs us : List V} (h : H p = some (.tup vs)) (r : RDs K g H xs vs) (h' : H q = some (.tup us)) (r' : RDs K g H ys us) : WalksD K (RZ.ItzT K p q) g H (zipD xs ys) := by
  refine ⟨_, _, walk_zipT (xs := vs) (ys := us) (by rw [zip_len, r.length, r'.length]), fun g' H' k => ⟨SqT.of (k.tups _ _ h), SqT.of (k.tups _ _ h')⟩, fun i g' H' x H2 k hi y => ?_⟩
  obtain ⟨T, u, v, rfl, hT, rfl, e1, e2⟩ := y
  obtain ⟨d1, q1, q2⟩ := r.getV e1
  obtain ⟨d2, q3, q4⟩ := r'.getV e2
  exact ⟨Grows.fresh hT, _, zip_at q1 q3, pair_rel hT (q2.mono k.mono) (q4.mono k.mono)⟩
theorem sw_zip (G : Good c X W cf) {p : Pos} {elts : List Expr} {kk : Nat} {tp : Pos} (hr : glB c "zip" = true) (ha : PE X l (tV c X W cf a)) (hb : PE X r (tV c X W cf b)) (hp : pln l = true) (hq : pln r = true) :
    PI X (.Tuple elts kk tp) (.Call (.Name "zip" p) [l, r] [] pos) (tWk c X W cf (.zip a b)) := by
  obtain ⟨z1, z2⟩ := G.glob hr
  have s2 : starEach [r] X.env = [(false, eval r X.env)] := pln_star hq _
  refine (RZ.pi_zipA z1 (G.blt _ (by decide +kernel)) (pa_cons (frzPE ha) (pa_cons (frzPE hb) pa_nil (pln_star hq _)) (pln_star hp _)) (pln_star hp _) (by rw [s2]; rfl)).weak fun σ H R ⟨g, fr, S, rel, h⟩ => ⟨g, fr, S, rel, ?_⟩
  refine (Aft.bind rD_tmp h).imp fun x H1 ⟨d1, fr1, S1, g1, k1, rel1, r1, t1, h1⟩ => ⟨g1, fr1, S1, rel1, ?_⟩
  refine (Aft.bind rD_tmp h1).imp fun y H2 ⟨d2, fr2, S2, g2, k2, rel2, r2, t2, h2⟩ => ?_
  have r1' := r1.2.mono k2.mono
  cases d1 with
  | lst xs =>
    cases d2 with
    | lst ys =>
      obtain ⟨q1, vs, rfl, y1, y2, y3⟩ := r1'.tracked_lst
      obtain ⟨q2, us, rfl, w1, w2, w3⟩ := r2.2.tracked_lst
      have h2' : Aft X.K X.mg W (rW X.K) g2 H2 σ (.ok (zipD xs ys) fr2 S2) R := h2
      exact ⟨q1, q2, vs, us, rfl, .inl ⟨SqL.of y1, SqL.of w1, h2' g2 H2 _ Keep.refl rel2 ⟨rfl, walks_zipL y1 y2 y3 w1 w2 w3⟩⟩⟩
    | _ => exact h2.elim
  | tup xs =>
    cases d2 with
    | tup ys =>
      obtain ⟨q1, vs, rfl, y1, y3⟩ := r1'.of_tupX
      obtain ⟨q2, us, rfl, w1, w3⟩ := r2.2.of_tupX
      have h2' : Aft X.K X.mg W (rW X.K) g2 H2 σ (.ok (zipD xs ys) fr2 S2) R := h2
      exact ⟨q1, q2, vs, us, rfl, .inr ⟨SqT.of y1, SqT.of w1, h2' g2 H2 _ Keep.refl rel2 ⟨rfl, walks_zipT y1 y3 w1 w3⟩⟩⟩
    | _ => exact h2.elim
  | _ => exact h2.elim
theorem sw_rng1 (G : Good c X W cf) {p : Pos} (hr : glB c "range" = true) (ha : PE X l (tV c X W cf a)) (hp : pln l = true) : PI X tge (.Call (.Name "range" p) [l] [] pos) (tWk c X W cf (.rng1 a)) := by
  obtain ⟨z1, z2⟩ := G.glob hr
  refine (pi_range1 z1 (G.blt _ (by decide +kernel)) (pa_cons (frzPE ha) pa_nil (pln_star hp _)) (pln_star hp _)).weak fun σ H R ⟨g, fr, S, rel, h⟩ => ⟨g, fr, S, rel, ?_⟩
  refine (Aft.bind rD_tmp h).imp fun x H1 ⟨d1, fr1, S1, g1, k1, rel1, r1, t1, h1⟩ => ?_
  cases d1 with
  | int j =>
    obtain rfl := RD.of_int r1.2
    have h1' : Aft X.K X.mg W (rW X.K) g1 H1 σ (if rgOk 0 j then .ok (rgD 0 j) fr1 S1 else .no) R := h1
    by_cases hc : rgOk 0 j = true
    · rw [if_pos hc] at h1'
      obtain ⟨b1, b2, b3, b4⟩ := rgOk_of hc
      refine ⟨j, rfl, b3, b4, ?_⟩
      have := walks_rng (K := X.K) (g := g1) (H := H1) 0 j
      rw [Int.sub_zero] at this
      exact h1' g1 H1 _ Keep.refl rel1 ⟨rfl, this⟩
    · rw [if_neg hc] at h1'; exact h1'.elim
  | _ => exact h1.elim
theorem sw_rng2 (G : Good c X W cf) {p : Pos} (hr : glB c "range" = true) (ha : PE X l (tV c X W cf a)) (hb : PE X r (tV c X W cf b)) (hp : pln l = true) (hq : pln r = true) : PI X tge (.Call (.Name "range" p) [l, r] [] pos) (tWk c X W cf (.rng2 a b)) := by
  obtain ⟨z1, z2⟩ := G.glob hr
  have s2 : starEach [r] X.env = [(false, eval r X.env)] := pln_star hq _
  have s1 : starEach [l, r] X.env = [(false, eval l X.env), (false, eval r X.env)] := by rw [pln_star hp, s2]
  refine (pi_range2 z1 (G.blt _ (by decide +kernel)) (pa_cons (frzPE ha) (pa_cons (frzPE hb) pa_nil (pln_star hq _)) (pln_star hp _)) s1 s2).weak fun σ H R ⟨g, fr, S, rel, h⟩ => ⟨g, fr, S, rel, ?_⟩
  refine (Aft.bind rD_tmp h).imp fun x H1 ⟨d1, fr1, S1, g1, k1, rel1, r1, t1, h1⟩ => ⟨g1, fr1, S1, rel1, ?_⟩
  refine (Aft.bind rD_tmp h1).imp fun y H2 ⟨d2, fr2, S2, g2, k2, rel2, r2, t2, h2⟩ => ?_
  cases d1 with
  | int i =>
    cases d2 with
    | int j =>
      obtain rfl := RD.of_int r1.2
      obtain rfl := RD.of_int r2.2
      have h2' : Aft X.K X.mg W (rW X.K) g2 H2 σ (if rgOk i j then .ok (rgD i j) fr2 S2 else .no) R := h2
      by_cases hc : rgOk i j = true
      · rw [if_pos hc] at h2'
        exact ⟨i, j, rfl, rgOk_of hc, h2' g2 H2 _ Keep.refl rel2 ⟨rfl, walks_rng i j⟩⟩
      · rw [if_neg hc] at h2'; exact h2'.elim
    | _ => exact h2.elim
  | _ => exact h2.elim

/-! ### comprehensions -/
theorem own_slots (N : List Str) (tg : Tg) : (tg.own N).map (·.2) = tg.slots := by
  unfold Tg.own
  rw [List.map_map]
  exact List.map_id' _
theorem wipe_length' (σ : L2.St) : ∀ vs : List Nat, (wipe σ vs).length = σ.length
  | [] => rfl
  | v :: vs => by show ((wipe σ vs).set v none).length = _; rw [List.length_set, wipe_length' σ vs]
theorem wipe_in {σ : L2.St} {i : Nat} : ∀ {vs : List Nat}, i ∈ vs → i < σ.length → (wipe σ vs)[i]? = some none
  | [], h, _ => nomatch h
  | v :: vs, h, hl => by
    show ((wipe σ vs).set v none)[i]? = some none
    by_cases e : v = i
    · subst e; rw [List.getElem?_set_self (by rw [wipe_length']; exact hl)]
    · rw [List.getElem?_set_ne e]
      exact wipe_in ((List.mem_cons.mp h).resolve_left fun z => e z.symm) hl
theorem wipe_eq {σ σ' : L2.St} {vs : List Nat} (hl : σ'.length = σ.length) (h : ∀ i, i ∉ vs → σ'[i]? = σ[i]?) : wipe σ' vs = wipe σ vs := by
  apply List.ext_getElem?
  intro i
  by_cases hi : i ∈ vs
  · by_cases hb : i < σ.length
    · rw [wipe_in hi hb, wipe_in hi (by rw [hl]; exact hb)]
    · rw [List.getElem?_eq_none (by rw [wipe_length', hl]; omega), List.getElem?_eq_none (by rw [wipe_length']; omega)]
  · rw [wipe_out hi, wipe_out hi, h i hi]
theorem wipe_wipe {σ σ' : L2.St} {vs : List Nat} (hl : σ'.length = (wipe σ vs).length) (h : ∀ i, i ∉ vs → σ'[i]? = (wipe σ vs)[i]?) : wipe σ' vs = wipe σ vs :=
  wipe_eq (by rw [hl, wipe_length']) fun i hi => by rw [h i hi, wipe_out hi]
theorem Rel.wipe {K : PySem.W.Frag} {mg : Str → Option Value} {g : Gh} {fr : Frame} {S : Store} {σ : L2.St} {H : Hp} (r : Rel K mg g fr S σ H) : ∀ vs : List Nat, Rel K mg g (wipeF fr vs) S (L2.wipe σ vs) H
  | [] => r
  | v :: vs => (Rel.wipe r vs).setNoneV
theorem backF_length (old fr : Frame) : ∀ vs : List Nat, (backF old fr vs).length = fr.length
  | [] => rfl
  | v :: vs => by show ((backF old fr vs).set v _).length = _; rw [List.length_set, backF_length old fr vs]
theorem backF_in {old fr : Frame} {i : Nat} : ∀ {vs : List Nat}, i ∈ vs → i < fr.length → (backF old fr vs)[i]? = some (old.getD i none)
  | [], h, _ => nomatch h
  | v :: vs, h, hl => by
    show ((backF old fr vs).set v (old.getD v none))[i]? = _
    by_cases e : v = i
    · subst e; rw [List.getElem?_set_self (by rw [backF_length]; exact hl)]
    · rw [List.getElem?_set_ne e]
      exact backF_in ((List.mem_cons.mp h).resolve_left fun z => e z.symm) hl
theorem backF_out {old fr : Frame} {i : Nat} : ∀ {vs : List Nat}, i ∉ vs → (backF old fr vs)[i]? = fr[i]?
  | [], _ => rfl
  | v :: vs, h => by
    show ((backF old fr vs).set v (old.getD v none))[i]? = _
    rw [List.getElem?_set_ne (fun z => h (by rw [z]; exact List.mem_cons_self))]
    exact backF_out fun z => h (List.mem_cons_of_mem _ z)
theorem calmF_at {fr : Frame} {vs : List Nat} {i : Nat} {cl : Cell} (h : calmF fr vs = true) (hi : i ∈ vs) (e : fr[i]? = some (some (.own cl))) : False := by
  unfold calmF at h
  have := List.all_eq_true.mp h i hi
  rw [List.getD_eq_getElem?_getD, e] at this
  exact nomatch this
theorem Rel.back {K : PySem.W.Frag} {mg : Str → Option Value} {g g' : Gh} {fr fr' : Frame} {S S' : Store} {σ : L2.St} {H H' : Hp} {vs : List Nat} (r : Rel K mg g fr S σ H) (r' : Rel K mg g' fr' S' (L2.wipe σ vs) H') (k : Keep g H g' H') (hc : calmF fr vs = true) :
    Rel K mg g' (backF fr fr' vs) S' σ H' := by
  have hl : fr'.length = fr.length := by rw [r'.len, wipe_length', r.len]
  have get_in : ∀ (j : Nat) v, j ∈ vs → (backF fr fr' vs)[j]? = some (some v) → fr[j]? = some (some v) := fun j v hj e => by
    have hb : j < fr'.length := by
      have := (List.getElem?_eq_some_iff.mp e).1
      rw [backF_length] at this; exact this
    rw [backF_in hj hb] at e
    rw [List.getD_eq_getElem?_getD] at e
    cases q : fr[j]? with
    | none => rw [q] at e; cases e
    | some o => rw [q] at e; exact congrArg some (Option.some.inj e)
  have own_out : ∀ (j : Nat) cl, (backF fr fr' vs)[j]? = some (some (.own cl)) → j ∉ vs := fun j cl e hj => calmF_at hc hj (get_in j _ hj e)
  refine ⟨by rw [backF_length, r'.len, wipe_length'], fun j v e => ?_, fun i j c1 c2 a ne e1 e2 e3 => ?_, r'.st⟩
  · by_cases hj : j ∈ vs
    · have e' := get_in j v hj e
      obtain ⟨x, e1, s⟩ := r.slot j v e'
      refine ⟨x, e1, ?_⟩
      cases v with
      | fz d => exact RD.mono k.mono s
      | own cl => exact (calmF_at hc hj e').elim
    · rw [backF_out hj] at e
      obtain ⟨x, e1, s⟩ := r'.slot j v e
      rw [wipe_out hj] at e1
      exact ⟨x, e1, s⟩
  · have n1 := own_out i c1 e1
    have n2 := own_out j c2 e2
    rw [backF_out n1] at e1
    rw [backF_out n2] at e2
    have := r'.apart i j c1 c2 a ne e1 e2 (by rw [wipe_out n1]; exact e3)
    rw [wipe_out n2] at this
    exact this
theorem wk_comp {elt : Xp} {tg : Tg} {it : Wk} {cs : Xs} : ∀ σ H Q, tV c X W cf (.comp elt tg it cs) σ H Q →
    tLc (tWk c X W cf it) (gT X tg) (tX X.K X.mg (fun _ _ _ _ => False) rId (evC cf c.gl cs)) (tX X.K X.mg (fun _ _ _ _ => False) (rD X.K) (fun fr S => frzX (ev cf c.gl elt fr S))) ((tg.own c.N).map (·.2)) σ H Q := fun σ H Q ⟨g, fr, S, rel, h⟩ => by
  rw [own_slots]
  refine ⟨g, fr, S, rel, (Aft.bind rW_tmp h).imp fun J H1 ⟨ds, fr1, S1, g1, k1, rel1, r1, t1, h1⟩ => fun p hp => ?_⟩
  have h1' : Aft X.K X.mg W (rV X.K X.mg) g1 H1 σ (if calmF fr1 tg.slots then
      match compGo tg (evC cf c.gl cs) (fun fr S => frzX (ev cf c.gl elt fr S)) ds [] (wipeF fr1 tg.slots) S1 with
      | .ok acc fr' S' => .ok (.own (.lst acc)) (backF fr1 fr' tg.slots) S'
      | _ => .no else .no) Q := h1
  by_cases hcalm : calmF fr1 tg.slots = true
  · rw [if_pos hcalm] at h1'
    cases hR : compGo tg (evC cf c.gl cs) (fun fr S => frzX (ev cf c.gl elt fr S)) ds [] (wipeF fr1 tg.slots) S1 with
    | no => rw [hR] at h1'; exact h1'.elim
    | ex e f s => rw [hR] at h1'; exact h1'.elim
    | ok acc0 fr0 S0 =>
      rw [hR] at h1'
      obtain ⟨GG, Y, wk, hG, hY⟩ := r1.2
      have ntmp : p ∉ g1.tmp := fun z => rel1.st.fresh hp (.inr (.inr z))
      refine lc_it wk (fun j H2 => ∃ g2 fr2 S2 acc vacc, Keep g1 H1 g2 H2 ∧ g2.tmp = p :: g1.tmp ∧ Rel X.K X.mg g2 fr2 S2 (L2.wipe σ tg.slots) H2 ∧ H2 p = some (.lst vacc) ∧ RDs X.K g2 H2 acc vacc ∧
          compGo tg (evC cf c.gl cs) (fun fr S => frzX (ev cf c.gl elt fr S)) (ds.drop j) acc fr2 S2 = .ok acc0 fr0 S0)
        ⟨g1.push p, wipeF fr1 tg.slots, S1, [], [], keep_push hp, rfl, (rel1.push hp).wipe _, upd_same, .nil, hR⟩ (fun j H2 _ ⟨g2, _, _, _, _, kp, _⟩ => hG g2 H2 kp) ?_ ?_
      · rintro j x H2 H2' hj ⟨g2, fr2, S2, acc, vacc, kp, tm, rl, hv, racc, hgo⟩ hy
        obtain ⟨gr, d, ed, rd⟩ := hY j g2 H2 x H2' kp hj hy
        have rl' := rl.grows gr
        have hv' : H2' p = some (.lst vacc) := gr _ _ hv
        have racc' : RDs X.K g2 H2' acc vacc := racc.mono gr.mono
        have kp' : Keep g1 H1 g2 H2' := kp.trans gr.keep
        have ptmp : p ∈ g2.tmp := by rw [tm]; exact List.mem_cons_self
        have edrop : ds.drop j = d :: ds.drop (j + 1) := by
          obtain ⟨hb, e⟩ := List.getElem?_eq_some_iff.mp ed
          rw [List.drop_eq_getElem_cons hb, e]
        rw [edrop] at hgo
        have hgo' : (match asg tg d fr2 with
          | none => RX.no
          | some fr1 => match evC cf c.gl cs fr1 S2 with
            | .ok true fr2 S2 => match frzX (ev cf c.gl elt fr2 S2) with
              | .ok y fr3 S3 => if acc.length < sizeLine then compGo tg (evC cf c.gl cs) (fun fr S => frzX (ev cf c.gl elt fr S)) (ds.drop (j + 1)) (acc ++ [y]) (wipeF fr3 tg.slots) S3 else .no
              | _ => .no
            | .ok false fr2 S2 => compGo tg (evC cf c.gl cs) (fun fr S => frzX (ev cf c.gl elt fr S)) (ds.drop (j + 1)) acc (wipeF fr2 tg.slots) S2
            | _ => .no) = RX.ok acc0 fr0 S0 := hgo
        cases q1 : asg tg d fr2 with
        | none => rw [q1] at hgo'; cases hgo'
        | some fr3 =>
          rw [q1] at hgo'
          refine ⟨g2, fr2, S2, d, fr3, rl', rd, q1, fun σ2 rel2 l2 s2 => ⟨wipe_wipe l2 s2, ?_⟩⟩
          have ew : L2.wipe σ2 tg.slots = L2.wipe σ tg.slots := wipe_wipe l2 s2
          refine ⟨g2, fr3, S2, rel2, ?_⟩
          dsimp only at hgo'
          cases q2 : evC cf c.gl cs fr3 S2 with
          | no => rw [q2] at hgo'; cases hgo'
          | ex e f s => rw [q2] at hgo'; cases hgo'
          | ok bb fr4 S4 =>
            rw [q2] at hgo'
            intro g4 H4 b' k4 rel4 ⟨t4, eb⟩
            subst eb
            have p4 : p ∈ g4.tmp := by rw [t4]; exact ptmp
            have hv4 : H4 p = some (.lst vacc) := (k4.keep p _ hv' (fun z => (rel2.st.rt p z).2 ptmp) (fun z => rel2.st.ot p z ptmp)).1
            cases bb with
            | false =>
              refine iteF ⟨g4, wipeF fr4 tg.slots, S4, acc, vacc, kp'.trans k4, t4.trans tm, ?_, hv4, racc'.mono k4.mono, hgo'⟩
              have := rel4.wipe tg.slots
              rw [ew] at this
              exact this
            | true =>
              refine iteT ⟨g4, fr4, S4, rel4, ?_⟩
              dsimp only at hgo'
              show Aft X.K X.mg _ (rD X.K) g4 H4 σ2 (frzX (ev cf c.gl elt fr4 S4)) _
              cases q3 : frzX (ev cf c.gl elt fr4 S4) with
              | no => rw [q3] at hgo'; cases hgo'
              | ex e f s => rw [q3] at hgo'; cases hgo'
              | ok y fr5 S5 =>
                rw [q3] at hgo'
                intro g5 H5 yv k5 rel5 ⟨t5, ry⟩
                dsimp only at hgo'
                have hv5 : H5 p = some (.lst vacc) := (k5.keep p _ hv4 (fun z => (rel4.st.rt p z).2 p4) (fun z => rel4.st.ot p z p4)).1
                have p5 : p ∈ g5.tmp := by rw [t5]; exact p4
                by_cases hz : acc.length < sizeLine
                · rw [if_pos hz] at hgo'
                  refine ⟨vacc, hv5, by rw [← racc.length]; exact hz, ?_⟩
                  obtain ⟨m5, rel6⟩ := rel5.mutT (o := .lst (vacc ++ [yv])) p5 hv5
                  have kk := (kp'.trans k4).trans k5
                  refine ⟨g5, wipeF fr5 tg.slots, S5, acc ++ [y], vacc ++ [yv], ⟨fun a o e n1 n2 => ?_, kk.tmp, fun a xs e => m5.tups _ _ (kk.tups _ _ e), kk.pre⟩, t5.trans (t4.trans tm), ?_, upd_same, ((((racc'.mono k4.mono).mono k5.mono).mono m5).append (.one (ry.mono m5))), hgo'⟩
                  · obtain ⟨q, w1, w2⟩ := kk.keep a o e n1 n2
                    exact ⟨by rw [upd_ne (ne_of_none e hp)]; exact q, w1, w2⟩
                  · have := rel6.wipe tg.slots
                    rw [ew] at this
                    exact this
                · rw [if_neg hz] at hgo'; cases hgo'
      · rintro H2 ⟨g2, fr2, S2, acc, vacc, kp, tm, rl, hv, racc, hgo⟩
        rw [List.drop_length] at hgo
        have hgo' : RX.ok acc fr2 S2 = RX.ok acc0 fr0 S0 := hgo
        cases hgo'
        exact h1' g2 H2 (.ref p) kp (rel1.back rl kp hcalm) ⟨p, rfl, tm, ntmp, vacc, hv, racc⟩
  · rw [if_neg hcalm] at h1'; exact h1'.elim
theorem se_comp (G : Good c X W cf) {elt : Xp} {tg : Tg} {it : Wk} {cs : Xs} {el t i : Expr} {fs : List Expr} {sc : Scope} (hok : blkC c.N c.sc sc (tg.own c.N) = true) (hp : pln i = true) (hi : PI X t i (tWk c X W cf it))
    (hg : ∀ (s : Shared) (H : Hp) (C : Addr) (cl : List (Str × Addr)) (fp : List Addr), PG (X.blk s H sc (compEnvC sc cl C X.env) fp) t (gT X tg))
    (ht : ∀ (s : Shared) (H : Hp) (C : Addr) (cl : List (Str × Addr)) (fp : List Addr), PTs (X.blk s H sc (compEnvC sc cl C X.env) fp) fs (tX X.K X.mg (fun _ _ _ _ => False) rId (evC cf c.gl cs)))
    (he : ∀ (s : Shared) (H : Hp) (C : Addr) (cl : List (Str × Addr)) (fp : List Addr), PE (X.blk s H sc (compEnvC sc cl C X.env) fp) el (tX X.K X.mg (fun _ _ _ _ => False) (rV X.K X.mg) (ev cf c.gl elt))) :
    PE X (.ListComp el [⟨t, i, fs, 0⟩] sc pos) (tV c X W cf (.comp elt tg it cs)) := by
  have hok' : BlkOk X.N X.env.scope sc (tg.own c.N) := by rw [G.N, G.sc]; exact blkOk_by hok
  exact (pe_lc G.calm (by rw [G.N]; exact G.nd) hi hok' hg ht (fun s H C cl fp => frzPE (he s H C cl fp)) (pln_fold hp _)).weak wk_comp
end
end Eng
end

section
/-! The engine, part Y: x[::-1] of a tuple, over the heap. -/
namespace Eng
open PySem PySem.Spec PyProof.Rows L2
section
variable {prog : Program} {w : World} {A : Around} {E : Value → Shared → Prop} {s : Shared}
theorem sliceApplied_rev {sl : Addr} {vl vu vs : Value} {n : Nat} {Q : Int × Int × Nat → Shared → Prop} (hs : s.heap.IsSliceOf sl vl vu vs) (pl : IsPart vl none) (pu : IsPart vu none) (ps : IsPart vs (some (-1)))
    (h : Q ((n : Int) - 1, -1, n) s) : wpAny (model prog w) A (Builtin.Slice.sliceApplied (.ref sl) (pure (n : Int))) Q E s := by
  obtain ⟨os, h1, h2, h3⟩ := id hs
  unfold Builtin.Slice.sliceApplied Builtin.Slice.sliceFields
  refine wpAny_bind (wpAny_bind (wpAny_field h1 h3 (x := vl) rfl (wpAny_bind (wpAny_field h1 h3 (x := vu) rfl (wpAny_bind (wpAny_field h1 h3 (x := vs) rfl (wpAny_pure ?_)))))))
  refine wpAny_bind (HT.slicePart_ ps ?_)
  show wpAny _ _ (if ((-1 : Int) == 0) = true then _ else _) _ _ s
  rw [if_neg (by decide)]
  refine wpAny_bind (HT.slicePart_ pl (wpAny_bind (HT.slicePart_ pu (wpAny_bind (wpAny_pure ?_)))))
  have e1 : Builtin.Slice.sliceAdjust none none (-1) (n : Int) = ((n : Int) - 1, -1) := by
    unfold Builtin.Slice.sliceAdjust
    simp
  have e2 : Builtin.Slice.slicePlaces ((n : Int) - 1) (-1) (-1) = n := by
    unfold Builtin.Slice.slicePlaces
    have z : ¬ ((-1 : Int) > 0) := by omega
    simp only [z, if_false]
    split
    · have : (-(-1 : Int)) = 1 := by omega
      rw [this, Int.ediv_one]; omega
    · omega
  show wpAny _ _ (match Builtin.Slice.sliceAdjust none none (-1) (n : Int) with | (lo, hi) => pure (lo, (-1 : Int), Builtin.Slice.slicePlaces lo hi (-1))) _ _ s
  rw [e1]
  show wpAny _ _ (pure ((n : Int) - 1, (-1 : Int), Builtin.Slice.slicePlaces ((n : Int) - 1) (-1) (-1))) _ _ s
  rw [e2]
  exact wpAny_pure h
theorem pick_rev (xs : Array Value) : ((List.range xs.size).filterMap fun (m : Nat) => xs[(((xs.size : Int) - 1) + (m : Int) * (-1)).toNat]?).toArray = xs.toList.reverse.toArray := by
  congr 1
  refine List.ext_getElem? fun i => ?_
  have hs : ∀ m ∈ List.range xs.size, (fun (m : Nat) => xs[(((xs.size : Int) - 1) + (m : Int) * (-1)).toNat]?) m = some (xs.toList.reverse.getD m .none) := fun m hm => by
    have hm := List.mem_range.mp hm
    have e : (((xs.size : Int) - 1) + (m : Int) * (-1)).toNat = xs.size - 1 - m := by omega
    dsimp only
    rw [e, List.getD_eq_getElem?_getD, List.getElem?_reverse (by rw [Array.length_toList]; exact hm), Array.length_toList, Array.getElem?_toList, Array.getElem?_eq_getElem (by omega)]
    rfl
  have e2 : (List.range xs.size).filterMap (fun (m : Nat) => xs[(((xs.size : Int) - 1) + (m : Int) * (-1)).toNat]?) = (List.range xs.size).map fun m => xs.toList.reverse.getD m .none := by
    generalize List.range xs.size = l at hs
    induction l with
    | nil => rfl
    | cons a l ih =>
      have ha : xs[(((xs.size : Int) - 1) + (a : Int) * (-1)).toNat]? = some (xs.toList.reverse.getD a .none) := hs a List.mem_cons_self
      rw [List.filterMap_cons, ha, List.map_cons, ih fun m hm => hs m (List.mem_cons_of_mem _ hm)]
  rw [e2, List.getElem?_map]
  by_cases hi : i < xs.size
  · have hl : i < xs.toList.reverse.length := by rw [List.length_reverse, Array.length_toList]; exact hi
    rw [List.getElem?_range hi, Option.map_some, List.getD_eq_getElem?_getD, List.getElem?_eq_getElem hl]; rfl
  · rw [List.getElem?_eq_none (by rw [List.length_range]; omega), List.getElem?_eq_none (by rw [List.length_reverse, Array.length_toList]; omega)]; rfl
theorem getItem_tuple_rev {t sl : Addr} {items : Array Value} {vl vu vs : Value} {Q : Value → Shared → Prop} (ht : IsTup s.heap t items) (hs : s.heap.IsSliceOf sl vl vu vs) (pl : IsPart vl none) (pu : IsPart vu none) (ps : IsPart vs (some (-1)))
    (h : Q (.ref s.heap.objs.size) { s with heap := s.heap.push { cls := .type "tuple", data := .seq items.toList.reverse.toArray } }) (hz : items.size ≤ sizeLine) : wpAny (model prog w) A (getItem (.ref t) (.ref sl)) Q E s := by
  have fit : sizeOk (.seq items.toList.reverse.toArray) := by
    show items.toList.reverse.toArray.size ≤ sizeLine
    rw [List.size_toArray, List.length_reverse, Array.length_toList]; exact hz
  obtain ⟨os, h1, h2, h3⟩ := id hs
  have ts : s.TypeIs (.ref sl) "slice" := ⟨os, h1, h2⟩
  unfold getItem
  try with_reducible refine wpAny_holding ?_
  first | refine wpAny_bind (wpAny_pure ?_) | skip
  refine wpAny_bind (wpAny_sequenceKey ht.typeIs (by decide) ?_)
  refine wpAny_bind (wpAny_callSpecial?_slot (name := Str.ofString "__getitem__") ht.typeIs PyProof.Rows.slot_tuple_getitem (wpAny_call_entry PyProof.Rows.slot_tuple_getitem ht.typeIs entry_tuple_getitem ?_ (args_tuple_getitem _ _)))
  show wpAny _ _ (Builtin.Tuple.tupleItemsOf (.ref t) >>= _) _ _ s
  refine wpAny_bind (tupleItemsOf_ ht ?_)
  refine wpAny_bind (wpAny_typeOf ts ?_)
  rw [if_pos (by decide)]
  refine wpAny_bind (sliceApplied_rev hs pl pu ps ?_)
  have no : ¬ ((((items.size : Int) - 1) == 0 && (-1 : Int) == 1 && items.size == items.size) = true) := by
    intro q
    rw [Bool.and_eq_true, Bool.and_eq_true] at q
    exact absurd q.1.2 (by decide)
  show wpAny _ _ (if (((items.size : Int) - 1) == 0 && (-1 : Int) == 1 && items.size == items.size) = true then _ else _) _ _ s
  rw [if_neg no, pick_rev]
  first
    | exact wpAny_bind (m := Builtin.Tuple.tupleExact _) (wpAny_newObj_type (wpAny_pure ⟨_, rfl, wpAny_pure h⟩) fit)
    | exact wpAny_bind (m := Builtin.Tuple.tupleExact _) (wpAny_newObj_type (wpAny_bind (wpAny_pure (wpAny_pure ⟨_, rfl, wpAny_pure h⟩))) fit)
end
section
variable {X : Cx}
/-- x[::-1], x a list or a tuple -/
def tRev (K : PySem.W.Frag) (te : TE) : TE := fun σ H Q => te σ H fun x H1 => ∃ a xs, x = .ref a ∧ ((SqL K H1 a xs ∧ ∀ p, H1 p = none → Q (.ref p) (upd H1 p (.lst xs.reverse))) ∨ (SqT K H1 a xs ∧ ∀ p, H1 p = none → Q (.ref p) (upd H1 p (.tup xs.reverse))))
theorem pe_rev {e : Expr} {te : TE} {k : Nat} {p1 p2 p3 pos : Pos} (he : PE X e te) : PE X (.Subscript e (.Slice none none (some (.UnaryOp .USub (.Constant (.int 1) k p1) p2)) p3) pos) (tRev X.K te) := by
  refine ⟨fun pins s σ H Q I h => Subscript_ (thn (he.run pins s σ H _ I h) fun v s1 ⟨x, H1, I1, r1, a, xs, ex, q⟩ => ?_)⟩
  subst ex
  cases r1
  have st : PO X (some (.UnaryOp .USub (.Constant (.int 1) k p1) p2)) (tPart (tUn (rU fun i => .int (-i)) (tC (.int 1)))) := po_some (pe_un un_neg pe_int)
  refine wpAny_Slice (thn (po_none.run pins s1 σ H1 (fun o H2 => o = none ∧ H2 = H1) I1 ⟨rfl, rfl⟩) fun vl s2 ⟨l, H2, I2, pl, z1, z2⟩ => ?_)
  subst z1 z2
  refine thn (po_none.run pins s2 σ H2 (fun o H3 => o = none ∧ H3 = H2) I2 ⟨rfl, rfl⟩) fun vu s3 ⟨u, H3, I3, pu, z1, z2⟩ => ?_
  subst z1 z2
  refine thn (st.run pins s3 σ H3 (fun o H4 => o = some (-1) ∧ H4 = H3) I3 ⟨1, rfl, -1, rfl, rfl, rfl⟩) fun vs s4 ⟨o, H4, I4, ps, z1, z2⟩ => ?_
  subst z1 z2
  have J5 : Inv X pins σ H4 { s4 with heap := s4.heap.push { cls := .type "slice", data := .fields #[vl, vu, vs] } } := I4.kept (t' := s4.toks) fun b ob q => Heap.get?_push_of_some _ q
  show wpAny (model X.prog X.w) X.A (subscriptTail e (.Slice none none (some (.UnaryOp .USub (.Constant (.int 1) k p1) p2)) p3) (.ref a) (.ref (s4.heap.objs.size))) (EP X pins σ Q) X.xe { s4 with heap := s4.heap.push { cls := .type "slice", data := .fields #[vl, vu, vs] } }
  rcases q with ⟨hx, q⟩ | ⟨hx, q⟩
  · obtain ⟨its, r, ht, hz⟩ := J5.list hx
    refine tail_any (ops := [.ref a, .ref (s4.heap.objs.size)]) ht.isList.typeIs PySem.slot_list_getitem.lookup ?_ (by with_unfolding_all rfl)
    refine wpAny_getItem_list_slice ht.isList (Heap.IsSliceOf.new _ vl vu vs) pl pu ps (by decide) ?_ (by rw [List.size_toArray, ← r.length]; exact hz)
    rw [PySem.W.krv_pick]
    exact ⟨.ref _, _, J5.laid (t' := s4.toks) (o := .lst xs.reverse) (fun b ob q => Heap.get?_push_of_some _ q) (Nat.le_refl _) ⟨by rw [List.length_reverse]; exact hz, _, 0, r.reverse, Heap.get?_push_size _ rfl⟩, rfl, q _ (J5.hok.fresh (Nat.le_refl _))⟩
  · obtain ⟨its, r, ht, hz⟩ := J5.tuple hx
    refine tail_any (ops := [.ref a, .ref s4.heap.objs.size]) ht.typeIs (PyProof.Rows.slot_tuple_getitem.lookup) ?_ (by with_unfolding_all rfl)
    refine getItem_tuple_rev ht (Heap.IsSliceOf.new _ vl vu vs) pl pu ps ?_ (by rw [List.size_toArray, ← r.length]; exact hz)
    exact ⟨.ref _, _, J5.laid (t' := s4.toks) (o := .tup xs.reverse) (fun b ob q => Heap.get?_push_of_some _ q) (Nat.le_refl _) ⟨by rw [List.length_reverse]; exact hz, _, r.reverse, IsTup.new _ _⟩, rfl, q _ (J5.hok.fresh (Nat.le_refl _))⟩
end
end Eng
end

section
/-! The engine, part X: more expressions: -x, {}, sorted(set(x)), min(x, default=y), range(a, b, -1). -/
namespace Eng
open PySem PySem.Spec PyProof.Rows L2
section
variable {c : SC} {X : Cx} {W : WX} {cf : CF} {pos : Pos} {a b d : Xp} {l r z : Expr}
theorem se_neg (ha : PE X l (tV c X W cf a)) : PE X (.UnaryOp .USub l pos) (tV c X W cf (.neg a)) := by
  refine (pe_un un_neg (frzPE ha)).weak fun σ H Q ⟨g, fr, S, rel, h⟩ => ⟨g, fr, S, rel, ?_⟩
  refine (Aft.bind rD_tmp h).imp fun x H1 ⟨d1, fr1, S1, g1, k1, rel1, r1, t1, h1⟩ => ?_
  cases d1 with
  | int i =>
    obtain rfl := RD.of_int r1.2
    exact ⟨i, rfl, fin_old h1 rel1 (.int _)⟩
  | _ => exact h1.elim
theorem fin_own {cl : Cell} {g : Gh} {H : Hp} {fr : Frame} {S : Store} {σ : L2.St} {Q : VK} {o : HO} {p : Addr} (h : Aft X.K X.mg W (rV X.K X.mg) g H σ (.ok (.own cl) fr S) Q) (rel : Rel X.K X.mg g fr S σ H) (hp : H p = none)
    (hc : ∀ g' H', H' p = some o → CellR X.K X.mg g' H' p cl) : Q (.ref p) (upd H p o) :=
  h (g.push p) _ _ (keep_push hp) (rel.push hp) ⟨p, rfl, rfl, fun z => rel.st.fresh hp (.inr (.inr z)), hc _ _ upd_same⟩
theorem se_dic0 (t : Bool) : PE X (.Dict [] [] pos) (tV c X W cf (.dic0 t)) := by
  cases t with
  | true => exact pe_dnewT.weak fun σ H Q ⟨g, fr, S, rel, h⟩ p hp => fin_own h rel hp fun g' H' e => ⟨[], e, rfl, .nil⟩
  | false => exact pe_dnewK.weak fun σ H Q ⟨g, fr, S, rel, h⟩ p hp => fin_own h rel hp fun g' H' e => ⟨[], e, rfl, .nil⟩
theorem se_sortset (G : Good c X W cf) {p p2 p3 : Pos} (hl : glB c "sorted" = true) (hr : glB c "set" = true) (hb : PE X r (tV c X W cf b)) (hp : pln r = true) :
    PE X (.Call (.Name "sorted" p) [.Call (.Name "set" p2) [r] [] p3] [] pos) (tV c X W cf (.sortset b)) := by
  obtain ⟨g1, g2⟩ := G.glob hl
  obtain ⟨z1, z2⟩ := G.glob hr
  refine (pe_sortset g1 (G.blt _ (by decide +kernel)) z1 (G.blt _ (by decide +kernel)) (frzPE hb) G.calm (pln_star hp _)).weak fun σ H Q ⟨g, fr, S, rel, h⟩ => ⟨g, fr, S, rel, ?_⟩
  refine (Aft.bind rD_tmp h).imp fun x H1 ⟨d1, fr1, S1, g1, k1, rel1, r1, t1, h1⟩ => ?_
  have key : ∀ (ys : List D) (vs : List V) (q : Addr), (SqL X.K H1 q vs ∨ SqT X.K H1 q vs) → RDs X.K g1 H1 ys vs → Aft X.K X.mg W (rV X.K X.mg) g1 H1 σ (RX.lift ((intL ys).bind fun ns => if ns.length ≤ 60 then some (Val.own (.lst ((setI ns).map .int))) else none) fr1 S1) Q →
      ∃ (l : Addr) (ns : List Int), V.ref q = .ref l ∧ (SqL X.K H1 l (ns.map V.int) ∨ SqT X.K H1 l (ns.map V.int)) ∧ ns.length ≤ 60 ∧ ∀ (ms : List Int) (p : Addr), ms.Pairwise (· < ·) → (∀ k, k ∈ ms ↔ k ∈ ns) → H1 p = none → Q (.ref p) (upd H1 p (.lst (ms.map V.int))) := by
    intro ys vs q hs h3 h4
    cases q1 : intL ys with
    | none => rw [q1] at h4; exact h4.elim
    | some ns =>
      rw [q1] at h4
      obtain rfl := intL_rel h3 q1
      have h5 : Aft X.K X.mg W (rV X.K X.mg) g1 H1 σ (RX.lift (if ns.length ≤ 60 then some (Val.own (.lst ((setI ns).map .int))) else none) fr1 S1) Q := h4
      by_cases hc : ns.length ≤ 60
      · rw [if_pos hc] at h5
        refine ⟨q, ns, rfl, hs, hc, fun ms p pw mm hp => ?_⟩
        rw [setI_one pw mm]
        exact fin_lst h5 rel1 (ints_rel _) hp
      · rw [if_neg hc] at h5; exact h5.elim
  cases d1 with
  | lst ys =>
    obtain ⟨q, vs, rfl, h2, _, h3⟩ := r1.2.tracked_lst
    exact key ys vs q (.inl (SqL.of h2)) h3 h1
  | tup ys =>
    obtain ⟨q, vs, rfl, h2, h3⟩ := RD.of_tup r1.2
    exact key ys vs q (.inr h2) h3 h1
  | _ => exact h1.elim

theorem se_rev {k : Nat} {p1 p2 p3 : Pos} (ha : PE X l (tV c X W cf a)) : PE X (.Subscript l (.Slice none none (some (.UnaryOp .USub (.Constant (.int 1) k p1) p2)) p3) pos) (tV c X W cf (.rev a)) := by
  refine (pe_rev (frzPE ha)).weak fun σ H Q ⟨g, fr, S, rel, h⟩ => ⟨g, fr, S, rel, ?_⟩
  refine (Aft.bind rD_tmp h).imp fun x H1 ⟨d1, fr1, S1, g1, k1, rel1, r1, t1, h1⟩ => ?_
  cases d1 with
  | lst ys =>
    obtain ⟨q, vs, rfl, h2, _, h3⟩ := r1.2.tracked_lst
    exact ⟨q, vs, rfl, .inl ⟨SqL.of h2, fun p hp => fin_lst h1 rel1 h3.reverse hp⟩⟩
  | tup ys =>
    obtain ⟨q, vs, rfl, h2, h3⟩ := RD.of_tup r1.2
    exact ⟨q, vs, rfl, .inr ⟨h2, fun p hp => fin_tup h1 rel1 h3.reverse hp⟩⟩
  | _ => exact h1.elim
theorem toP_inj : ∀ a b : D, a.pl = true → b.pl = true → a.toP = b.toP → a = b := by
  refine fun a => D.rec (motive_1 := fun a => ∀ b, a.pl = true → b.pl = true → a.toP = b.toP → a = b) (motive_2 := fun a => ∀ b, D.pls a = true → D.pls b = true → D.toPs a = D.toPs b → a = b) ?_ ?_ ?_ ?_ ?_ ?_ ?_ ?_ ?_ ?_ ?_ ?_ a
  · intro b _ h2 h; cases b <;> first | rfl | (cases h2; done) | (cases h; done)
  · intro t b _ h2 h; cases b <;> first | (cases h2; done) | (cases h; done) | (cases h; rfl)
  · intro t b _ h2 h; cases b <;> first | (cases h2; done) | (cases h; done) | (cases h; rfl)
  · intro t b _ h2 h; cases b <;> first | (cases h2; done) | (cases h; done) | (cases h; rfl)
  · intro xs ih b h1 h2 h
    cases b with
    | lst ys => rw [ih ys h1 h2 (PyData.list.inj h)]
    | _ => first | (cases h2; done) | (cases h; done)
  · intro xs ih b h1 h2 h
    cases b with
    | tup ys => rw [ih ys h1 h2 (PyData.tuple.inj h)]
    | _ => first | (cases h2; done) | (cases h; done)
  · intro ks vs _ b h1; cases h1
  · intro ks vs _ b h1; cases h1
  · intro n b h1; cases h1
  · intro xs _ b h1; cases h1
  · intro b _ _ h; cases b with
    | nil => rfl
    | cons _ _ => cases h
  · intro x xs ih1 ih2 b h1 h2 h
    cases b with
    | nil => cases h
    | cons y ys =>
      have h1' : (D.pl x && D.pls xs) = true := h1
      have h2' : (D.pl y && D.pls ys) = true := h2
      rw [Bool.and_eq_true] at h1' h2'
      obtain ⟨e1, e2⟩ := List.cons.inj (show D.toP x :: D.toPs xs = D.toP y :: D.toPs ys from h)
      rw [ih1 y h1'.1 h2'.1 e1, ih2 ys h1'.2 h2'.2 e2]
theorem toPs_map : ∀ xs : List D, D.toPs xs = xs.map D.toP
  | [] => rfl
  | x :: xs => by show D.toP x :: D.toPs xs = _; rw [toPs_map xs]; rfl
theorem pls_mem : ∀ {xs : List D}, D.pls xs = true → ∀ x ∈ xs, D.pl x = true
  | y :: ys, h, x, hx => by
    have h' : (D.pl y && D.pls ys) = true := h
    rw [Bool.and_eq_true] at h'
    rcases List.mem_cons.mp hx with rfl | hx
    · exact h'.1
    · exact pls_mem h'.2 x hx
theorem minL_toP : ∀ (ys : List D) (y : D), PySem.W.minD y.toP (D.toPs ys) = (minL y ys).toP
  | [], y => rfl
  | z :: ys, y => by
    show (D.toPs ys).foldl _ (if PySem.W.dataLt z.toP y.toP then z.toP else y.toP) = (ys.foldl _ (if D.ltb z y then z else y)).toP
    have e : (if PySem.W.dataLt z.toP y.toP = true then z.toP else y.toP) = (if D.ltb z y = true then z else y).toP := by
      show _ = (if PySem.W.dataLt z.toP y.toP = true then z else y).toP
      split <;> rfl
    rw [e]
    exact minL_toP ys _
theorem minL_mem : ∀ (ys : List D) (y : D), minL y ys ∈ y :: ys
  | [], y => List.mem_cons_self
  | z :: ys, y => by
    have h : minL y (z :: ys) = minL (if D.ltb z y then z else y) ys := rfl
    rw [h]
    rcases List.mem_cons.mp (minL_mem ys (if D.ltb z y then z else y)) with e | e
    · rw [e]; split
      · exact List.mem_cons_of_mem _ List.mem_cons_self
      · exact List.mem_cons_self
    · exact List.mem_cons_of_mem _ (List.mem_cons_of_mem _ e)
theorem isNon_toP {d : D} (h : d.pl = true) (n : d.isNon = false) : d.toP ≠ .none := by
  cases d <;> first | (cases h; done) | (cases n; done) | (intro e; cases e; done)
theorem se_mind (G : Good c X W cf) {p q : Pos} (hg : glB c "min" = true) (ha : PE X l (tV c X W cf a)) (hb : PE X r (tV c X W cf b)) (hp : pln l = true) :
    PE X (.Call (.Name "min" p) [l] [⟨some "default", r, q⟩] pos) (tV c X W cf (.mind a b)) := by
  obtain ⟨g1, g2⟩ := G.glob hg
  have s1 : starEach [l] X.env = [(false, eval l X.env)] := pln_star hp _
  refine (pe_callBK (cr_minDef G.calm G.un) g1 (G.blt _ (by decide +kernel)) (by decide +kernel) (pa_cons (frzPE ha) pa_nil (pln_star hp _)) (pk_cons (frzPE hb) pk_nil) (by decide +kernel) g2 (by rw [s1]; rfl) (by rw [s1]; rfl)).weak fun σ H Q ⟨g, fr, S, rel, h⟩ => ⟨g, fr, S, rel, ?_⟩
  refine (Aft.bind rD_tmp h).imp fun x H1 ⟨d1, fr1, S1, g1, k1, rel1, r1, t1, h1⟩ => ⟨g1, fr1, S1, rel1, ?_⟩
  refine (Aft.bind rD_tmp h1).imp fun y H2 ⟨d2, fr2, S2, g2, k2, rel2, r2, t2, h2⟩ => ?_
  cases d1 with
  | lst ys =>
    obtain ⟨q, vs, rfl, hq, _, h3⟩ := (r1.2.mono k2.mono).tracked_lst
    cases ys with
    | nil =>
      have e : D.toPs [] = [] := rfl
      cases h3
      exact ⟨q, [], [], y, rfl, rfl, SqL.of hq, .nil, ⟨fun _ z => (nomatch z), fun _ z => (nomatch z)⟩, Nat.zero_le _, fun _ => fin_old h2 rel2 r2.2, fun i v y ys e => (nomatch e)⟩
    | cons w ys =>
      have h2' : Aft X.K X.mg W (rV X.K X.mg) g2 H2 σ (RX.lift ((if alkD (w :: ys) then some (minL w ys) else none).map Val.fz) fr2 S2) Q := h2
      by_cases hk : alkD (w :: ys) = true
      · rw [if_pos hk] at h2'
        unfold alkD at hk
        rw [Bool.and_eq_true, Bool.and_eq_true] at hk
        obtain ⟨⟨p1, p2⟩, p3⟩ := hk
        have p2 := of_decide_eq_true p2
        rw [List.all_eq_true] at p3
        have dp := RDs.dp _ _ h3 p1
        refine ⟨q, vs, D.toPs (w :: ys), y, rfl, rfl, SqL.of hq, dp, ⟨fun x hx z hz => ?_, fun x hx => ?_⟩, by rw [toPs_dep _ p1]; exact p2, fun e => (nomatch e), fun i v y0 ys0 e hv hm => ?_⟩
        · rw [toPs_map] at hx hz
          obtain ⟨x', hx', rfl⟩ := List.mem_map.mp hx
          obtain ⟨z', hz', rfl⟩ := List.mem_map.mp hz
          have := p3 x' hx'
          rw [Bool.and_eq_true, List.all_eq_true] at this
          exact this.2 z' hz'
        · rw [toPs_map] at hx
          obtain ⟨x', hx', rfl⟩ := List.mem_map.mp hx
          have := p3 x' hx'
          rw [Bool.and_eq_true, Bool.not_eq_true'] at this
          exact isNon_toP (pls_mem p1 x' hx') this.1
        · obtain ⟨rfl, rfl⟩ := List.cons.inj (show D.toP w :: D.toPs ys = y0 :: ys0 from e)
          obtain ⟨dv, hd1, hd2⟩ := h3.getV hv
          have e1 : (D.toPs (w :: ys))[i]? = some dv.toP := by rw [toPs_map, List.getElem?_map, hd1]; rfl
          rw [e1, minL_toP] at hm
          have hm := Option.some.inj hm
          have : dv = minL w ys := toP_inj _ _ (pls_mem p1 dv (List.mem_of_getElem? hd1)) (pls_mem p1 _ (minL_mem ys w)) hm
          subst this
          exact fin_old h2' rel2 hd2
      · rw [if_neg hk] at h2'; exact h2'.elim
  | _ => exact h2.elim
theorem walks_rngN {K : PySem.W.Frag} {g : Gh} {H : Hp} (lo hi : Int) : WalksD K (Itc lo (-1) (lo - hi).toNat) g H (rgN lo hi) := by
  have hl : (rgN lo hi).length = (lo - hi).toNat := by unfold rgN; rw [List.length_map, List.length_range]
  refine ⟨_, _, by rw [hl]; exact walk_rangeC, fun _ _ _ => trivial, fun i g' H' x H2 k hi' y => ?_⟩
  obtain ⟨rfl, rfl⟩ := y
  refine ⟨Grows.refl, .int (lo - (i : Nat)), ?_, ?_⟩
  · unfold rgN
    rw [List.getElem?_map, List.getElem?_range (by rw [hl] at hi'; exact hi')]
    rfl
  · have e : lo + (i : Nat) * (-1) = lo - (i : Nat) := by omega
    show RD K g' H2 (D.int (lo - (i : Nat))) (V.int (lo + (i : Nat) * (-1)))
    rw [e]; exact .int _
theorem sw_rng3 (G : Good c X W cf) {p : Pos} {tge : Expr} (hr : glB c "range" = true) (ha : PE X l (tV c X W cf a)) (hb : PE X r (tV c X W cf b)) (hd : PE X z (tV c X W cf d)) (hp : pln l = true) (hq : pln r = true) (hz : pln z = true) :
    PI X tge (.Call (.Name "range" p) [l, r, z] [] pos) (tWk c X W cf (.rng3 a b d)) := by
  obtain ⟨z1, z2⟩ := G.glob hr
  have s3 : starEach [z] X.env = [(false, eval z X.env)] := pln_star hz _
  have s2 : starEach [r, z] X.env = [(false, eval r X.env), (false, eval z X.env)] := by rw [pln_star hq, s3]
  refine (pi_range3 z1 (G.blt _ (by decide +kernel)) (pa_cons (frzPE ha) (pa_cons (frzPE hb) (pa_cons (frzPE hd) pa_nil (pln_star hz _)) (pln_star hq _)) (pln_star hp _)) (pln_star hp _) (by rw [s2]; rfl)).weak fun σ H R ⟨g, fr, S, rel, h⟩ => ⟨g, fr, S, rel, ?_⟩
  refine (Aft.bind rD_tmp h).imp fun x H1 ⟨d1, fr1, S1, g1, k1, rel1, r1, t1, h1⟩ => ⟨g1, fr1, S1, rel1, ?_⟩
  refine (Aft.bind rD_tmp h1).imp fun y H2 ⟨d2, fr2, S2, g2, k2, rel2, r2, t2, h2⟩ => ⟨g2, fr2, S2, rel2, ?_⟩
  refine (Aft.bind rD_tmp h2).imp fun w H3 ⟨d3, fr3, S3, g3, k3, rel3, r3, t3, h3⟩ => ?_
  cases d1 with
  | int i =>
    cases d2 with
    | int j =>
      cases d3 with
      | int k =>
        obtain rfl := RD.of_int r1.2
        obtain rfl := RD.of_int r2.2
        obtain rfl := RD.of_int r3.2
        have h3' : Aft X.K X.mg W (rW X.K) g3 H3 σ (if k = -1 ∧ rgOk i j = true then .ok (rgN i j) fr3 S3 else .no) R := h3
        by_cases hc : k = -1 ∧ rgOk i j = true
        · rw [if_pos hc] at h3'
          obtain ⟨rfl, hc⟩ := hc
          obtain ⟨b1, b2, b3, b4⟩ := rgOk_of hc
          exact ⟨i, j, -1, _, rfl, RgC.neg b1 b2 b3 b4, h3' g3 H3 _ Keep.refl rel3 ⟨rfl, walks_rngN i j⟩⟩
        · rw [if_neg hc] at h3'; exact h3'.elim
      | _ => exact h3.elim
    | _ => exact h3.elim
  | _ => exact h3.elim
end
end Eng
end

section
/-! The engine, part N: instances: fields, methods, making; methods of built-in things; x or y; isinstance of an own class. -/
namespace Eng
open PySem PySem.Spec PyProof.Rows L2

theorem noSup_base {o : Expr} (h : noSup o = true) (m : Str) (env : Env) : attributeBase o m env (eval o env) = eval o env := by
  cases o with
  | Call f as ks p => cases f with
    | Name x q => cases as with
      | nil => cases ks with
        | nil => cases h
        | cons _ _ => rfl
      | cons _ _ => rfl
    | _ => rfl
  | _ => rfl
/-- the form of a method's call -/
theorem meth_form {o : Expr} {m : Str} {ap p : Pos} {es : List Expr} {env : Env} (hs : noSup o = true) (hl : (ap.endLine == p.line) = true) (hf : methodCallForm (es.length + 0) (backTo p (starEach es env)) (backToKw p (keywordEach [] env)) = true) :
    eval (.Call (.Attribute o m ap) es [] p) env = (do
      let ov ← eval o env
      standAt ap.atName
      let (f, first) ← holding [ov] (getMethod ov m (do return (← importBound o env).getD true))
      callWith p f first (backTo p (starEach es env)) (backToKw p (keywordEach [] env))) := by
  show (attributeBase o m env (eval o env) >>= fun ov => standAt ap.atName >>= fun _ => methodCall o m ap p env ov (es.length + ([] : List Keyword).length) (backTo p (starEach es env)) (backToKw p (keywordEach [] env))) = _
  rw [noSup_base hs]
  unfold methodCall
  have e : es.length + ([] : List Keyword).length = es.length + 0 := rfl
  rw [e, hf]
  unfold calleeOf methodCallPos
  rw [hl]
  rfl
section
variable {c : SC} {X : Cx} {W : WX} {cf : CF} {pos : Pos} {a b d : Xp} {l r z : Expr}
theorem all_not {α : Type} (f : α → Bool) : ∀ l : List α, l.any f = false → l.all (fun x => !f x) = true
  | [], _ => rfl
  | x :: xs, h => by
    have h' : (f x || xs.any f) = false := h
    rw [Bool.or_eq_false_iff] at h'
    show (!f x && xs.all fun x => !f x) = true
    rw [h'.1, all_not f xs h'.2]; rfl
theorem chks_form {ms : Xs} {es : List Expr} (h : chks ms c es = true) (hl : es.length < 20) (env : Env) (p : Pos) : methodCallForm (es.length + 0) (backTo p (starEach es env)) (backToKw p (keywordEach [] env)) = true := by
  unfold methodCallForm
  rw [all_not _ _ (chks_plain ms es h env p)]
  show (true && true && decide (es.length + 0 + 0 < 30)) = true
  rw [decide_eq_true (by omega)]; rfl
/-- o.m(e, ..), a method of the program -/
theorem pe_methG {n : Nat} {fa C : Addr} {fd : FuncData} {qs : List Str} {sp : Sp} {U : L2.St → XK} {dvs : List V} {ds : List Value} {o y : Expr} {m : Str} {ap : Pos} {ys : List Expr} {ta : TE} {t : TA} {pl : Sem Bool} (he : PE X o ta) (cl : Cls X.K C) (hm : Meth X.K C m fa) (F : FnG X.prog X.w X.K X.mg X.base n fa fd qs sp)
    (hq : X.A.guards = some []) (hr : Room n X.A) (hb : Binds X.K fd qs ds) (hd : Vals dvs ds) (hx : ∀ σ, PassesAt (L2.CX X.prog X.w) X σ (U σ)) (ha : PA X (y :: ys) t) (h1 : starEach (y :: ys) X.env = (false, eval y X.env) :: starEach ys X.env)
    (h2 : (backTo pos (starEach ys X.env)).any (·.1) = false) (hf : eval (.Call (.Attribute o m ap) (y :: ys) [] pos) X.env = (do
      let ov ← eval o X.env
      standAt ap.atName
      let (f, first) ← holding [ov] (getMethod ov m pl)
      callWith pos f first (backTo pos (starEach (y :: ys) X.env)) (backToKw pos (keywordEach [] X.env)))) :
    PE X (.Call (.Attribute o m ap) (y :: ys) [] pos) (fun σ H Q => ta σ H fun x H1 => ∃ p dx fs, x = .ref p ∧ H1 p = some (.ins C dx fs) ∧ fs.lookup m = none ∧ t σ H1 fun xs H2 => sp ((x :: xs) ++ dvs) H2 Q (U σ)) := by
  refine ⟨fun pn s σ H Q I h => PySem.W.methodCall_KW (pl := pl) (thn (he.run pn s σ H _ I h) fun u s1 q => ?_) hf⟩
  obtain ⟨x, H1, J, rx, p, dx, fs, ex, ep, hl, q⟩ := q
  subst ex
  obtain rfl : u = Value.ref p := rx
  refine getmeth_ok J ep cl hm hl (PySem.W.callWith_K (first := [.ref p]) (h₀ := X.base) I.ok.mod.kin hm.kp (thn (ha.run pos pn s1 σ H1 _ J q) fun us s2 z => ?_) h1 h2)
  obtain ⟨vs, H2, J2, r, z⟩ := z
  exact ⟨J2.kIn, run_G (us := .ref p :: us) (xs := .ref p :: vs) F hq hr hb hd (hx σ) J2 (.cons rfl r) z⟩
/-- o.m() -/
theorem pe_methG0 {n : Nat} {fa C : Addr} {fd : FuncData} {qs : List Str} {sp : Sp} {U : L2.St → XK} {dvs : List V} {ds : List Value} {o : Expr} {m : Str} {ap : Pos} {ta : TE} {pl : Sem Bool} (he : PE X o ta) (cl : Cls X.K C) (hm : Meth X.K C m fa) (F : FnG X.prog X.w X.K X.mg X.base n fa fd qs sp)
    (hq : X.A.guards = some []) (hr : Room n X.A) (hb : Binds X.K fd qs ds) (hd : Vals dvs ds) (hx : ∀ σ, PassesAt (L2.CX X.prog X.w) X σ (U σ)) (hf : eval (.Call (.Attribute o m ap) [] [] pos) X.env = (do
      let ov ← eval o X.env
      standAt ap.atName
      let (f, first) ← holding [ov] (getMethod ov m pl)
      callWith pos f first (backTo pos (starEach [] X.env)) (backToKw pos (keywordEach [] X.env)))) :
    PE X (.Call (.Attribute o m ap) [] [] pos) (fun σ H Q => ta σ H fun x H1 => ∃ p dx fs, x = .ref p ∧ H1 p = some (.ins C dx fs) ∧ fs.lookup m = none ∧ sp ([x] ++ dvs) H1 Q (U σ)) := by
  refine ⟨fun pn s σ H Q I h => PySem.W.methodCall_KW (pl := pl) (thn (he.run pn s σ H _ I h) fun u s1 q => ?_) hf⟩
  obtain ⟨x, H1, J, rx, p, dx, fs, ex, ep, hl, q⟩ := q
  subst ex
  obtain rfl : u = Value.ref p := rx
  exact getmeth_ok J ep cl hm hl (PySem.W.callWith_K0 (first := [.ref p]) J.kIn hm.kp (run_G (us := [.ref p]) (xs := [.ref p]) F hq hr hb hd (hx σ) J (.cons rfl .nil) q))
/-- an instance is made -/
theorem run_makeG {n : Nat} {fa C : Addr} {fd : FuncData} {qs : List Str} {sp : Sp} {E : XK} {dvs : List V} {ds : List Value} {pn : List (Addr × Obj)} {σ : L2.St} {H : Hp} {s : Shared} {Q : VK} {us : List Value} {xs : List V} (M : Mk X.K C fa) (F : FnG X.prog X.w X.K X.mg X.base n fa fd qs sp) (hq : X.A.guards = some []) (hr : Room (n + 1) X.A)
    (hb : Binds X.K fd qs ds) (hd : Vals dvs ds) (hx : PassesAt (L2.CX X.prog X.w) X σ E) (J : Inv X pn σ H s) (rx : Vals xs us)
    (h : ∀ x dx, H x = none → H dx = none → dx ≠ x → sp (.ref x :: (xs ++ dvs)) (upd (upd H dx (.own x)) x (.ins C dx [])) (fun v H2 => v = .non ∧ Q (.ref x) H2) E) : wpAny (model X.prog X.w) X.A (call (.ref C) us) (EP X pn σ Q) X.xe s := by
  have z := h (s.heap.objs.size + 1) s.heap.objs.size (J.hok.fresh (Nat.le_succ _)) (J.hok.fresh (Nat.le_refl _)) (Nat.ne_of_lt (Nat.lt_succ_self _))
  have J2 := Inv.made (C := C) J
  have r2 : Vals (.ref (s.heap.objs.size + 1) :: (xs ++ dvs)) (.ref (s.heap.objs.size + 1) :: (us ++ ds)) := .cons rfl (rx.append hd)
  have hl : (Value.ref (s.heap.objs.size + 1) :: us ++ ds).length = qs.length := by
    have e := r2.length
    rw [F.ar _ _ _ _ z] at e
    exact e.symm
  have hq2 : (X.A.under (.builtin "type.__call__" ⟨.ref C :: us, []⟩)).guards = some [] := by
    have e : (Code.builtin "type.__call__" ⟨.ref C :: us, []⟩).guards = [] := by
      unfold Code.guards
      rw [if_neg (by show ¬ (guardIds.contains "type.__call__" = true); decide +kernel)]
    unfold Around.under
    rw [e]
    exact hq
  refine wpAny_call (make_map (f := fa) J.kIn M.makes M.init (beq_iff_eq.mp M.fn) (codeAny_mono (F.go _ X.stack _ _ ⟨.ref (s.heap.objs.size + 1) :: us, []⟩ (.ref (s.heap.objs.size + 1) :: (us ++ ds)) _ _ E hq2 (hr.make C us []) (J2.env0.make C us [])
    (hb _ (.ref (s.heap.objs.size + 1) :: us) J2.kIn hl) r2 z) fun r s2 y => ?_))
  match r, y with
  | .error e, y => exact hx pn _ _ e s2 J2 y
  | .ok (.ret u), y =>
    obtain ⟨v, H3, J3, rv, ev, q3⟩ := J2.after y
    subst ev
    exact ⟨rv, .ref _, H3, J3, rfl, q3⟩
  | .ok .next, y => exact y.elim
  | .ok .brk, y => exact y.elim
  | .ok .cont, y => exact y.elim
/-! ### cells of instances -/
theorem fldGet_rel {K : PySem.W.Frag} {g : Gh} {H : Hp} {f : Str} : ∀ {ns : List Str} {ds : List D} {vs : List V} {d : D}, RDs K g H ds vs → fldGet ns ds f = some d → ∃ v, (ns.zip vs).lookup f = some v ∧ RD K g H d v
  | [], _, _, _, _, e => by cases e
  | _ :: _, _, _, _, .nil, e => by cases e
  | n :: ns, d :: ds, v :: vs, d', .cons h t, e => by
    have e' : (if n = f then some d else fldGet ns ds f) = some d' := e
    rw [List.zip_cons_cons, List.lookup_cons]
    by_cases q : n = f
    · rw [if_pos q] at e'
      cases e'
      subst q
      exact ⟨v, by simp, h⟩
    · rw [if_neg q] at e'
      have : (f == n) = false := by simpa using fun z : f = n => q z.symm
      rw [this]
      exact fldGet_rel t e'
theorem lookup_none {m : Str} : ∀ {ns : List Str} {vs : List V}, ns.contains m = false → (ns.zip vs).lookup m = none
  | [], _, _ => by rw [List.zip_nil_left]; rfl
  | _ :: _, [], _ => by rw [List.zip_nil_right]; rfl
  | n :: ns, v :: vs, h => by
    rw [List.contains_cons, Bool.or_eq_false_iff] at h
    rw [List.zip_cons_cons, List.lookup_cons, h.1]
    exact lookup_none h.2
theorem ins_at {g : Gh} {S : Store} {H : Hp} {n : Nat} {cl : Str} {ns : List Str} {ds : List D} {x : V} (st : StR X.K X.mg g S H) (r : RD X.K g H (.ref n) x) (e : S[n]? = some (.ins cl ns ds)) :
    ∃ p C dx vs, x = .ref p ∧ X.mg cl = some (.ref C) ∧ H p = some (.ins C dx (ns.zip vs)) ∧ ns.length = vs.length ∧ RDs X.K g H ds vs := by
  obtain ⟨p, rfl, hp⟩ := r.of_ref
  obtain ⟨C, dx, vs, h1, h2, h3, h4⟩ := st.cell n _ p e hp
  exact ⟨p, C, dx, vs, rfl, h1, h2, h3, h4⟩
theorem fldD_at {S : Store} {cl f : Str} {x d : D} (h : fldD S cl f x = some d) : ∃ n ns ds, x = .ref n ∧ S[n]? = some (.ins cl ns ds) ∧ fldGet ns ds f = some d := by
  cases x with
  | ref n =>
    unfold fldD at h
    dsimp only at h
    cases q : S[n]? with
    | none => rw [q] at h; cases h
    | some ce =>
      rw [q] at h
      cases ce with
      | ins c' ns ds =>
        have h' : (if c' = cl then fldGet ns ds f else none) = some d := h
        by_cases e : c' = cl
        · rw [if_pos e] at h'
          subst e
          exact ⟨n, ns, ds, rfl, q, h'⟩
        · rw [if_neg e] at h'; cases h'
      | _ => cases h
  | _ => cases h
theorem se_fld (G : Good c X W cf) {cl f : Str} (hs : noSup l = true) (hc : c.cs.contains cl = true) (hf : c.ats.contains (cl, f) = true) (ha : PE X l (tV c X W cf a)) : PE X (.Attribute l f pos) (tV c X W cf (.fld cl f a)) := by
  refine (pe_fld (frzPE ha) (noSup_base hs _ _)).weak fun σ H Q ⟨g, fr, S, rel, h⟩ => ⟨g, fr, S, rel, ?_⟩
  refine (Aft.bind rD_tmp h).imp fun x H1 ⟨d1, fr1, S1, g1, k1, rel1, r1, t1, h1⟩ => ?_
  cases e : fldD S1 cl f d1 with
  | none => rw [e] at h1; exact h1.elim
  | some d =>
    rw [e] at h1
    obtain ⟨n, ns, ds, rfl, e1, e2⟩ := fldD_at e
    obtain ⟨p, C, dx, vs, rfl, hC, hp, hl, hv⟩ := ins_at rel1.st r1.2 e1
    obtain ⟨C2, hC2, hcl, _⟩ := G.cs cl hc
    rw [hC] at hC2; cases hC2
    obtain ⟨v, e3, e4⟩ := fldGet_rel hv e2
    exact ⟨p, C, dx, _, v, rfl, hp, hcl, G.noat hf hc hC, e3, fin_old h1 rel1 e4⟩
theorem insOk_at {S : Store} {cl m : Str} {x : D} (h : insOk S cl m x = true) : ∃ n ns ds, x = .ref n ∧ S[n]? = some (.ins cl ns ds) ∧ ns.contains m = false := by
  cases x with
  | ref n =>
    unfold insOk at h
    dsimp only at h
    cases q : S[n]? with
    | none => rw [q] at h; cases h
    | some ce =>
      rw [q] at h
      cases ce with
      | ins c' ns ds =>
        have h' : (decide (c' = cl) && !ns.contains m) = true := h
        rw [Bool.and_eq_true, decide_eq_true_iff, Bool.not_eq_true'] at h'
        obtain ⟨rfl, h2⟩ := h'
        exact ⟨n, ns, ds, rfl, q, h2⟩
      | _ => cases h
  | _ => cases h
theorem se_meth (G : Good c X W cf) {cl m f : Str} {ap : Pos} {ms : Xs} {es : List Expr} (hm : c.ms.contains (f, cl, m) = true) (har : arB c f (es.length + 1) = true) (hs : noSup l = true) (hline : (ap.endLine == pos.line) = true) (hlen : es.length < 20)
    (ha : PE X l (tV c X W cf a)) (has : PA X es (tAs c X W cf ms)) (hc : chks ms c es = true) : PE X (.Call (.Attribute l m ap) es [] pos) (tV c X W cf (.meth cl m f a ms)) := by
  obtain ⟨k, fa, C, ⟨fd, ps, dD, F, hps, hb, hpad⟩, hr, hC, hcl, hme, _⟩ := G.ms f cl m hm
  have hl : es.length = ms.len := chks_len ms es hc
  obtain ⟨a1, a2⟩ := arB_of har
  rw [hl] at a1 a2
  rw [← hps] at a2
  obtain ⟨a3, dvs, ds, hv, hbn, hrd⟩ := hb (ms.len + 1) a1 a2
  have hr' : Room k X.A := hr.mono (Nat.le_succ k)
  have hform := meth_form (o := l) (m := m) (ap := ap) (p := pos) (es := es) (env := X.env) hs hline (chks_form hc hlen _ _)
  have key : ∀ {σ : L2.St} {H1 : Hp} {g1 : Gh} {fr1 : Frame} {S1 : Store} {d1 : D} {x : V} {Q : VK}, Rel X.K X.mg g1 fr1 S1 σ H1 → RD X.K g1 H1 d1 x → Aft X.K X.mg W (rV X.K X.mg) g1 H1 σ (if insOk S1 cl m d1 then (evs cf c.gl ms fr1 S1).bind fun ys fr S => (cf f (d1 :: ys) S).back fr else .no) Q →
      ∃ p dx fs, x = .ref p ∧ H1 p = some (.ins C dx fs) ∧ fs.lookup m = none ∧ tAs c X W cf ms σ H1 fun xs H2 => spC X.K X.mg (cf f) ps.length ((x :: xs) ++ dvs) H2 Q (WE W σ) := by
    intro σ H1 g1 fr1 S1 d1 x Q rel1 r1 h1
    by_cases ok : insOk S1 cl m d1 = true
    · rw [if_pos ok] at h1
      obtain ⟨n, ns, ds, rfl, e1, e2⟩ := insOk_at ok
      obtain ⟨p, C2, dx, vs, rfl, hC2, hp, _, _⟩ := ins_at rel1.st r1 e1
      rw [hC] at hC2; cases hC2
      refine ⟨p, dx, _, rfl, hp, lookup_none e2, g1, fr1, S1, rel1, ?_⟩
      refine (Aft.args (Aft.bind rDs_tmp h1)).imp fun ys H2 ⟨hlen2, ds2, fr2, S2, g2, k2, rel2, r2, t2, h2⟩ => ?_
      exact callee_sp hpad (by show ds2.length + 1 = ms.len + 1; rw [r2.2.length, hlen2]) a2 a3 rel2 (.cons (r1.mono k2.mono) r2.2) (hrd g2 H2) h2
    · rw [if_neg ok] at h1; exact h1.elim
  cases es with
  | nil =>
    cases ms with
    | cons _ _ => cases hl
    | nil =>
      refine (pe_methG0 (frzPE ha) hcl hme F G.gd hr' hbn hv (fun σ => passAt G.tk σ) hform).weak fun σ H Q ⟨g, fr, S, rel, h⟩ => ⟨g, fr, S, rel, ?_⟩
      refine (Aft.bind rD_tmp h).imp fun x H1 ⟨d1, fr1, S1, g1, k1, rel1, r1, t1, h1⟩ => ?_
      obtain ⟨p, dx, fs, h2, h3, h4, g3, fr3, S3, rel3, h5⟩ := key rel1 r1.2 h1
      exact ⟨p, dx, fs, h2, h3, h4, h5 g3 H1 [] Keep.refl rel3 ⟨rfl, .nil⟩⟩
  | cons y ys =>
    obtain ⟨hy, hys⟩ := chks_head hc X.env pos
    refine (pe_methG (frzPE ha) hcl hme F G.gd hr' hbn hv (fun σ => passAt G.tk σ) has (pln_star hy _) hys hform).weak fun σ H Q ⟨g, fr, S, rel, h⟩ => ⟨g, fr, S, rel, ?_⟩
    exact (Aft.bind rD_tmp h).imp fun x H1 ⟨d1, fr1, S1, g1, k1, rel1, r1, t1, h1⟩ => key rel1 r1.2 h1
/-- a call's promise behind a change of what is known and wanted -/
theorem se_make (G : Good c X W cf) {cl f : Str} {p : Pos} {ms : Xs} {es : List Expr} (hm : c.ms.contains (f, cl, "__init__") = true) (har : arB c f (es.length + 1) = true) (hg : glB c cl = true)
    (has : PA X es (tAs c X W cf ms)) (hc : chks ms c es = true) : PE X (.Call (.Name cl p) es [] pos) (tV c X W cf (.make cl f ms)) := by
  obtain ⟨k, fa, C, ⟨fd, ps, dD, F, hps, hb, hpad⟩, hr, hC, hcl, hme, hmk⟩ := G.ms f cl "__init__" hm
  obtain ⟨g1, g2⟩ := G.glob hg
  have M := hmk rfl
  have hl : es.length = ms.len := chks_len ms es hc
  obtain ⟨a1, a2⟩ := arB_of har
  rw [hl] at a1 a2
  rw [← hps] at a2
  obtain ⟨a3, dvs, ds, hv, hbn, hrd⟩ := hb (ms.len + 1) a1 a2
  have key : ∀ {σ : L2.St} {H : Hp} {Q : VK}, tV c X W cf (.make cl f ms) σ H Q → tAs c X W cf ms σ H fun xs H1 => ∀ x dx, H1 x = none → H1 dx = none → dx ≠ x →
      spC X.K X.mg (cf f) ps.length (.ref x :: (xs ++ dvs)) (upd (upd H1 dx (.own x)) x (.ins C dx [])) (fun v H2 => v = .non ∧ Q (.ref x) H2) (WE W σ) := by
    intro σ H Q ⟨g, fr, S, rel, h⟩
    refine ⟨g, fr, S, rel, (Aft.args (Aft.bind rDs_tmp h)).imp fun xs H1 ⟨hlen, ys, fr1, S1, g1, k1, rel1, r1, t1, h1⟩ x dx nx ndx nex => ?_⟩
    have gr1 : Grows H1 (upd H1 dx (.own x)) := Grows.fresh ndx
    have nx2 : upd H1 dx (.own x) x = none := by rw [upd_ne (fun z => nex z.symm)]; exact nx
    have rel2 := (rel1.grows gr1).push (o := .ins C dx []) nx2
    have na : x ∉ g1.tmp := fun z => rel1.st.fresh nx (.inr (.inr z))
    have hcell : CellR X.K X.mg (g1.push x) (upd (upd H1 dx (.own x)) x (.ins C dx [])) x (.ins cl [] []) := ⟨C, dx, [], hC, upd_same, rfl, .nil⟩
    have rel3 := rel2.share (c := .ins cl [] []) (t := g1.tmp) rfl na hcell
    have kk : Keep g1 H1 ⟨(g1.push x).rho ++ [x], (g1.push x).own, g1.tmp⟩ (upd (upd H1 dx (.own x)) x (.ins C dx [])) := keep_share rfl na rfl (gr1.keep.trans (keep_push nx2))
    have hn : (g1.rho ++ [x])[S1.length]? = some x := by
      rw [List.getElem?_append_right (by rw [rel1.st.len]; exact Nat.le_refl _), rel1.st.len]
      simp
    refine callee_sp (k := ms.len + 1) (ds := .ref S1.length :: ys) (fr := fr1) hpad (by show ys.length + 1 = ms.len + 1; rw [r1.2.length, hlen]) a2 a3 rel3 (.cons (.ref hn) (r1.2.mono kk.mono)) (hrd _ _) ?_
    have h1' : Aft X.K X.mg W (rV X.K X.mg) g1 H1 σ ((cf f (.ref S1.length :: ys) (S1 ++ [.ins cl [] []])).made S1.length fr1) Q := h1
    cases e : cf f (.ref S1.length :: ys) (S1 ++ [.ins cl [] []]) with
    | no => rw [e] at h1'; exact h1'.elim
    | ex e2 S2 =>
      rw [e] at h1'
      exact fun g' H' cc dd k' r' t' q => h1' g' H' cc dd (kk.trans k') r' t' q
    | ok v S2 =>
      rw [e] at h1'
      cases v with
      | own _ => exact h1'.elim
      | fz dv =>
        cases dv with
        | non =>
          intro g' H' b k' r' q
          refine ⟨RD.of_non q.2, h1' g' H' (.ref x) (kk.trans k') r' ⟨q.1, .ref (k'.pre _ _ hn)⟩⟩
        | _ => exact h1'.elim
  cases es with
  | nil =>
    cases ms with
    | cons _ _ => cases hl
    | nil =>
      refine ⟨fun pn s σ H Q I h => wpAny_Call_Name_kw (ld_glob I g1 hC (PySem.W.callWith_K0 I.kIn M.kp ?_) g2)⟩
      obtain ⟨g, fr, S, rel, h⟩ := key h
      exact run_makeG (us := []) (xs := []) M F G.gd hr hbn hv (passAt G.tk σ) I .nil (h g H [] Keep.refl rel ⟨rfl, .nil⟩)
  | cons y ys =>
    obtain ⟨hy, hys⟩ := chks_head hc X.env pos
    refine ⟨fun pn s σ H Q I h => wpAny_Call_Name_kw (ld_glob I g1 hC (PySem.W.callWith_K (h₀ := X.base) I.ok.mod.kin M.kp (thn (has.run pos pn s σ H _ I (key h)) fun us s1 q => ?_) (pln_star hy _) hys) g2)⟩
    obtain ⟨xs, H1, J, rx, hs⟩ := q
    exact ⟨J.kIn, run_makeG M F G.gd hr hbn hv (passAt G.tk σ) J rx hs⟩
/-! ### x or y, isinstance of an own class -/
theorem se_orv (ha : PE X l (tV c X W cf a)) (hb : PE X r (tV c X W cf b)) : PE X (.BoolOp .Or [l, r] pos) (tV c X W cf (.orv a b)) := by
  have hb1 : PE X (.BoolOp .Or [r] pos) (tV c X W cf b) := pe_one hb
  refine (L2.pe_orT (frzPE ha) hb1).weak fun σ H Q ⟨g, fr, S, rel, h⟩ => ⟨g, fr, S, rel, ?_⟩
  refine (Aft.bind rD_tmp h).imp fun x H1 ⟨d1, fr1, S1, g1, k1, rel1, r1, t1, h1⟩ => ?_
  cases e : truD (look S1 d1) with
  | none => rw [e] at h1; exact h1.elim
  | some k =>
    rw [e] at h1
    refine ⟨k, truV_of (vw_look rel1.st r1.2) e, ?_⟩
    cases k with
    | true => rw [if_pos rfl]; exact fin_old h1 rel1 r1.2
    | false => rw [if_neg (by decide)]; exact ⟨g1, fr1, S1, rel1, h1⟩
theorem se_isc (G : Good c X W cf) {cl : Str} {p p2 : Pos} (hg : glB c "isinstance" = true) (hz : glB c cl = true) (hc : c.cs.contains cl = true) (ha : PE X l (tV c X W cf a)) (hp : pln l = true) :
    PE X (.Call (.Name "isinstance" p) [l, .Name cl p2] [] pos) (tV c X W cf (.isc cl a)) := by
  obtain ⟨g1, g2⟩ := G.glob hg
  obtain ⟨z1, z2⟩ := G.glob hz
  obtain ⟨C, hC, hcl, hi, hi2⟩ := G.cs cl hc
  have hn : PE X (.Name cl p2) (tC (.ref C)) := pe_glob z1 hC rfl z2
  refine (pe_callB call_isi g1 (G.blt _ (by decide +kernel)) (by decide +kernel) (pa_cons (frzPE ha) (pa_cons hn pa_nil rfl) (pln_star hp _)) (by decide +kernel) g2 (pln_star hp _) rfl).weak fun σ H Q ⟨g, fr, S, rel, h⟩ => ⟨g, fr, S, rel, ?_⟩
  refine (Aft.bind rD_tmp h).imp fun x H1 ⟨d1, fr1, S1, g1, k1, rel1, r1, t1, h1⟩ => ?_
  have no : ∀ T : String, T ∈ dataTys → PySem.W.kitOne X.K (.type T) (.ref C) = some false := fun T hT => of_decide_eq_true (List.all_eq_true.mp hi T hT)
  have fin : ∀ T : String, T ∈ dataTys → TyX X.K H1 x (.type T) → isC S1 cl d1 = some false → rIsi X.K [x, .ref C] H1 Q := fun T hT ty e => by
    rw [e] at h1
    exact ⟨x, _, _, _, false, rfl, .own C, ty, no T hT, fin_old h1 rel1 (.bl _)⟩
  cases d1 with
  | non => obtain rfl := RD.of_non r1.2; exact fin "NoneType" (by decide) (.base .non) rfl
  | bl k => obtain rfl := RD.of_bl r1.2; exact fin "bool" (by decide) (.base (.bl k)) rfl
  | int k => obtain rfl := RD.of_int r1.2; exact fin "int" (by decide) (.base (.int k)) rfl
  | str k => obtain rfl := RD.of_str r1.2; exact fin "str" (by decide) (.base (.str k)) rfl
  | lst ys => obtain ⟨q, vs, rfl, h2, _⟩ := r1.2.tracked_lst; exact fin "list" (by decide) (.base (.lst h2)) rfl
  | tup ys => obtain ⟨q, vs, rfl, h2, _⟩ := RD.of_tupX r1.2; exact fin "tuple" (by decide) (.base (.tup h2)) rfl
  | dic ks ys => obtain ⟨q, vs, rfl, h2, _⟩ := r1.2.of_dic; exact fin "dict" (by decide) (.base (.dK h2)) rfl
  | dit ks ys => obtain ⟨q, vs, rfl, h2, _⟩ := r1.2.of_dit; exact fin "dict" (by decide) (.base (.dT h2)) rfl
  | scr ys => exact h1.elim
  | ref n =>
    have h1' : Aft X.K X.mg W (rV X.K X.mg) g1 H1 σ (RX.lift ((match S1[n]? with | some (.ins c' _ _) => if c' = cl then some true else none | _ => none).map fun r => Val.fz (.bl r)) fr1 S1) Q := h1
    cases q : S1[n]? with
    | none => rw [q] at h1'; exact h1'.elim
    | some ce =>
      rw [q] at h1'
      cases ce with
      | ins c' ns ds =>
        have h2 : Aft X.K X.mg W (rV X.K X.mg) g1 H1 σ (RX.lift ((if c' = cl then some true else none).map fun r => Val.fz (.bl r)) fr1 S1) Q := h1'
        by_cases e : c' = cl
        · rw [if_pos e] at h2
          subst e
          obtain ⟨p, C2, dx, vs, rfl, hC2, hp, _, _⟩ := ins_at rel1.st r1.2 q
          rw [hC] at hC2; cases hC2
          unfold insClsB at hi2
          rw [Bool.and_eq_true, Bool.and_eq_true, Bool.and_eq_true] at hi2
          obtain ⟨⟨⟨i1, i2⟩, i3⟩, i4⟩ := hi2
          refine ⟨_, _, .ref C, .ref C, true, rfl, .own C, .base (.ins hp hcl (of_decide_eq_true i1) (of_decide_eq_true i2) (of_decide_eq_true i3) (of_decide_eq_true i4)), ?_, fin_old h2 rel1 (.bl _)⟩
          unfold PySem.W.kitOne
          rw [if_pos (by simp)]
        · rw [if_neg e] at h2; exact h2.elim
      | _ => exact h1'.elim
/-! ### methods of built-in things -/
theorem few_form {ms : Xs} {es : List Expr} (h : chks ms c es = true) (hl : es.length < 20) (p : Pos) : ((backTo p (starEach es X.env)).all (fun x => !x.1) && (backToKw p (keywordEach [] X.env)).all (fun x => x.1.isSome)
    && decide (es.length + ([] : List Keyword).length + (if ([] : List Keyword).isEmpty then 0 else 1) < 30)) = true := by
  rw [all_not _ _ (chks_plain ms es h X.env p)]
  show (true && true && decide (es.length + 0 + 0 < 30)) = true
  rw [decide_eq_true (by omega)]; rfl
theorem chks_one {ms : Xs} {y : Expr} (h : chks ms c [y] = true) : ∃ m, ms = .cons m .nil ∧ pln y = true ∧ (chk2 m c).v y = true := by
  cases ms with
  | nil => exact nomatch h
  | cons m ms =>
    have h' : (pln y && chk c m y && chks ms c []) = true := h
    rw [Bool.and_eq_true, Bool.and_eq_true] at h'
    cases ms with
    | nil => exact ⟨m, rfl, h'.1.1, h'.1.2⟩
    | cons _ _ => exact nomatch h'.2
theorem chks_two {ms : Xs} {y z : Expr} (h : chks ms c [y, z] = true) : ∃ m n, ms = .cons m (.cons n .nil) ∧ pln y = true ∧ (chk2 m c).v y = true ∧ pln z = true ∧ (chk2 n c).v z = true := by
  cases ms with
  | nil => exact nomatch h
  | cons m ms =>
    have h' : (pln y && chk c m y && chks ms c [z]) = true := h
    rw [Bool.and_eq_true, Bool.and_eq_true] at h'
    obtain ⟨n, rfl, h2, h3⟩ := chks_one h'.2
    exact ⟨m, n, rfl, h'.1.1, h'.1.2, h2, h3⟩
theorem isD_of {K : PySem.W.Frag} {g : Gh} {H : Hp} {x : V} {d : D} (v : Vw K g H x d) {k : MK} (hk : k = .get1 ∨ k = .get2) (h : mkOk k d = true) : ∃ p, x = .ref p ∧ IsD H p := by
  cases d with
  | dic ks vs => obtain ⟨p, ws, rfl, h1, _⟩ := v; exact ⟨p, rfl, .inl ⟨_, .inl h1⟩⟩
  | dit ks vs => obtain ⟨p, ws, rfl, h1, _⟩ := v; exact ⟨p, rfl, .inr ⟨_, .inl h1⟩⟩
  | _ => rcases hk with rfl | rfl <;> cases h
theorem getD_rel {K : PySem.W.Frag} {g : Gh} {H : Hp} {r : Option D} {o : Option V} {d : D} {v : V} (h : optR K g H r o) (hd : RD K g H d v) : RD K g H (r.getD d) (o.getD v) := by
  cases r with
  | none => cases o with
    | none => exact hd
    | some _ => exact h.elim
  | some r => cases o with
    | none => exact h.elim
    | some _ => exact h
/-- a key's data as seen -/
theorem dget_key {K : PySem.W.Frag} {g : Gh} {H : Hp} {a k : D} {y : V} {r : Option D} (e : dgetD a k = some r) (rk : RD K g H k y) : Vw K g H y k := by
  have at_ : k.atom = true := by
    cases a with
    | dic ks vs =>
      have e' : ((toKey k).map fun j => findK ks vs j) = some r := e
      cases q : toKey k with
      | none => rw [q] at e'; cases e'
      | some j => exact toKey_atom q
    | dit ks vs =>
      have e' : ((keyT k).map fun j => findK ks vs j) = some r := e
      cases q : keyT k with
      | none => rw [q] at e'; cases e'
      | some j => exact keyT_atom q
    | _ => cases e
  cases k <;> first | exact rk | cases at_
/-- what a get asks at its end -/
theorem get_finK {g : Gh} {fr : Frame} {S : Store} {H : Hp} {σ : L2.St} {Q : VK} {a k : D} {x y : V} {p : Addr} (hx : x = .ref p) (va : Vw X.K g H x a) (rk : RD X.K g H k y) (rel : Rel X.K X.mg g fr S σ H) {e : D} {ve : V} (re : RD X.K g H e ve)
    (h : Aft X.K X.mg W (rV X.K X.mg) g H σ (RX.lift ((dgetD a k).map fun o => Val.fz (o.getD e)) fr S) Q) : ∃ o, DGet H p y o ∧ Q (o.getD ve) H := by
  cases q : dgetD a k with
  | none => rw [q] at h; exact h.elim
  | some r =>
    rw [q] at h
    obtain ⟨p2, o, ex, hg, ho⟩ := dget_rel va (dget_key q rk) q
    rw [hx] at ex; cases ex
    exact ⟨o, hg, fin_old h rel (getD_rel ho re)⟩
theorem keep_fin {g g2 gf : Gh} {H H2 : Hp} (k : Keep g H g2 H2) (hr : gf.rho = g2.rho) (ht : gf.tmp = g.tmp) (ho : ∀ b, b ∈ gf.own → b ∈ g2.own ∨ (b ∈ g2.tmp ∧ b ∉ g.tmp)) : Keep g H gf H2 where
  keep := fun b o h n1 n2 => by
    obtain ⟨q1, q2, q3⟩ := k.keep b o h n1 n2
    refine ⟨q1, by rw [hr]; exact q2, fun z => ?_⟩
    rcases ho b z with z | ⟨z1, z2⟩
    · exact q3 z
    · exact z2 (k.tmp b o h n1 n2 z1)
  tmp := fun b o h n1 n2 z => by rw [ht] at z; exact z
  tups := k.tups
  pre := fun n b h => by rw [hr]; exact k.pre n b h
/-- each argument by itself -/
def Args (c : SC) (X : Cx) (W : WX) (cf : CF) : Xs → List Expr → Prop
  | .nil, [] => True
  | .cons m ms, x :: xs => PE X x (tV c X W cf m) ∧ Args c X W cf ms xs
  | _, _ => False
theorem len_two {α : Type} {l : List α} (h : l.length = 2) : ∃ a b, l = [a, b] := by
  match l, h with
  | [a, b], _ => exact ⟨a, b, rfl⟩
theorem strL_rel {K : PySem.W.Frag} {g : Gh} {H : Hp} : ∀ {ds : List D} {vs : List V} {bs : List Str}, RDs K g H ds vs → strL ds = some bs → vs = bs.map V.str
  | _, _, _, .nil, e => by cases e; rfl
  | d :: ds, v :: vs, bs, .cons h t, e => by
    cases d with
    | str b =>
      have e' : (strL ds).map (b :: ·) = some bs := e
      cases q : strL ds with
      | none => rw [q] at e'; cases e'
      | some cs =>
        rw [q] at e'
        cases e'
        rw [RD.of_str h, strL_rel t q]; rfl
    | _ => cases e
theorem strs_rel {K : PySem.W.Frag} {g : Gh} {H : Hp} : ∀ ns : List Str, RDs K g H (ns.map D.str) (ns.map V.str)
  | [] => .nil
  | n :: ns => .cons (.str n) (strs_rel ns)
theorem mkOk_str {k : MK} {d : D} (hk : k ≠ .get1 ∧ k ≠ .get2) (h : mkOk k d = true) : ∃ x, d = .str x := by
  cases d with
  | str x => exact ⟨x, rfl⟩
  | _ => cases k <;> first | (cases h; done) | exact absurd rfl hk.1 | exact absurd rfl hk.2
theorem look_str {S : Store} {d : D} {x : Str} (h : look S d = .str x) : d = .str x := look_same h rfl
theorem se_mth (G : Good c X W cf) (k : MK) {ap : Pos} {ms : Xs} {es : List Expr} (hl : es.length = k.ar) (hs : noSup l = true) (hline : (ap.endLine == pos.line) = true)
    (ha : PE X l (tV c X W cf a)) (hA : Args c X W cf ms es) (hc : chks ms c es = true) : PE X (.Call (.Attribute l k.name ap) es [] pos) (tV c X W cf (.mth k a ms)) := by
  have hu : X.A.units + 1 < cLine := by have := G.un; omega
  have base := noSup_base hs k.name X.env
  have str0 : k ≠ .get1 ∧ k ≠ .get2 → ∀ {σ : L2.St} {H1 : Hp} {g1 : Gh} {fr1 : Frame} {S1 : Store} {d1 : D} {x : V} {Q : VK}, RD X.K g1 H1 d1 x → Aft X.K X.mg W (rV X.K X.mg) g1 H1 σ (if mkOk k (look S1 d1) then (evs cf c.gl ms fr1 S1).bind fun ys fr S => if mkOk k (look S d1) then RX.lift (mthD S k (look S d1) ys) fr S else .no else .no) Q →
      ∃ z, d1 = .str z ∧ x = .str z ∧ Aft X.K X.mg W (rV X.K X.mg) g1 H1 σ ((evs cf c.gl ms fr1 S1).bind fun ys fr S => if mkOk k (.str z) then RX.lift (mthD S k (.str z) ys) fr S else .no) Q := by
    intro hk σ H1 g1 fr1 S1 d1 x Q r1 h1
    by_cases ok : mkOk k (look S1 d1) = true
    · rw [if_pos ok] at h1
      obtain ⟨z, hz⟩ := mkOk_str hk ok
      obtain rfl := look_str hz
      exact ⟨z, rfl, RD.of_str r1, h1⟩
    · rw [if_neg ok] at h1; exact h1.elim
  cases k with
  | upper =>
    obtain rfl : es = [] := List.eq_nil_of_length_eq_zero hl
    cases ms with
    | cons _ _ => exact nomatch hc
    | nil =>
      refine (pe_upper (frzPE ha) base hline).weak fun σ H Q ⟨g, fr, S, rel, h⟩ => ⟨g, fr, S, rel, ?_⟩
      refine (Aft.bind rD_tmp h).imp fun x H1 ⟨d1, fr1, S1, g1, k1, rel1, r1, t1, h1⟩ => ?_
      obtain ⟨z, rfl, rfl, h2⟩ := str0 ⟨nofun, nofun⟩ r1.2 h1
      have h3 : Aft X.K X.mg W (rV X.K X.mg) g1 H1 σ (RX.lift (if z.length ≤ 5592405 then some (Val.fz (.str (Txt.upper z))) else none) fr1 S1) Q := h2
      by_cases hz : z.length ≤ 5592405
      · rw [if_pos hz] at h3
        exact ⟨⟨z, rfl⟩, z, rfl, rfl, hz, fin_old h3 rel1 (.str _)⟩
      · rw [if_neg hz] at h3; exact h3.elim
  | isdigit =>
    obtain rfl : es = [] := List.eq_nil_of_length_eq_zero hl
    cases ms with
    | cons _ _ => exact nomatch hc
    | nil =>
      refine (pe_m0 PySem.F.slot_str_isdigit PySem.F.type_str_isdigit mt_isdigit (frzPE ha) base hline).weak fun σ H Q ⟨g, fr, S, rel, h⟩ => ⟨g, fr, S, rel, ?_⟩
      refine (Aft.bind rD_tmp h).imp fun x H1 ⟨d1, fr1, S1, g1, k1, rel1, r1, t1, h1⟩ => ?_
      obtain ⟨z, rfl, rfl, h2⟩ := str0 ⟨nofun, nofun⟩ r1.2 h1
      exact ⟨⟨z, rfl⟩, z, rfl, rfl, trivial, fin_old h2 rel1 (.bl _)⟩
  | join =>
    obtain ⟨y, rfl⟩ : ∃ y, es = [y] := List.length_eq_one_iff.mp hl
    obtain ⟨m, rfl, hy, hm⟩ := chks_one hc
    refine (pe_join (frzPE ha) (frzPE hA.1) (pln_star hy _) base hline).weak fun σ H Q ⟨g, fr, S, rel, h⟩ => ⟨g, fr, S, rel, ?_⟩
    refine (Aft.bind rD_tmp h).imp fun x H1 ⟨d1, fr1, S1, g1, k1, rel1, r1, t1, h1⟩ => ?_
    obtain ⟨z, rfl, rfl, h2⟩ := str0 ⟨nofun, nofun⟩ r1.2 h1
    refine ⟨⟨z, rfl⟩, g1, fr1, S1, rel1, ?_⟩
    have h3 : Aft X.K X.mg W (rV X.K X.mg) g1 H1 σ ((frzX (ev cf c.gl m fr1 S1)).bind fun y fr S => RX.lift (mthD S .join (.str z) [y]) fr S) Q := by
      cases q : frzX (ev cf c.gl m fr1 S1) with
      | no => have h2' := h2; unfold evs at h2'; rw [show frzX ((ev2 cf c.gl m).v fr1 S1) = _ from q] at h2'; exact h2'
      | ex e f s => have h2' := h2; unfold evs at h2'; rw [show frzX ((ev2 cf c.gl m).v fr1 S1) = _ from q] at h2'; exact h2'
      | ok y f s => have h2' := h2; unfold evs at h2'; rw [show frzX ((ev2 cf c.gl m).v fr1 S1) = _ from q] at h2'; exact h2'
    refine (Aft.bind rD_tmp h3).imp fun y H2 ⟨d2, fr2, S2, g2, k2, rel2, r2, t2, h4⟩ => ?_
    have h5 : Aft X.K X.mg W (rV X.K X.mg) g2 H2 σ (RX.lift ((match look S2 d2 with | .lst xs => strL xs | _ => none : Option (List Str)).bind fun ys => if (ys.map (·.length)).sum + ys.length * z.length ≤ 16777216 then some (Val.fz (.str (Txt.join z ys))) else none) fr2 S2) Q := h4
    cases q : look S2 d2 with
    | lst xs =>
      rw [q] at h5
      obtain ⟨p, vs, rfl, hp, hv⟩ := look_lst rel2.st r2.2 q
      cases q2 : strL xs with
      | none =>
        have h6 : Aft X.K X.mg W (rV X.K X.mg) g2 H2 σ (RX.lift ((strL xs).bind _) fr2 S2) Q := h5
        rw [q2] at h6; exact h6.elim
      | some ys =>
        have h6 : Aft X.K X.mg W (rV X.K X.mg) g2 H2 σ (RX.lift ((strL xs).bind fun ys => if (ys.map (·.length)).sum + ys.length * z.length ≤ 16777216 then some (Val.fz (.str (Txt.join z ys))) else none) fr2 S2) Q := h5
        rw [q2] at h6
        have h7 : Aft X.K X.mg W (rV X.K X.mg) g2 H2 σ (RX.lift (if (ys.map (·.length)).sum + ys.length * z.length ≤ 16777216 then some (Val.fz (.str (Txt.join z ys))) else none) fr2 S2) Q := h6
        obtain rfl := strL_rel hv q2
        by_cases hz : (ys.map (·.length)).sum + ys.length * z.length ≤ 16777216
        · rw [if_pos hz] at h7
          exact ⟨z, p, ys, rfl, rfl, .inl (SqL.of hp), hz, fin_old h7 rel2 (.str _)⟩
        · rw [if_neg hz] at h7; exact h7.elim
    | _ => rw [q] at h5; exact h5.elim
  | split =>
    obtain ⟨y, rfl⟩ : ∃ y, es = [y] := List.length_eq_one_iff.mp hl
    obtain ⟨m, rfl, hy, hm⟩ := chks_one hc
    refine (pe_split (frzPE ha) (frzPE hA.1) (pln_star hy _) base hline).weak fun σ H Q ⟨g, fr, S, rel, h⟩ => ⟨g, fr, S, rel, ?_⟩
    refine (Aft.bind rD_tmp h).imp fun x H1 ⟨d1, fr1, S1, g1, k1, rel1, r1, t1, h1⟩ => ?_
    obtain ⟨z, rfl, rfl, h2⟩ := str0 ⟨nofun, nofun⟩ r1.2 h1
    refine ⟨⟨z, rfl⟩, g1, fr1, S1, rel1, ?_⟩
    have h3 : Aft X.K X.mg W (rV X.K X.mg) g1 H1 σ ((frzX (ev cf c.gl m fr1 S1)).bind fun y fr S => RX.lift (mthD S .split (.str z) [y]) fr S) Q := by
      cases q : frzX (ev cf c.gl m fr1 S1) with
      | no => have h2' := h2; unfold evs at h2'; rw [show frzX ((ev2 cf c.gl m).v fr1 S1) = _ from q] at h2'; exact h2'
      | ex e f s => have h2' := h2; unfold evs at h2'; rw [show frzX ((ev2 cf c.gl m).v fr1 S1) = _ from q] at h2'; exact h2'
      | ok y f s => have h2' := h2; unfold evs at h2'; rw [show frzX ((ev2 cf c.gl m).v fr1 S1) = _ from q] at h2'; exact h2'
    refine (Aft.bind rD_tmp h3).imp fun y H2 ⟨d2, fr2, S2, g2, k2, rel2, r2, t2, h4⟩ => ?_
    cases d2 with
    | str w =>
      obtain rfl := RD.of_str r2.2
      have h5 : Aft X.K X.mg W (rV X.K X.mg) g2 H2 σ (RX.lift (if (w.length == 0) = false ∧ z.length + 2 ≤ sizeLine then some (Val.own (.lst ((Txt.split z w).map .str))) else none) fr2 S2) Q := h4
      by_cases hz : (w.length == 0) = false ∧ z.length + 2 ≤ sizeLine
      · rw [if_pos hz] at h5
        exact ⟨z, w, rfl, rfl, hz.1, hz.2, fun p hp => fin_lst h5 rel2 (strs_rel _) hp⟩
      · rw [if_neg hz] at h5; exact h5.elim
    | _ => exact h4.elim
  | get1 =>
    obtain ⟨y, rfl⟩ : ∃ y, es = [y] := List.length_eq_one_iff.mp hl
    obtain ⟨m, rfl, hy, hm⟩ := chks_one hc
    refine (pe_dget1 hu (frzPE ha) (frzPE hA.1) ⟨base, few_form hc (by show 1 < 20; decide) pos, hline, by rw [pln_star hy]; rfl⟩).weak fun σ H Q ⟨g, fr, S, rel, h⟩ => ⟨g, fr, S, rel, ?_⟩
    refine (Aft.bind rD_tmp h).imp fun x H1 ⟨d1, fr1, S1, g1, k1, rel1, r1, t1, h1⟩ => ?_
    have h1' : Aft X.K X.mg W (rV X.K X.mg) g1 H1 σ (if mkOk .get1 (look S1 d1) then ((frzX (ev cf c.gl m fr1 S1)).bind fun y fr S => RX.ok [y] fr S).bind fun ys fr S => if mkOk .get1 (look S d1) then RX.lift (mthD S .get1 (look S d1) ys) fr S else .no else .no) Q := h1
    by_cases ok : mkOk .get1 (look S1 d1) = true
    · rw [if_pos ok] at h1'
      obtain ⟨p, hx, hp⟩ := isD_of (vw_look rel1.st r1.2) (.inl rfl) ok
      refine ⟨p, hx, hp, g1, fr1, S1, rel1, ?_⟩
      have h3 : Aft X.K X.mg W (rV X.K X.mg) g1 H1 σ ((frzX (ev cf c.gl m fr1 S1)).bind fun y fr S => if mkOk .get1 (look S d1) then RX.lift (mthD S .get1 (look S d1) [y]) fr S else .no) Q := by
        cases q : frzX (ev cf c.gl m fr1 S1) <;> rw [q] at h1' <;> exact h1'
      refine (Aft.bind rD_tmp h3).imp fun y H2 ⟨d2, fr2, S2, g2, k2, rel2, r2, t2, h4⟩ => ?_
      by_cases ok2 : mkOk .get1 (look S2 d1) = true
      · rw [if_pos ok2] at h4
        have h5 : Aft X.K X.mg W (rV X.K X.mg) g2 H2 σ (RX.lift ((dgetD (look S2 d1) d2).map fun o => Val.fz (o.getD .non)) fr2 S2) Q := by
          cases q : look S2 d1 <;> rw [q] at h4 ok2 <;> first | exact h4 | cases ok2
        have vk : ∃ k', look S2 d2 = k' ∧ dgetD (look S2 d1) d2 = dgetD (look S2 d1) d2 := ⟨_, rfl, rfl⟩
        exact get_finK hx (vw_look rel2.st (r1.2.mono k2.mono)) r2.2 rel2 .non h5
      · rw [if_neg ok2] at h4; exact h4.elim
    · rw [if_neg ok] at h1'; exact h1'.elim
  | get2 =>
    obtain ⟨y, y2, rfl⟩ : ∃ y y2, es = [y, y2] := len_two hl
    obtain ⟨m, n, rfl, hy, hm, hy2, hn⟩ := chks_two hc
    have s2 : starEach [y, y2] X.env = [(false, eval y X.env), (false, eval y2 X.env)] := by rw [pln_star hy, pln_star hy2]; rfl
    refine (pe_dget2 hu (frzPE ha) (frzPE hA.1) (frzPE hA.2.1) ⟨base, few_form hc (by show 2 < 20; decide) pos, hline, by rw [s2]; rfl⟩).weak fun σ H Q ⟨g, fr, S, rel, h⟩ => ⟨g, fr, S, rel, ?_⟩
    refine (Aft.bind rD_tmp h).imp fun x H1 ⟨d1, fr1, S1, g1, k1, rel1, r1, t1, h1⟩ => ?_
    have h1' : Aft X.K X.mg W (rV X.K X.mg) g1 H1 σ (if mkOk .get2 (look S1 d1) then ((frzX (ev cf c.gl m fr1 S1)).bind fun y fr S => ((frzX (ev cf c.gl n fr S)).bind fun z fr S => RX.ok [z] fr S).bind fun zs fr S => RX.ok (y :: zs) fr S).bind fun ys fr S => if mkOk .get2 (look S d1) then RX.lift (mthD S .get2 (look S d1) ys) fr S else .no else .no) Q := h1
    by_cases ok : mkOk .get2 (look S1 d1) = true
    · rw [if_pos ok] at h1'
      obtain ⟨p, hx, hp⟩ := isD_of (vw_look rel1.st r1.2) (.inr rfl) ok
      refine ⟨p, hx, hp, g1, fr1, S1, rel1, ?_⟩
      have h3 : Aft X.K X.mg W (rV X.K X.mg) g1 H1 σ ((frzX (ev cf c.gl m fr1 S1)).bind fun y fr S => (frzX (ev cf c.gl n fr S)).bind fun z fr S => if mkOk .get2 (look S d1) then RX.lift (mthD S .get2 (look S d1) [y, z]) fr S else .no) Q := by
        cases q : frzX (ev cf c.gl m fr1 S1) with
        | ok y f s =>
          rw [q] at h1'
          show Aft X.K X.mg W (rV X.K X.mg) g1 H1 σ ((frzX (ev cf c.gl n f s)).bind fun z fr S => if mkOk .get2 (look S d1) then RX.lift (mthD S .get2 (look S d1) [y, z]) fr S else .no) Q
          have h1'' : Aft X.K X.mg W (rV X.K X.mg) g1 H1 σ ((((frzX (ev cf c.gl n f s)).bind fun z fr S => RX.ok [z] fr S).bind fun zs fr S => RX.ok (y :: zs) fr S).bind fun ys fr S => if mkOk .get2 (look S d1) then RX.lift (mthD S .get2 (look S d1) ys) fr S else .no) Q := h1'
          cases q2 : frzX (ev cf c.gl n f s) <;> rw [q2] at h1'' <;> exact h1''
        | no => rw [q] at h1'; exact h1'
        | ex e f s => rw [q] at h1'; exact h1'
      refine (Aft.bind rD_tmp h3).imp fun y H2 ⟨d2, fr2, S2, g2, k2, rel2, r2, t2, h4⟩ => ⟨g2, fr2, S2, rel2, ?_⟩
      refine (Aft.bind rD_tmp h4).imp fun z H3 ⟨d3, fr3, S3, g3, k3, rel3, r3, t3, h5⟩ => ?_
      by_cases ok2 : mkOk .get2 (look S3 d1) = true
      · rw [if_pos ok2] at h5
        have h6 : Aft X.K X.mg W (rV X.K X.mg) g3 H3 σ (RX.lift ((dgetD (look S3 d1) d2).map fun o => Val.fz (o.getD d3)) fr3 S3) Q := by
          cases q : look S3 d1 <;> rw [q] at h5 ok2 <;> first | exact h5 | cases ok2
        exact get_finK hx (vw_look rel3.st ((r1.2.mono k2.mono).mono k3.mono)) (r2.2.mono k3.mono) rel3 r3.2 h6
      · rw [if_neg ok2] at h5; exact h5.elim
    · rw [if_neg ok] at h1'; exact h1'.elim
end
end Eng
end

section
/-! The engine, part O: get of a name's own dict; a dict's display. -/
namespace Eng
open PySem PySem.Spec PyProof.Rows L2
section
variable {K : PySem.W.Frag} {mg : Str → Option Value} {g : Gh} {H : Hp} {fr : Frame} {S : Store} {σ : L2.St} {a : Addr} {o : HO}
/-- an object that nobody else holds is changed -/
theorem Rel.mutTmp (r : Rel K mg g fr S σ H) (ha : a ∈ g.tmp) (mu : Mut (H a)) : Mono K g H g (upd H a o) ∧ Rel K mg g fr S σ (upd H a o) := by
  have tups : ∀ z xs, H z = some (.tup xs) → upd H a o z = some (.tup xs) := fun z xs h => by
    have nz : z ≠ a := fun w => by
      subst w
      rw [h] at mu; exact mu
    rw [upd_ne nz]; exact h
  have m : Mono K g H g (upd H a o) := ⟨fun z u h n => ⟨by rw [upd_ne (fun (w : z = a) => n (.inr (.inr (w ▸ ha))))]; exact h, n⟩, tups, fun _ _ z => z⟩
  refine ⟨m, r.len, fun j v ej => ?_, r.apart, ⟨r.st.len, r.st.nd, fun k c1 b' e' q' => (r.st.cell k c1 b' e' q').mono m ?_, r.st.rt, r.st.ot, fun z w => ?_⟩⟩
  · obtain ⟨y, f1, s⟩ := r.slot j v ej
    refine ⟨y, f1, s.mono m fun z w => ⟨w, ?_⟩⟩
    rw [upd_ne]
    intro q; subst q
    exact r.st.ot z w ha
  · rw [upd_ne]
    intro z; subst z
    exact (r.st.rt _ (List.mem_of_getElem? q')).2 ha
  · by_cases hz : z = a
    · subst hz; exact ⟨o, upd_same⟩
    · rw [upd_ne hz]; exact r.st.tr z w
end
section
variable {c : SC} {X : Cx} {W : WX} {cf : CF} {pos : Pos} {a b d : Xp} {l r z : Expr}
theorem peekOk_of {k : MK} {i : Nat} {fr : Frame} {S : Store} (h : peekOk k i fr S = true) : ∃ d, peek i fr S = some d ∧ mkOk k d = true := by
  unfold peekOk at h
  split at h
  · rename_i d e; exact ⟨d, e, h⟩
  · cases h
theorem se_mthv (G : Good c X W cf) (k : MK) (hk : k = .get1 ∨ k = .get2) {i : Nat} {y : Str} {p ap : Pos} {ms : Xs} {es : List Expr} (hl : es.length = k.ar) (hv : visB c i y = true) (hline : (ap.endLine == pos.line) = true)
    (hA : Args c X W cf ms es) (hc : chks ms c es = true) : PE X (.Call (.Attribute (.Name y p) k.name ap) es [] pos) (tV c X W cf (.mthv k i ms)) := by
  have hu : X.A.units + 1 < cLine := by have := G.un; omega
  obtain ⟨v1, v2, v3, v4⟩ := G.vis hv
  rcases hk with rfl | rfl
  · obtain ⟨y1, rfl⟩ : ∃ y, es = [y] := List.length_eq_one_iff.mp hl
    obtain ⟨m, rfl, hy, hm⟩ := chks_one hc
    refine (pe_dget1 hu (pe_var v1 v2 v3 v4) (frzPE hA.1) ⟨rfl, few_form hc (by show 1 < 20; decide) pos, hline, by rw [pln_star hy]; rfl⟩).weak fun σ H Q ⟨g, fr, S, rel, h⟩ => ?_
    have h' : Aft X.K X.mg W (rV X.K X.mg) g H σ (if peekOk .get1 i fr S then ((frzX (ev cf c.gl m fr S)).bind fun y fr S => RX.ok [y] fr S).bind fun ys fr S => RX.lift ((peek i fr S).bind fun d => if mkOk .get1 d then mthD S .get1 d ys else none) fr S else .no) Q := h
    by_cases ok : peekOk .get1 i fr S = true
    · rw [if_pos ok] at h'
      obtain ⟨d0, e0, ok0⟩ := peekOk_of ok
      obtain ⟨x, e1, w1⟩ := peek_rel rel e0
      obtain ⟨p0, hx, hp⟩ := isD_of w1 (.inl rfl) ok0
      refine ⟨x, e1, p0, hx, hp, g, fr, S, rel, ?_⟩
      have h3 : Aft X.K X.mg W (rV X.K X.mg) g H σ ((frzX (ev cf c.gl m fr S)).bind fun y fr S => RX.lift ((peek i fr S).bind fun d => if mkOk .get1 d then mthD S .get1 d [y] else none) fr S) Q := by
        cases q : frzX (ev cf c.gl m fr S) <;> rw [q] at h' <;> exact h'
      refine (Aft.bind rD_tmp h3).imp fun y H2 ⟨d2, fr2, S2, g2, k2, rel2, r2, t2, h4⟩ => ?_
      cases q : peek i fr2 S2 with
      | none => rw [q] at h4; exact h4.elim
      | some d3 =>
        rw [q] at h4
        obtain ⟨x', e3, w3⟩ := peek_rel rel2 q
        rw [e1] at e3; cases e3
        have h5 : Aft X.K X.mg W (rV X.K X.mg) g2 H2 σ (RX.lift (if mkOk .get1 d3 then mthD S2 .get1 d3 [d2] else none) fr2 S2) Q := h4
        by_cases ok2 : mkOk .get1 d3 = true
        · rw [if_pos ok2] at h5
          have h6 : Aft X.K X.mg W (rV X.K X.mg) g2 H2 σ (RX.lift ((dgetD d3 d2).map fun o => Val.fz (o.getD .non)) fr2 S2) Q := by
            cases d3 <;> first | exact h5 | cases ok2
          exact get_finK hx w3 r2.2 rel2 .non h6
        · rw [if_neg ok2] at h5; exact h5.elim
    · rw [if_neg ok] at h'; exact h'.elim
  · obtain ⟨y1, y2, rfl⟩ : ∃ y y2, es = [y, y2] := len_two hl
    obtain ⟨m, n, rfl, hy, hm, hy2, hn⟩ := chks_two hc
    have s2 : starEach [y1, y2] X.env = [(false, eval y1 X.env), (false, eval y2 X.env)] := by rw [pln_star hy, pln_star hy2]; rfl
    refine (pe_dget2 hu (pe_var v1 v2 v3 v4) (frzPE hA.1) (frzPE hA.2.1) ⟨rfl, few_form hc (by show 2 < 20; decide) pos, hline, by rw [s2]; rfl⟩).weak fun σ H Q ⟨g, fr, S, rel, h⟩ => ?_
    have h' : Aft X.K X.mg W (rV X.K X.mg) g H σ (if peekOk .get2 i fr S then ((frzX (ev cf c.gl m fr S)).bind fun y fr S => ((frzX (ev cf c.gl n fr S)).bind fun z fr S => RX.ok [z] fr S).bind fun zs fr S => RX.ok (y :: zs) fr S).bind fun ys fr S => RX.lift ((peek i fr S).bind fun d => if mkOk .get2 d then mthD S .get2 d ys else none) fr S else .no) Q := h
    by_cases ok : peekOk .get2 i fr S = true
    · rw [if_pos ok] at h'
      obtain ⟨d0, e0, ok0⟩ := peekOk_of ok
      obtain ⟨x, e1, w1⟩ := peek_rel rel e0
      obtain ⟨p0, hx, hp⟩ := isD_of w1 (.inr rfl) ok0
      refine ⟨x, e1, p0, hx, hp, g, fr, S, rel, ?_⟩
      have h3 : Aft X.K X.mg W (rV X.K X.mg) g H σ ((frzX (ev cf c.gl m fr S)).bind fun y fr S => (frzX (ev cf c.gl n fr S)).bind fun z fr S => RX.lift ((peek i fr S).bind fun d => if mkOk .get2 d then mthD S .get2 d [y, z] else none) fr S) Q := by
        cases q : frzX (ev cf c.gl m fr S) with
        | ok y f s =>
          rw [q] at h'
          show Aft X.K X.mg W (rV X.K X.mg) g H σ ((frzX (ev cf c.gl n f s)).bind fun z fr S => RX.lift ((peek i fr S).bind fun d => if mkOk .get2 d then mthD S .get2 d [y, z] else none) fr S) Q
          have h1'' : Aft X.K X.mg W (rV X.K X.mg) g H σ ((((frzX (ev cf c.gl n f s)).bind fun z fr S => RX.ok [z] fr S).bind fun zs fr S => RX.ok (y :: zs) fr S).bind fun ys fr S => RX.lift ((peek i fr S).bind fun d => if mkOk .get2 d then mthD S .get2 d ys else none) fr S) Q := h'
          cases q2 : frzX (ev cf c.gl n f s) <;> rw [q2] at h1'' <;> exact h1''
        | no => rw [q] at h'; exact h'
        | ex e f s => rw [q] at h'; exact h'
      refine (Aft.bind rD_tmp h3).imp fun y H2 ⟨d2, fr2, S2, g2, k2, rel2, r2, t2, h4⟩ => ⟨g2, fr2, S2, rel2, ?_⟩
      refine (Aft.bind rD_tmp h4).imp fun z H3 ⟨d4, fr3, S3, g3, k3, rel3, r3, t3, h5⟩ => ?_
      cases q : peek i fr3 S3 with
      | none => rw [q] at h5; exact h5.elim
      | some d3 =>
        rw [q] at h5
        obtain ⟨x', e3, w3⟩ := peek_rel rel3 q
        rw [e1] at e3; cases e3
        have h6 : Aft X.K X.mg W (rV X.K X.mg) g3 H3 σ (RX.lift (if mkOk .get2 d3 then mthD S3 .get2 d3 [d2, d4] else none) fr3 S3) Q := h5
        by_cases ok2 : mkOk .get2 d3 = true
        · rw [if_pos ok2] at h6
          have h7 : Aft X.K X.mg W (rV X.K X.mg) g3 H3 σ (RX.lift ((dgetD d3 d2).map fun o => Val.fz (o.getD d4)) fr3 S3) Q := by
            cases d3 <;> first | exact h6 | cases ok2
          exact get_finK hx w3 (r2.2.mono k3.mono) rel3 r3.2 h7
        · rw [if_neg ok2] at h6; exact h6.elim
    · rw [if_neg ok] at h'; exact h'.elim
theorem se_disp (ha : PE X l (tV c X W cf a)) (hb : PE X r (tV c X W cf b)) : PE X (.Dict [some l] [r] pos) (tV c X W cf (.disp a b)) := by
  refine (pe_disp (pps_cons (frzPE ha) (frzPE hb) pps_nil) rfl rfl (by simp) (by show 1 ≤ 15; decide)).weak fun σ H Q ⟨g, fr, S, rel, h⟩ p hp => ?_
  have rel0 := rel.push (o := .dK []) hp
  have k0 : Keep g H (g.push p) (upd H p (.dK [])) := keep_push hp
  have np : p ∉ g.tmp := fun z => rel.st.fresh hp (.inr (.inr z))
  have sub : ∀ {g' : Gh}, g'.tmp = (g.push p).tmp → ∀ z, z ∈ g.tmp → z ∈ g'.tmp := fun e z hz => by rw [e]; exact List.mem_cons_of_mem _ hz
  have back : ∀ {g' : Gh} {H' : Hp}, Keep (g.push p) (upd H p (.dK [])) g' H' → Keep g H { g' with tmp := g.tmp } H' := fun k => keep_fin (k0.trans k) rfl rfl fun b hb => .inl hb
  have h' : Aft X.K X.mg W (rV X.K X.mg) g H σ ((frzX (ev cf c.gl a fr S)).bind fun x fr S => (frzX (ev cf c.gl b fr S)).bind fun y fr S => RX.lift ((toKey x).map fun q => Val.own (.dK [q] [y])) fr S) Q := h
  refine ⟨g.push p, fr, S, rel0, ?_⟩
  show Aft X.K X.mg W (rD X.K) (g.push p) (upd H p (.dK [])) σ (frzX (ev cf c.gl a fr S)) _
  cases e : frzX (ev cf c.gl a fr S) with
  | no => rw [e] at h'; exact h'
  | ex x f s =>
    rw [e] at h'
    intro g' H' cc dd k' r' t' xr
    exact h' { g' with tmp := g.tmp } H' cc dd (back k') (r'.drop (sub t')) rfl (xr.mono (mono_drop (sub t')))
  | ok dx f s =>
    rw [e] at h'
    intro g1 H1 x k1 rel1 r1
    refine ⟨g1, f, s, rel1, ?_⟩
    show Aft X.K X.mg W (rD X.K) g1 H1 σ (frzX (ev cf c.gl b f s)) _
    have h2 : Aft X.K X.mg W (rV X.K X.mg) g H σ ((frzX (ev cf c.gl b f s)).bind fun y fr S => RX.lift ((toKey dx).map fun q => Val.own (.dK [q] [y])) fr S) Q := h'
    cases e2 : frzX (ev cf c.gl b f s) with
    | no => rw [e2] at h2; exact h2
    | ex x2 f2 s2 =>
      rw [e2] at h2
      intro g' H' cc dd k' r' t' xr
      have t2 : g'.tmp = (g.push p).tmp := t'.trans r1.1
      exact h2 { g' with tmp := g.tmp } H' cc dd (back (k1.trans k')) (r'.drop (sub t2)) rfl (xr.mono (mono_drop (sub t2)))
    | ok dy f2 s2 =>
      rw [e2] at h2
      intro g2 H2 y k2 rel2 r2
      have t2 : g2.tmp = p :: g.tmp := r2.1.trans r1.1
      have kk := k1.trans k2
      have nr : p ∉ (g.push p).rho := fun z => rel.st.fresh hp (.inl z)
      have no : p ∉ (g.push p).own := fun z => rel.st.fresh hp (.inr (.inl z))
      have hp2 : H2 p = some (.dK []) := (kk.keep p _ upd_same nr no).1
      have h3 : Aft X.K X.mg W (rV X.K X.mg) g H σ (RX.lift ((toKey dx).map fun q => Val.own (.dK [q] [dy])) f2 s2) Q := h2
      cases q : toKey dx with
      | none => rw [q] at h3; exact h3.elim
      | some k =>
        rw [q] at h3
        have hx : x = kV k := toKey_rel r1.2 q
        refine ⟨hp2, [(k, y)], by rw [hx]; rfl, by show 1 ≤ 15; decide, ?_⟩
        obtain ⟨m3, rel3⟩ := rel2.mutTmp (a := p) (o := .dK (mergeK [] [(k, y)])) (by rw [t2]; exact List.mem_cons_self) (by rw [hp2]; trivial)
        have kf : Keep g H g2 (upd H2 p (.dK (mergeK [] [(k, y)]))) := by
          have k4 := k0.trans kk
          refine ⟨fun z o hz n1 n2 => ?_, fun z o hz n1 n2 n3 => ?_, fun z xs hz => ?_, k4.pre⟩
          · obtain ⟨q1, q2, q3⟩ := k4.keep z o hz n1 n2
            exact ⟨by rw [upd_ne (ne_of_none hz hp)]; exact q1, q2, q3⟩
          · rw [t2] at n3
            rcases List.mem_cons.mp n3 with w | w
            · exact absurd w (ne_of_none hz hp)
            · exact w
          · rw [upd_ne (ne_of_none hz hp)]; exact k4.tups z xs hz
        exact h3 g2 _ _ kf rel3 ⟨p, rfl, t2, np, [y], upd_same, rfl, .one (r2.2.mono m3)⟩
theorem wk_cmpl (k : CK) {i : Nat} : ∀ σ H Q, tV c X W cf (.cmpl k i b) σ H Q → tOp (rCmp X W k) (tVar i) (tF c X W cf b) σ H Q := fun σ H Q ⟨g, fr, S, rel, h⟩ => by
  have h' : Aft X.K X.mg W (rV X.K X.mg) g H σ (if (peek i fr S).isSome then (frzX (ev cf c.gl b fr S)).bind fun y fr S => RX.lift ((peek i fr S).bind fun d => (cmpD k d (look S y)).map fun r => Val.fz (.bl r)) fr S else .no) Q := h
  cases e : peek i fr S with
  | none => rw [e] at h'; exact h'.elim
  | some d0 =>
    rw [e] at h'
    obtain ⟨q, e1, _⟩ := peek_rel rel e
    refine ⟨_, e1, g, fr, S, rel, ?_⟩
    refine (Aft.bind rD_tmp h').imp fun x H1 ⟨d1, fr1, S1, g1, k1, rel1, r1, t1, h1⟩ => ?_
    cases e' : peek i fr1 S1 with
    | none => rw [e'] at h1; exact h1.elim
    | some d2 =>
      rw [e'] at h1
      obtain ⟨q', e2, v⟩ := peek_rel rel1 e'
      rw [e1] at e2; cases e2
      exact ⟨g1, fr1, S1, σ, d2, look S1 d1, rel1, v, vw_look rel1.st r1.2, h1⟩
theorem se_cmpl (G : Good c X W cf) (k : CK) {i : Nat} {y : Str} {p : Pos} (hv : visB c i y = true) (hb : PE X r (tV c X W cf b)) (hp : pln r = true) : PE X (.Compare (.Name y p) [k.op] [r] pos) (tV c X W cf (.cmpl k i b)) := by
  obtain ⟨h1, h2, h3, h4⟩ := G.vis hv
  exact (pe_cmpR (op_cmp (W := W) (hu_of' G) k) (pe_var h1 h2 h3 h4) (frzPE hb) (pln_in hp _)).weak (wk_cmpl k)
theorem st_cmpl (G : Good c X W cf) (k : CK) {i : Nat} {y : Str} {p : Pos} (hv : visB c i y = true) (hb : PE X r (tV c X W cf b)) (hp : pln r = true) : PT X (.Compare (.Name y p) [k.op] [r] pos) (tTs c X W cf (.cmpl k i b)) := by
  obtain ⟨h1, h2, h3, h4⟩ := G.vis hv
  refine (pt_cmpR (op_cmp (W := W) (hu_of' G) k) (pe_var h1 h2 h3 h4) (frzPE hb) (pln_in hp _)).weak fun σ H Q ⟨g, fr, S, rel, h⟩ => ?_
  refine wk_cmpl k σ H _ ⟨g, fr, S, rel, bool_res (fun fr S v fr' S' e => ?_) h⟩
  have e0 : (if (peek i fr S).isSome then (frzX (ev cf c.gl b fr S)).bind fun y fr S => RX.lift ((peek i fr S).bind fun d => (cmpD k d (look S y)).map fun r => Val.fz (.bl r)) fr S else .no) = RX.ok v fr' S' := e
  by_cases ok : (peek i fr S).isSome = true
  · rw [if_pos ok] at e0
    obtain ⟨x, f1, s1, _, e1⟩ := bind_ok e0
    have e' := lift_ok e1
    cases q : peek i f1 s1 with
    | none => rw [q] at e'; cases e'
    | some d => rw [q] at e'; exact map_bl e'
  · rw [if_neg ok] at e0; cases e0
theorem se_tuprg (G : Good c X W cf) {p p2 p3 : Pos} (hl : glB c "tuple" = true) (hr : glB c "range" = true) (hb : PE X r (tV c X W cf b)) (hp : pln r = true) :
    PE X (.Call (.Name "tuple" p) [.Call (.Name "range" p2) [r] [] p3] [] pos) (tV c X W cf (.tuprg b)) := by
  obtain ⟨g1, g2⟩ := G.glob hl
  obtain ⟨z1, z2⟩ := G.glob hr
  refine (pe_tupRg G.calm g1 (G.blt _ (by decide +kernel)) (prg_1 z1 (G.blt _ (by decide +kernel)) (frzPE hb) (pln_star hp _)) rfl).weak fun σ H Q ⟨g, fr, S, rel, h⟩ => ⟨g, fr, S, rel, ?_⟩
  refine (Aft.bind rD_tmp h).imp fun x H1 ⟨d1, fr1, S1, g1, k1, rel1, r1, t1, h1⟩ => ?_
  cases d1 with
  | int j =>
    obtain rfl := RD.of_int r1.2
    have h1' : Aft X.K X.mg W (rV X.K X.mg) g1 H1 σ (if rgOk 0 j = true ∧ j.toNat ≤ 2 ^ 24 then .ok (.fz (.tup (rgD 0 j))) fr1 S1 else .no) Q := h1
    by_cases hc : rgOk 0 j = true ∧ j.toNat ≤ 2 ^ 24
    · rw [if_pos hc] at h1'
      obtain ⟨b1, b2, b3, b4⟩ := rgOk_of hc.1
      exact ⟨j, rfl, ⟨b1, b2, b3, b4, by rw [Int.sub_zero]; exact hc.2⟩, fun q hq => fin_tup h1' rel1 (rg_rel 0 j) hq⟩
    · rw [if_neg hc] at h1'; exact h1'.elim
  | _ => exact h1.elim
end
end Eng
end

section
/-! The engine, part K: every expression. -/
namespace Eng
open PySem PySem.Spec PyProof.Rows L2

abbrev SV (m : Xp) : Prop := ∀ (c : SC) (X : Cx) (W : WX) (cf : CF), Good c X W cf → (∀ e, (chk2 m c).v e = true → PE X e (tV c X W cf m)) ∧ ∀ e, (chk2 m c).t e = true → PT X e (tTs c X W cf m)
theorem and2 {a b : Bool} (h : (a && b) = true) : a = true ∧ b = true := by rw [Bool.and_eq_true] at h; exact h
mutual
theorem sv : ∀ m : Xp, SV m
  | .con d => fun c X W cf G => ⟨fun e h => by
      cases e with
      | Constant k j p => exact se_con d h
      | _ => exact (nomatch h), fun e h => (nomatch h)⟩
  | .var i => fun c X W cf G => ⟨fun e h => by
      cases e with
      | Name x p => exact se_var G h
      | _ => exact (nomatch h), fun e h => by
      cases e with
      | Name x p => exact st_truth (fun _ => rfl) (se_var G h)
      | _ => exact (nomatch h)⟩
  | .glo x => fun c X W cf G => ⟨fun e h => by
      cases e with
      | Name y p =>
        obtain ⟨h1, h2⟩ := and2 h
        obtain rfl := of_decide_eq_true h1
        exact se_glo G h2
      | _ => exact (nomatch h), fun e h => (nomatch h)⟩
  | .bin k a b => fun c X W cf G => ⟨fun e h => by
      cases e with
      | BinOp l o r p =>
        obtain ⟨h, h3⟩ := and2 h
        obtain ⟨h1, h2⟩ := and2 h
        obtain rfl := of_decide_eq_true h1
        exact se_bin k ((sv a c X W cf G).1 _ h2) ((sv b c X W cf G).1 _ h3)
      | _ => exact (nomatch h), fun e h => (nomatch h)⟩
  | .cmp k a b => fun c X W cf G => ⟨fun e h => by
      cases e with
      | Compare l os rs p =>
        cases os with
        | nil => exact (nomatch h)
        | cons o os => cases os with
          | cons _ _ => cases rs with
            | nil => exact (nomatch h)
            | cons _ _ => exact (nomatch h)
          | nil => cases rs with
            | nil => exact (nomatch h)
            | cons r rs => cases rs with
              | cons _ _ => exact (nomatch h)
              | nil =>
                obtain ⟨h, h4⟩ := and2 h
                obtain ⟨h, h3⟩ := and2 h
                obtain ⟨h1, h2⟩ := and2 h
                obtain rfl := of_decide_eq_true h1
                exact se_cmp G k ((sv a c X W cf G).1 _ h3) ((sv b c X W cf G).1 _ h4) h2
      | _ => exact (nomatch h), fun e h => by
      cases e with
      | Compare l os rs p =>
        cases os with
        | nil => exact (nomatch h)
        | cons o os => cases os with
          | cons _ _ => cases rs with
            | nil => exact (nomatch h)
            | cons _ _ => exact (nomatch h)
          | nil => cases rs with
            | nil => exact (nomatch h)
            | cons r rs => cases rs with
              | cons _ _ => exact (nomatch h)
              | nil =>
                obtain ⟨h, h4⟩ := and2 h
                obtain ⟨h, h3⟩ := and2 h
                obtain ⟨h1, h2⟩ := and2 h
                obtain rfl := of_decide_eq_true h1
                exact st_cmp G k ((sv a c X W cf G).1 _ h3) ((sv b c X W cf G).1 _ h4) h2
      | _ => exact (nomatch h)⟩
  | .chain k m a b d => fun c X W cf G =>
    have main : ∀ e, (chk2 (.chain k m a b d) c).v e = true → ∃ x o o' y z p, e = .Compare x [o, o'] [y, z] p ∧ o = k.op ∧ o' = m.op ∧ pln z = true ∧ (chk2 a c).v x = true ∧ (chk2 b c).v y = true ∧ (chk2 d c).v z = true := fun e h => by
      cases e with
      | Compare x os rs p =>
        cases os with
        | nil => exact (nomatch h)
        | cons o os => cases os with
          | nil => cases rs with
            | nil => exact (nomatch h)
            | cons _ _ => exact (nomatch h)
          | cons o' os => cases os with
            | cons _ _ => cases rs with
              | nil => exact (nomatch h)
              | cons _ rs => cases rs with
                | nil => exact (nomatch h)
                | cons _ _ => exact (nomatch h)
            | nil => cases rs with
              | nil => exact (nomatch h)
              | cons y rs => cases rs with
                | nil => exact (nomatch h)
                | cons z rs => cases rs with
                  | cons _ _ => exact (nomatch h)
                  | nil =>
                    obtain ⟨h, h6⟩ := and2 h
                    obtain ⟨h, h5⟩ := and2 h
                    obtain ⟨h, h4⟩ := and2 h
                    obtain ⟨h, h3⟩ := and2 h
                    obtain ⟨h1, h2⟩ := and2 h
                    exact ⟨x, o, o', y, z, p, rfl, of_decide_eq_true h1, of_decide_eq_true h2, h3, h4, h5, h6⟩
      | _ => exact (nomatch h)
    ⟨fun e h => by
      obtain ⟨x, o, o', y, z, p, rfl, rfl, rfl, h3, h4, h5, h6⟩ := main e h
      exact se_chain G k m ((sv a c X W cf G).1 _ h4) ((sv b c X W cf G).1 _ h5) ((sv d c X W cf G).1 _ h6) h3, fun e h => by
      obtain ⟨x, o, o', y, z, p, rfl, rfl, rfl, h3, h4, h5, h6⟩ := main e h
      exact st_chain G k m ((sv a c X W cf G).1 _ h4) ((sv b c X W cf G).1 _ h5) ((sv d c X W cf G).1 _ h6) h3⟩
  | .not a => fun c X W cf G => ⟨fun e h => by
      cases e with
      | UnaryOp o x p => cases o with
        | Not => exact se_not ((sv a c X W cf G).1 _ h)
        | _ => exact (nomatch h)
      | _ => exact (nomatch h), fun e h => by
      cases e with
      | UnaryOp o x p => cases o with
        | Not => exact st_not ((sv a c X W cf G).2 _ h)
        | _ => exact (nomatch h)
      | _ => exact (nomatch h)⟩
  | .and a b => fun c X W cf G => ⟨fun e h => by
      cases e with
      | BoolOp o vs p => cases o with
        | Or => exact (nomatch h)
        | And => cases vs with
          | nil => exact (nomatch h)
          | cons x vs => cases vs with
            | nil => exact (nomatch h)
            | cons y vs => cases vs with
              | nil => exact se_and1 ((sv a c X W cf G).1 _ (and2 h).1) ((sv b c X W cf G).1 _ (and2 h).2)
              | cons z vs => exact se_and ((sv a c X W cf G).1 _ (and2 h).1) ((sv b c X W cf G).1 _ (and2 h).2)
      | _ => exact (nomatch h), fun e h => by
      cases e with
      | BoolOp o vs p => cases o with
        | Or => exact (nomatch h)
        | And => cases vs with
          | nil => exact (nomatch h)
          | cons x vs => cases vs with
            | nil => exact (nomatch h)
            | cons y vs => cases vs with
              | nil => exact st_and1 ((sv a c X W cf G).2 _ (and2 h).1) ((sv b c X W cf G).2 _ (and2 h).2)
              | cons z vs => exact st_and ((sv a c X W cf G).2 _ (and2 h).1) ((sv b c X W cf G).2 _ (and2 h).2)
      | _ => exact (nomatch h)⟩
  | .or a b => fun c X W cf G => ⟨fun e h => by
      cases e with
      | BoolOp o vs p => cases o with
        | And => exact (nomatch h)
        | Or => cases vs with
          | nil => exact (nomatch h)
          | cons x vs => cases vs with
            | nil => exact (nomatch h)
            | cons y vs => cases vs with
              | nil => exact se_or1 ((sv a c X W cf G).1 _ (and2 h).1) ((sv b c X W cf G).1 _ (and2 h).2)
              | cons z vs => exact se_or ((sv a c X W cf G).1 _ (and2 h).1) ((sv b c X W cf G).1 _ (and2 h).2)
      | _ => exact (nomatch h), fun e h => by
      cases e with
      | BoolOp o vs p => cases o with
        | And => exact (nomatch h)
        | Or => cases vs with
          | nil => exact (nomatch h)
          | cons x vs => cases vs with
            | nil => exact (nomatch h)
            | cons y vs => cases vs with
              | nil => exact st_or1 ((sv a c X W cf G).2 _ (and2 h).1) ((sv b c X W cf G).2 _ (and2 h).2)
              | cons z vs => exact st_or ((sv a c X W cf G).2 _ (and2 h).1) ((sv b c X W cf G).2 _ (and2 h).2)
      | _ => exact (nomatch h)⟩
  | .ife t a b => fun c X W cf G => ⟨fun e h => by
      cases e with
      | IfExp x y z p =>
        obtain ⟨h, h3⟩ := and2 h
        obtain ⟨h1, h2⟩ := and2 h
        exact se_ife ((sv t c X W cf G).2 _ h1) ((sv a c X W cf G).1 _ h2) ((sv b c X W cf G).1 _ h3)
      | _ => exact (nomatch h), fun e h => (nomatch h)⟩
  | .tup es => fun c X W cf G => ⟨fun e h => by
      cases e with
      | Tuple l k p => exact se_tup ((sas es c X W cf G).1 _ h)
      | _ => exact (nomatch h), fun e h => (nomatch h)⟩
  | .lst es => fun c X W cf G => ⟨fun e h => by
      cases e with
      | List l p => exact se_lst ((sas es c X W cf G).1 _ h)
      | _ => exact (nomatch h), fun e h => (nomatch h)⟩
  | .sub a b => fun c X W cf G => ⟨fun e h => by
      cases e with
      | Subscript x y p =>
        obtain ⟨h, h3⟩ := and2 h
        obtain ⟨h1, h2⟩ := and2 h
        exact se_sub G ((sv a c X W cf G).1 _ h2) ((sv b c X W cf G).1 _ h3) h1
      | _ => exact (nomatch h), fun e h => by
      cases e with
      | Subscript x y p =>
        obtain ⟨h, h3⟩ := and2 h
        obtain ⟨h1, h2⟩ := and2 h
        exact st_truth (fun _ => rfl) (se_sub G ((sv a c X W cf G).1 _ h2) ((sv b c X W cf G).1 _ h3) h1)
      | _ => exact (nomatch h)⟩
  | .slice a lo hi => fun c X W cf G =>
    have op : ∀ (m : Xp), SV m → ∀ o, chkO m (chk2 m c).v o = true → PO X o (tX X.K X.mg W rId (evO m (ev cf c.gl m))) := fun m ih o h => so_any (by
      cases o with
      | none =>
        refine .inl ⟨rfl, ?_⟩
        cases m <;> first | rfl | exact (nomatch h)
      | some x =>
        refine .inr ⟨x, rfl, fun z => ?_, ?_⟩
        · subst z; exact (nomatch h)
        · have hn : m ≠ .omit := fun z => by subst z; exact (nomatch h)
          have h' : (chk2 m c).v x = true := by cases m <;> first | exact absurd rfl hn | exact h
          exact (ih c X W cf G).1 _ h')
    ⟨fun e h => by
      cases e with
      | Subscript x y p =>
        cases y with
        | Slice l u s p2 => cases s with
          | none =>
            obtain ⟨h, h3⟩ := and2 h
            obtain ⟨h1, h2⟩ := and2 h
            exact se_slice ((sv a c X W cf G).1 _ h1) (op lo (sv lo) _ h2) (op hi (sv hi) _ h3)
          | some _ => exact (nomatch h)
        | _ => exact (nomatch h)
      | _ => exact (nomatch h), fun e h => (nomatch h)⟩
  | .omit => fun c X W cf G => ⟨fun e h => (nomatch h), fun e h => (nomatch h)⟩
  | .call f es => fun c X W cf G =>
    have main : ∀ e, (chk2 (.call f es) c).v e = true → ∃ p1 y ys p, e = .Call (.Name f p1) (y :: ys) [] p ∧ PE X e (tV c X W cf (.call f es)) := fun e h => by
      cases e with
      | Call g as ks p => cases g with
        | Name x p1 => cases as with
          | nil => exact (nomatch h)
          | cons y ys => cases ks with
            | cons _ _ => exact (nomatch h)
            | nil =>
              obtain ⟨h, h4⟩ := and2 h
              obtain ⟨h, h5⟩ := and2 h
              obtain ⟨h, h3⟩ := and2 h
              obtain ⟨h1, h2⟩ := and2 h
              obtain rfl := of_decide_eq_true h1
              exact ⟨p1, y, ys, p, rfl, se_call G h2 h3 h5 ((sas es c X W cf G).1 _ h4) h4⟩
        | _ => exact (nomatch h)
      | _ => exact (nomatch h)
    ⟨fun e h => let ⟨_, _, _, _, _, q⟩ := main e h; q, fun e h => by
      obtain ⟨p1, y, ys, p, rfl, q⟩ := main e h
      exact st_truth (fun _ => rfl) q⟩
  | .blt k es => fun c X W cf G =>
    have main : ∀ e, (chk2 (.blt k es) c).v e = true → ∃ p1 y ys p, e = .Call (.Name k.name p1) (y :: ys) [] p ∧ PE X e (tV c X W cf (.blt k es)) := fun e h => by
      cases e with
      | Call g as ks p => cases g with
        | Name x p1 => cases as with
          | nil => exact (nomatch h)
          | cons y ys => cases ks with
            | cons _ _ => exact (nomatch h)
            | nil =>
              obtain ⟨h, h4⟩ := and2 h
              obtain ⟨h1, h3⟩ := and2 h
              obtain rfl := of_decide_eq_true h1
              exact ⟨p1, y, ys, p, rfl, se_blt G k h3 ((sas es c X W cf G).1 _ h4) h4⟩
        | _ => exact (nomatch h)
      | _ => exact (nomatch h)
    ⟨fun e h => let ⟨_, _, _, _, _, q⟩ := main e h; q, fun e h => by
      obtain ⟨p1, y, ys, p, rfl, q⟩ := main e h
      exact st_truth (fun _ => rfl) q⟩
  | .isi t a => fun c X W cf G =>
    have main : ∀ e, (chk2 (.isi t a) c).v e = true → ∃ p1 y ys p, e = .Call (.Name "isinstance" p1) (y :: ys) [] p ∧ PE X e (tV c X W cf (.isi t a)) := fun e h => by
      cases e with
      | Call g as ks p => cases g with
        | Name x p1 => cases as with
          | nil => exact (nomatch h)
          | cons y ys => cases ys with
            | nil => exact (nomatch h)
            | cons z ys => cases ys with
              | cons _ _ => cases z <;> exact (nomatch h)
              | nil => cases z with
                | Name w p2 => cases ks with
                  | cons _ _ => exact (nomatch h)
                  | nil =>
                    obtain ⟨h, h6⟩ := and2 h
                    obtain ⟨h, h5⟩ := and2 h
                    obtain ⟨h, h4⟩ := and2 h
                    obtain ⟨h, h3⟩ := and2 h
                    obtain ⟨h1, h2⟩ := and2 h
                    obtain rfl := of_decide_eq_true h1
                    obtain rfl := of_decide_eq_true h2
                    exact ⟨p1, y, _, p, rfl, se_isi G t h3 h4 ((sv a c X W cf G).1 _ h6) h5⟩
                | _ => exact (nomatch h)
        | _ => exact (nomatch h)
      | _ => exact (nomatch h)
    ⟨fun e h => let ⟨_, _, _, _, _, q⟩ := main e h; q, fun e h => by
      obtain ⟨p1, y, ys, p, rfl, q⟩ := main e h
      exact st_truth (fun _ => rfl) q⟩
  | .bltv k i => fun c X W cf G =>
    have main : ∀ e, (chk2 (.bltv k i) c).v e = true → ∃ p1 y ys p, e = .Call (.Name k.name p1) (y :: ys) [] p ∧ PE X e (tV c X W cf (.bltv k i)) := fun e h => by
      cases e with
      | Call g as ks p => cases g with
        | Name x p1 => cases as with
          | nil => exact (nomatch h)
          | cons y ys => cases ys with
            | cons _ _ => cases y <;> exact (nomatch h)
            | nil => cases y with
              | Name w p2 => cases ks with
                | cons _ _ => exact (nomatch h)
                | nil =>
                  obtain ⟨h, h3⟩ := and2 h
                  obtain ⟨h1, h2⟩ := and2 h
                  obtain rfl := of_decide_eq_true h1
                  exact ⟨p1, _, _, p, rfl, se_bltv G k h2 h3⟩
              | _ => exact (nomatch h)
        | _ => exact (nomatch h)
      | _ => exact (nomatch h)
    ⟨fun e h => let ⟨_, _, _, _, _, q⟩ := main e h; q, fun e h => by
      obtain ⟨p1, y, ys, p, rfl, q⟩ := main e h
      exact st_truth (fun _ => rfl) q⟩
  | .subv i b => fun c X W cf G =>
    have main : ∀ e, (chk2 (.subv i b) c).v e = true → ∃ x y p, e = .Subscript x y p ∧ PE X e (tV c X W cf (.subv i b)) := fun e h => by
      cases e with
      | Subscript x y p => cases x with
        | Name w p2 =>
          obtain ⟨h, h3⟩ := and2 h
          obtain ⟨h1, h2⟩ := and2 h
          exact ⟨_, _, _, rfl, se_subv G h2 ((sv b c X W cf G).1 _ h3) h1⟩
        | _ => exact (nomatch h)
      | _ => exact (nomatch h)
    ⟨fun e h => let ⟨_, _, _, _, q⟩ := main e h; q, fun e h => by
      obtain ⟨x, y, p, rfl, q⟩ := main e h
      exact st_truth (fun _ => rfl) q⟩
  | .cmpv k a i => fun c X W cf G =>
    have main : ∀ e, (chk2 (.cmpv k a i) c).v e = true → ∃ l o y p2 p, e = .Compare l [o] [.Name y p2] p ∧ o = k.op ∧ visB c i y = true ∧ (chk2 a c).v l = true := fun e h => by
      cases e with
      | Compare l os rs p =>
        cases os with
        | nil => exact (nomatch h)
        | cons o os => cases os with
          | cons _ _ => cases rs with
            | nil => exact (nomatch h)
            | cons x _ => cases x <;> exact (nomatch h)
          | nil => cases rs with
            | nil => exact (nomatch h)
            | cons r rs => cases rs with
              | cons _ _ => cases r <;> exact (nomatch h)
              | nil => cases r with
                | Name y p2 =>
                  obtain ⟨h, h3⟩ := and2 h
                  obtain ⟨h1, h2⟩ := and2 h
                  exact ⟨l, o, y, p2, p, rfl, of_decide_eq_true h1, h2, h3⟩
                | _ => exact (nomatch h)
      | _ => exact (nomatch h)
    ⟨fun e h => by
      obtain ⟨l, o, y, p2, p, rfl, rfl, h2, h3⟩ := main e h
      exact se_cmpv G k h2 ((sv a c X W cf G).1 _ h3), fun e h => by
      obtain ⟨l, o, y, p2, p, rfl, rfl, h2, h3⟩ := main e h
      exact st_cmpv G k h2 ((sv a c X W cf G).1 _ h3)⟩
  | .popv i b => fun c X W cf G => ⟨fun e h => by
      cases e with
      | Call g as ks p => cases g with
        | Attribute x m ap => cases x with
          | Name w p2 => cases as with
            | nil => exact (nomatch h)
            | cons y ys => cases ys with
              | cons _ _ => exact (nomatch h)
              | nil => cases ks with
                | cons _ _ => exact (nomatch h)
                | nil =>
                  obtain ⟨h, h5⟩ := and2 h
                  obtain ⟨h, h4⟩ := and2 h
                  obtain ⟨h, h3⟩ := and2 h
                  obtain ⟨h1, h2⟩ := and2 h
                  obtain rfl := of_decide_eq_true h1
                  exact se_popv G h3 ((sv b c X W cf G).1 _ h5) h4 h2
          | _ => exact (nomatch h)
        | _ => exact (nomatch h)
      | _ => exact (nomatch h), fun e h => (nomatch h)⟩
  | .comp elt tg it cs => fun c X W cf G => ⟨fun e h => by
      cases e with
      | ListComp el gs sc p => cases gs with
        | nil => exact (nomatch h)
        | cons g gs => cases gs with
          | cons _ _ =>
            obtain ⟨t, i, fs, as⟩ := g
            cases as with
            | ofNat n => cases n with
              | zero => exact (nomatch h)
              | succ n => exact (nomatch h)
            | negSucc n => exact (nomatch h)
          | nil =>
            obtain ⟨t, i, fs, as⟩ := g
            cases as with
            | negSucc n => exact (nomatch h)
            | ofNat n => cases n with
              | succ n => exact (nomatch h)
              | zero =>
                have h' : (blkC c.N c.sc sc (tg.own c.N) && pln i && chkW it c t i && chkG { c with sc := relS sc c.sc, top := false } tg t && chkC cs { c with sc := relS sc c.sc, top := false } fs &&
                  (chk2 elt { c with sc := relS sc c.sc, top := false }).v el) = true := h
                obtain ⟨h, h6⟩ := and2 h'
                obtain ⟨h, h5⟩ := and2 h
                obtain ⟨h, h4⟩ := and2 h
                obtain ⟨h, h3⟩ := and2 h
                obtain ⟨h1, h2⟩ := and2 h
                exact se_comp G h1 h2 (sws it c X W cf G _ _ h3) (fun s H C cl fp => sg (G.blk sc s H C cl fp) tg t h4) (fun s H C cl fp => (sas cs _ _ _ cf (G.blk sc s H C cl fp)).2 _ h5)
                  (fun s H C cl fp => (sv elt _ _ _ cf (G.blk sc s H C cl fp)).1 _ h6)
      | _ => exact (nomatch h), fun e h => (nomatch h)⟩
  | .share a => fun c X W cf G => ⟨fun e h => se_share ((sv a c X W cf G).1 _ h), fun e h => (nomatch h)⟩
  | .listrg b => fun c X W cf G => ⟨fun e h => by
      cases e with
      | Call g as ks p => cases g with
        | Name x p1 => cases as with
          | nil => exact (nomatch h)
          | cons y ys => cases ys with
            | cons _ _ => 
              cases y with
              | Call g2 as2 ks2 p3 => cases g2 with
                | Name _ _ => cases as2 with
                  | nil => exact (nomatch h)
                  | cons _ as2 => cases as2 with
                    | nil => cases ks2 <;> exact (nomatch h)
                    | cons _ _ => exact (nomatch h)
                | _ => exact (nomatch h)
              | _ => exact (nomatch h)
            | nil => cases y with
              | Call g2 as2 ks2 p3 => cases g2 with
                | Name w p4 => cases as2 with
                  | nil => exact (nomatch h)
                  | cons z as2 => cases as2 with
                    | cons _ _ => exact (nomatch h)
                    | nil => cases ks2 with
                      | cons _ _ => exact (nomatch h)
                      | nil => cases ks with
                        | cons _ _ => exact (nomatch h)
                        | nil =>
                          obtain ⟨h, h6⟩ := and2 h
                          obtain ⟨h, h5⟩ := and2 h
                          obtain ⟨h, h4⟩ := and2 h
                          obtain ⟨h, h3⟩ := and2 h
                          obtain ⟨h1, h2⟩ := and2 h
                          obtain rfl := of_decide_eq_true h1
                          obtain rfl := of_decide_eq_true h2
                          exact se_listrg G h3 h4 ((sv b c X W cf G).1 _ h6) h5
                | _ => exact (nomatch h)
              | _ => exact (nomatch h)
        | _ => exact (nomatch h)
      | _ => exact (nomatch h), fun e h => (nomatch h)⟩
  | .lenset b => fun c X W cf G => ⟨fun e h => by
      cases e with
      | Call g as ks p => cases g with
        | Name x p1 => cases as with
          | nil => exact (nomatch h)
          | cons y ys => cases ys with
            | cons _ _ => 
              cases y with
              | Call g2 as2 ks2 p3 => cases g2 with
                | Name _ _ => cases as2 with
                  | nil => exact (nomatch h)
                  | cons _ as2 => cases as2 with
                    | nil => cases ks2 <;> exact (nomatch h)
                    | cons _ _ => exact (nomatch h)
                | _ => exact (nomatch h)
              | _ => exact (nomatch h)
            | nil => cases y with
              | Call g2 as2 ks2 p3 => cases g2 with
                | Name w p4 => cases as2 with
                  | nil => exact (nomatch h)
                  | cons z as2 => cases as2 with
                    | cons _ _ => exact (nomatch h)
                    | nil => cases ks2 with
                      | cons _ _ => exact (nomatch h)
                      | nil => cases ks with
                        | cons _ _ => exact (nomatch h)
                        | nil =>
                          obtain ⟨h, h6⟩ := and2 h
                          obtain ⟨h, h5⟩ := and2 h
                          obtain ⟨h, h4⟩ := and2 h
                          obtain ⟨h, h3⟩ := and2 h
                          obtain ⟨h1, h2⟩ := and2 h
                          obtain rfl := of_decide_eq_true h1
                          obtain rfl := of_decide_eq_true h2
                          exact se_lenset G h3 h4 ((sv b c X W cf G).1 _ h6) h5
                | _ => exact (nomatch h)
              | _ => exact (nomatch h)
        | _ => exact (nomatch h)
      | _ => exact (nomatch h), fun e h => (nomatch h)⟩
  | .neg a => fun c X W cf G => ⟨fun e h => by
      cases e with
      | UnaryOp o x p => cases o with
        | USub => exact se_neg ((sv a c X W cf G).1 _ h)
        | _ => exact (nomatch h)
      | _ => exact (nomatch h), fun e h => (nomatch h)⟩
  | .never => fun c X W cf G => ⟨fun e _ => ⟨fun pins s σ H Q I ⟨g, fr, S, rel, h⟩ => h.elim⟩, fun e _ => ⟨fun pins s σ H Q I ⟨g, fr, S, rel, h⟩ => h.elim⟩⟩
  | .rev a => fun c X W cf G => ⟨fun e h => by
      have h' : (match xRev e with | some x => (chk2 a c).v x | none => false) = true := h
      cases q : xRev e with
      | none => rw [q] at h'; cases h'
      | some x =>
        rw [q] at h'
        obtain ⟨k, p1, p2, p3, p, rfl⟩ := xRev_eq q
        exact se_rev ((sv a c X W cf G).1 _ h'), fun e h => (nomatch h)⟩
  | .dic0 t => fun c X W cf G => ⟨fun e h => by
      cases e with
      | Dict ks vs p => cases ks with
        | nil => cases vs with
          | nil => exact se_dic0 t
          | cons _ _ => exact (nomatch h)
        | cons _ _ => exact (nomatch h)
      | _ => exact (nomatch h), fun e h => (nomatch h)⟩
  | .sortset a => fun c X W cf G => ⟨fun e h => by
      cases e with
      | Call g as ks p => cases g with
        | Name x p1 => cases as with
          | nil => exact (nomatch h)
          | cons y ys => cases ys with
            | cons _ _ => cases y with
              | Call g2 as2 ks2 p2 => cases g2 with
                | Name _ _ => cases as2 with
                  | nil => exact (nomatch h)
                  | cons _ as3 => cases as3 with
                    | nil => cases ks2 <;> exact (nomatch h)
                    | cons _ _ => exact (nomatch h)
                | _ => exact (nomatch h)
              | _ => exact (nomatch h)
            | nil => cases y with
              | Call g2 as2 ks2 p2 => cases g2 with
                | Name f p3 => cases as2 with
                  | nil => exact (nomatch h)
                  | cons u as3 => cases as3 with
                    | cons _ _ => exact (nomatch h)
                    | nil => cases ks2 with
                      | cons _ _ => exact (nomatch h)
                      | nil => cases ks with
                        | cons _ _ => exact (nomatch h)
                        | nil =>
                          obtain ⟨h, h6⟩ := and2 h
                          obtain ⟨h, h5⟩ := and2 h
                          obtain ⟨h, h4⟩ := and2 h
                          obtain ⟨h, h3⟩ := and2 h
                          obtain ⟨h1, h2⟩ := and2 h
                          obtain rfl := of_decide_eq_true h1
                          obtain rfl := of_decide_eq_true h2
                          exact se_sortset G h3 h4 ((sv a c X W cf G).1 _ h6) h5
                | _ => exact (nomatch h)
              | _ => exact (nomatch h)
        | _ => exact (nomatch h)
      | _ => exact (nomatch h), fun e h => (nomatch h)⟩
  | .mind a b => fun c X W cf G => ⟨fun e h => by
      cases e with
      | Call g as ks p => cases g with
        | Name x p1 => cases as with
          | nil => exact (nomatch h)
          | cons y ys => cases ys with
            | cons _ _ => exact (nomatch h)
            | nil => cases ks with
              | nil => exact (nomatch h)
              | cons k ks =>
                obtain ⟨o, u, p2⟩ := k
                cases o with
                | none => cases ks <;> exact (nomatch h)
                | some k => cases ks with
                  | cons _ _ => exact (nomatch h)
                  | nil =>
                    obtain ⟨h, h6⟩ := and2 h
                    obtain ⟨h, h5⟩ := and2 h
                    obtain ⟨h, h4⟩ := and2 h
                    obtain ⟨h, h3⟩ := and2 h
                    obtain ⟨h1, h2⟩ := and2 h
                    obtain rfl := of_decide_eq_true h1
                    obtain rfl := of_decide_eq_true h2
                    exact se_mind G h3 ((sv a c X W cf G).1 _ h5) ((sv b c X W cf G).1 _ h6) h4
        | _ => exact (nomatch h)
      | _ => exact (nomatch h), fun e h => (nomatch h)⟩
  | .mth k a es => fun c X W cf G =>
    have main : ∀ e, (chk2 (.mth k a es) c).v e = true → (∃ f as ks p, e = .Call f as ks p) ∧ PE X e (tV c X W cf (.mth k a es)) := fun e h => by
      have h' : (match xMeth e with | some (o, m, ap, l, p) => decide (m = k.name) && decide (l.length = k.ar) && (ap.endLine == p.line) && noSup o && (chk2 a c).v o && chks es c l | none => false) = true := h
      cases q : xMeth e with
      | none => rw [q] at h'; cases h'
      | some r =>
        obtain ⟨o, m, ap, l, p⟩ := r
        rw [q] at h'
        obtain rfl := xMeth_eq q
        obtain ⟨h, h6⟩ := and2 h'
        obtain ⟨h, h5⟩ := and2 h
        obtain ⟨h, h4⟩ := and2 h
        obtain ⟨h, h3⟩ := and2 h
        obtain ⟨h1, h2⟩ := and2 h
        obtain rfl := of_decide_eq_true h1
        exact ⟨⟨_, _, _, _, rfl⟩, se_mth G k (of_decide_eq_true h2) h4 h3 ((sv a c X W cf G).1 _ h5) (sae es c X W cf G _ h6) h6⟩
    ⟨fun e h => (main e h).2, fun e h => by
      obtain ⟨⟨f, as, ks, p, rfl⟩, q⟩ := main e h
      exact st_truth (fun _ => rfl) q⟩
  | .mthv k i es => fun c X W cf G =>
    have main : ∀ e, (chk2 (.mthv k i es) c).v e = true → (∃ f as ks p, e = .Call f as ks p) ∧ PE X e (tV c X W cf (.mthv k i es)) := fun e h => by
      have h' : (match xMeth e with | some (.Name y _, m, ap, l, p) => (decide (k = .get1) || decide (k = .get2)) && decide (m = k.name) && decide (l.length = k.ar) && (ap.endLine == p.line) && visB c i y && chks es c l | _ => false) = true := h
      cases q : xMeth e with
      | none => rw [q] at h'; cases h'
      | some r =>
        obtain ⟨o, m, ap, l, p⟩ := r
        rw [q] at h'
        obtain rfl := xMeth_eq q
        cases o with
        | Name y py =>
          obtain ⟨h, h6⟩ := and2 h'
          obtain ⟨h, h5⟩ := and2 h
          obtain ⟨h, h4⟩ := and2 h
          obtain ⟨h, h3⟩ := and2 h
          obtain ⟨h1, h2⟩ := and2 h
          obtain rfl := of_decide_eq_true h2
          rw [Bool.or_eq_true] at h1
          exact ⟨⟨_, _, _, _, rfl⟩, se_mthv G k (h1.imp of_decide_eq_true of_decide_eq_true) (of_decide_eq_true h3) h5 h4 (sae es c X W cf G _ h6) h6⟩
        | _ => cases h'
    ⟨fun e h => (main e h).2, fun e h => by
      obtain ⟨⟨f, as, ks, p, rfl⟩, q⟩ := main e h
      exact st_truth (fun _ => rfl) q⟩
  | .fld cl f a => fun c X W cf G =>
    have main : ∀ e, (chk2 (.fld cl f a) c).v e = true → (∃ o p, e = .Attribute o f p) ∧ PE X e (tV c X W cf (.fld cl f a)) := fun e h => by
      have h' : (match xAttr e with | some (o, f', _) => decide (f = f') && noSup o && c.cs.contains cl && c.ats.contains (cl, f) && (chk2 a c).v o | none => false) = true := h
      cases q : xAttr e with
      | none => rw [q] at h'; cases h'
      | some r =>
        obtain ⟨o, f', p⟩ := r
        rw [q] at h'
        obtain rfl := xAttr_eq q
        obtain ⟨h, h5⟩ := and2 h'
        obtain ⟨h, h4⟩ := and2 h
        obtain ⟨h, h3⟩ := and2 h
        obtain ⟨h1, h2⟩ := and2 h
        obtain rfl := of_decide_eq_true h1
        exact ⟨⟨_, _, rfl⟩, se_fld G h2 h3 h4 ((sv a c X W cf G).1 _ h5)⟩
    ⟨fun e h => (main e h).2, fun e h => by
      obtain ⟨⟨o, p, rfl⟩, q⟩ := main e h
      exact st_truth (fun _ => rfl) q⟩
  | .meth cl m f a es => fun c X W cf G =>
    have main : ∀ e, (chk2 (.meth cl m f a es) c).v e = true → (∃ f as ks p, e = .Call f as ks p) ∧ PE X e (tV c X W cf (.meth cl m f a es)) := fun e h => by
      have h' : (match xMeth e with | some (o, m', ap, l, p) => decide (m = m') && decide (l.length < 20) && (ap.endLine == p.line) && noSup o && c.ms.contains (f, cl, m) && arB c f (l.length + 1) && (chk2 a c).v o && chks es c l | none => false) = true := h
      cases q : xMeth e with
      | none => rw [q] at h'; cases h'
      | some r =>
        obtain ⟨o, m', ap, l, p⟩ := r
        rw [q] at h'
        obtain rfl := xMeth_eq q
        obtain ⟨h, h8⟩ := and2 h'
        obtain ⟨h, h7⟩ := and2 h
        obtain ⟨h, h6⟩ := and2 h
        obtain ⟨h, h5⟩ := and2 h
        obtain ⟨h, h4⟩ := and2 h
        obtain ⟨h, h3⟩ := and2 h
        obtain ⟨h1, h2⟩ := and2 h
        obtain rfl := of_decide_eq_true h1
        exact ⟨⟨_, _, _, _, rfl⟩, se_meth G h5 h6 h4 h3 (of_decide_eq_true h2) ((sv a c X W cf G).1 _ h7) ((sas es c X W cf G).1 _ h8) h8⟩
    ⟨fun e h => (main e h).2, fun e h => by
      obtain ⟨⟨f, as, ks, p, rfl⟩, q⟩ := main e h
      exact st_truth (fun _ => rfl) q⟩
  | .make cl f es => fun c X W cf G =>
    have main : ∀ e, (chk2 (.make cl f es) c).v e = true → (∃ x p1 as ks p, e = .Call (.Name x p1) as ks p) ∧ PE X e (tV c X W cf (.make cl f es)) := fun e h => by
      have h' : (match xFn e with | some (x, _, l, _) => decide (x = cl) && c.ms.contains (f, cl, "__init__") && arB c f (l.length + 1) && glB c x && chks es c l | none => false) = true := h
      cases q : xFn e with
      | none => rw [q] at h'; cases h'
      | some r =>
        obtain ⟨x, q1, l, p⟩ := r
        rw [q] at h'
        obtain rfl := xFn_eq q
        obtain ⟨h, h5⟩ := and2 h'
        obtain ⟨h, h4⟩ := and2 h
        obtain ⟨h, h3⟩ := and2 h
        obtain ⟨h1, h2⟩ := and2 h
        obtain rfl := of_decide_eq_true h1
        exact ⟨⟨_, _, _, _, _, rfl⟩, se_make G h2 h3 h4 ((sas es c X W cf G).1 _ h5) h5⟩
    ⟨fun e h => (main e h).2, fun e h => by
      obtain ⟨⟨x, p1, as, ks, p, rfl⟩, q⟩ := main e h
      exact st_truth (fun _ => rfl) q⟩
  | .orv a b => fun c X W cf G => ⟨fun e h => by
      cases e with
      | BoolOp o vs p => cases o with
        | Or => cases vs with
          | nil => exact (nomatch h)
          | cons x vs => cases vs with
            | nil => exact (nomatch h)
            | cons y vs => cases vs with
              | cons _ _ => exact (nomatch h)
              | nil =>
                obtain ⟨h1, h2⟩ := and2 h
                exact se_orv ((sv a c X W cf G).1 _ h1) ((sv b c X W cf G).1 _ h2)
        | _ => exact (nomatch h)
      | _ => exact (nomatch h), fun e h => (nomatch h)⟩
  | .isc cl a => fun c X W cf G =>
    have main : ∀ e, (chk2 (.isc cl a) c).v e = true → (∃ x p1 as ks p, e = .Call (.Name x p1) as ks p) ∧ PE X e (tV c X W cf (.isc cl a)) := fun e h => by
      have h' : (match xFn e with | some (x, _, [y, .Name z _], _) => decide (x = "isinstance") && decide (z = cl) && c.cs.contains cl && glB c x && glB c z && pln y && (chk2 a c).v y | _ => false) = true := h
      cases q : xFn e with
      | none => rw [q] at h'; cases h'
      | some r =>
        obtain ⟨x, q1, l, p⟩ := r
        rw [q] at h'
        obtain rfl := xFn_eq q
        cases l with
        | nil => cases h'
        | cons y l => cases l with
          | nil => cases h'
          | cons z l => cases l with
            | cons _ _ => cases z <;> cases h'
            | nil => cases z with
              | Name z pz =>
                obtain ⟨h, h7⟩ := and2 h'
                obtain ⟨h, h6⟩ := and2 h
                obtain ⟨h, h5⟩ := and2 h
                obtain ⟨h, h4⟩ := and2 h
                obtain ⟨h, h3⟩ := and2 h
                obtain ⟨h1, h2⟩ := and2 h
                obtain rfl := of_decide_eq_true h1
                obtain rfl := of_decide_eq_true h2
                exact ⟨⟨_, _, _, _, _, rfl⟩, se_isc G h4 h5 h3 ((sv a c X W cf G).1 _ h7) h6⟩
              | _ => cases h'
    ⟨fun e h => (main e h).2, fun e h => by
      obtain ⟨⟨x, p1, as, ks, p, rfl⟩, q⟩ := main e h
      exact st_truth (fun _ => rfl) q⟩
  | .cmpl k i b => fun c X W cf G =>
    have main : ∀ e, (match xCmp e with | some (.Name x _, o, r) => decide (o = k.op) && pln r && visB c i x && (chk2 b c).v r | _ => false) = true → ∃ x px r p, e = .Compare (.Name x px) [k.op] [r] p ∧ pln r = true ∧ visB c i x = true ∧ (chk2 b c).v r = true := fun e h' => by
      cases q : xCmp e with
      | none => rw [q] at h'; cases h'
      | some t =>
        obtain ⟨l, o, r⟩ := t
        rw [q] at h'
        obtain ⟨p, rfl⟩ := xCmp_eq q
        cases l with
        | Name x px =>
          obtain ⟨h, h4⟩ := and2 h'
          obtain ⟨h, h3⟩ := and2 h
          obtain ⟨h1, h2⟩ := and2 h
          obtain rfl := of_decide_eq_true h1
          exact ⟨_, _, _, _, rfl, h2, h3, h4⟩
        | _ => cases h'
    ⟨fun e h => by
      obtain ⟨x, px, r, p, rfl, h2, h3, h4⟩ := main e h
      exact se_cmpl G k h3 ((sv b c X W cf G).1 _ h4) h2, fun e h => by
      obtain ⟨x, px, r, p, rfl, h2, h3, h4⟩ := main e h
      exact st_cmpl G k h3 ((sv b c X W cf G).1 _ h4) h2⟩
  | .tuprg b => fun c X W cf G => ⟨fun e h => by
      have h' : (match xFn e with | some (x, _, [y], _) => (match xFn y with | some (y', _, [z], _) => decide (x = "tuple") && decide (y' = "range") && glB c x && glB c y' && pln z && (chk2 b c).v z | _ => false) | _ => false) = true := h
      cases q : xFn e with
      | none => rw [q] at h'; cases h'
      | some t =>
        obtain ⟨x, q1, l, p⟩ := t
        rw [q] at h'
        obtain rfl := xFn_eq q
        cases l with
        | nil => cases h'
        | cons y l => cases l with
          | cons _ _ => cases h'
          | nil =>
            dsimp only at h'
            cases q2 : xFn y with
            | none => rw [q2] at h'; cases h'
            | some t2 =>
              obtain ⟨y', q3, l2, p2⟩ := t2
              rw [q2] at h'
              obtain rfl := xFn_eq q2
              cases l2 with
              | nil => cases h'
              | cons z l2 => cases l2 with
                | cons _ _ => cases h'
                | nil =>
                  obtain ⟨h, h6⟩ := and2 h'
                  obtain ⟨h, h5⟩ := and2 h
                  obtain ⟨h, h4⟩ := and2 h
                  obtain ⟨h, h3⟩ := and2 h
                  obtain ⟨h1, h2⟩ := and2 h
                  obtain rfl := of_decide_eq_true h1
                  obtain rfl := of_decide_eq_true h2
                  exact se_tuprg G h3 h4 ((sv b c X W cf G).1 _ h6) h5, fun e h => (nomatch h)⟩
  | .disp k v => fun c X W cf G => ⟨fun e h => by
      cases e with
      | Dict ks vs p => cases ks with
        | nil => exact (nomatch h)
        | cons x ks => cases x with
          | none => cases ks <;> exact (nomatch h)
          | some x => cases ks with
            | cons _ _ => exact (nomatch h)
            | nil => cases vs with
              | nil => exact (nomatch h)
              | cons y vs => cases vs with
                | cons _ _ => exact (nomatch h)
                | nil =>
                  obtain ⟨h1, h2⟩ := and2 h
                  exact se_disp ((sv k c X W cf G).1 _ h1) ((sv v c X W cf G).1 _ h2)
      | _ => exact (nomatch h), fun e h => (nomatch h)⟩
theorem sas : ∀ (ms : Xs) (c : SC) (X : Cx) (W : WX) (cf : CF), Good c X W cf → (∀ es, chks ms c es = true → PA X es (tAs c X W cf ms)) ∧ ∀ fs, chkC ms c fs = true → PTs X fs (tX X.K X.mg W rId (evC cf c.gl ms))
  | .nil => fun c X W cf G => ⟨fun es h => by
      cases es with
      | nil => exact sa_nil
      | cons _ _ => exact (nomatch h), fun fs h => by
      cases fs with
      | nil => exact pts_nil.weak fun σ H Q ⟨g, fr, S, rel, h⟩ => h g H true Keep.refl rel ⟨rfl, rfl⟩
      | cons _ _ => exact (nomatch h)⟩
  | .cons m ms => fun c X W cf G => ⟨fun es h => by
      cases es with
      | nil => exact (nomatch h)
      | cons x xs =>
        obtain ⟨h, h3⟩ := and2 h
        obtain ⟨h1, h2⟩ := and2 h
        exact sa_cons ((sv m c X W cf G).1 _ h2) ((sas ms c X W cf G).1 _ h3) h1, fun fs h => by
      cases ms with
      | cons _ _ => exact (nomatch h)
      | nil => cases fs with
        | nil => exact (nomatch h)
        | cons x xs => cases xs with
          | cons _ _ => exact (nomatch h)
          | nil => exact pts_one ((sv m c X W cf G).2 _ h)⟩
theorem sae : ∀ (ms : Xs) (c : SC) (X : Cx) (W : WX) (cf : CF), Good c X W cf → ∀ es, chks ms c es = true → Args c X W cf ms es
  | .nil => fun c X W cf G es h => by
      cases es with
      | nil => exact trivial
      | cons _ _ => exact (nomatch h)
  | .cons m ms => fun c X W cf G es h => by
      cases es with
      | nil => exact (nomatch h)
      | cons x xs =>
        obtain ⟨h, h3⟩ := and2 h
        obtain ⟨h1, h2⟩ := and2 h
        exact ⟨(sv m c X W cf G).1 _ h2, sae ms c X W cf G _ h3⟩
theorem sws : ∀ (w : Wk) (c : SC) (X : Cx) (W : WX) (cf : CF), Good c X W cf → ∀ t x, chkW w c t x = true → PI X t x (tWk c X W cf w)
  | .seq e => fun c X W cf G t x h => sw_seq ((sv e c X W cf G).1 _ h)
  | .rng1 a => fun c X W cf G t x h => by
      cases x with
      | Call g as ks p => cases g with
        | Name f p1 => cases as with
          | nil => exact (nomatch h)
          | cons y ys => cases ys with
            | cons _ _ => exact (nomatch h)
            | nil => cases ks with
              | cons _ _ => exact (nomatch h)
              | nil =>
                obtain ⟨h, h4⟩ := and2 h
                obtain ⟨h, h3⟩ := and2 h
                obtain ⟨h1, h2⟩ := and2 h
                obtain rfl := of_decide_eq_true h1
                exact sw_rng1 G h2 ((sv a c X W cf G).1 _ h4) h3
        | _ => exact (nomatch h)
      | _ => exact (nomatch h)
  | .rng2 a b => fun c X W cf G t x h => by
      cases x with
      | Call g as ks p => cases g with
        | Name f p1 => cases as with
          | nil => exact (nomatch h)
          | cons y ys => cases ys with
            | nil => exact (nomatch h)
            | cons z ys => cases ys with
              | cons _ _ => exact (nomatch h)
              | nil => cases ks with
                | cons _ _ => exact (nomatch h)
                | nil =>
                  obtain ⟨h, h6⟩ := and2 h
                  obtain ⟨h, h5⟩ := and2 h
                  obtain ⟨h, h4⟩ := and2 h
                  obtain ⟨h, h3⟩ := and2 h
                  obtain ⟨h1, h2⟩ := and2 h
                  obtain rfl := of_decide_eq_true h1
                  exact sw_rng2 G h2 ((sv a c X W cf G).1 _ h5) ((sv b c X W cf G).1 _ h6) h3 h4
        | _ => exact (nomatch h)
      | _ => exact (nomatch h)
  | .enm a => fun c X W cf G t x h => by
      cases t with
      | Tuple es kk tp => cases x with
        | Call g as ks p => cases g with
          | Name f p1 => cases as with
            | nil => exact (nomatch h)
            | cons y ys => cases ys with
              | cons _ _ => exact (nomatch h)
              | nil => cases ks with
                | cons _ _ => exact (nomatch h)
                | nil =>
                  obtain ⟨h, h4⟩ := and2 h
                  obtain ⟨h, h3⟩ := and2 h
                  obtain ⟨h1, h2⟩ := and2 h
                  obtain rfl := of_decide_eq_true h1
                  exact sw_enm G h2 ((sv a c X W cf G).1 _ h4) h3
          | _ => exact (nomatch h)
        | _ => exact (nomatch h)
      | _ => exact (nomatch h)
  | .zip a b => fun c X W cf G t x h => by
      cases t with
      | Tuple es kk tp => cases x with
        | Call g as ks p => cases g with
          | Name f p1 => cases as with
            | nil => exact (nomatch h)
            | cons y ys => cases ys with
              | nil => exact (nomatch h)
              | cons z ys => cases ys with
                | cons _ _ => exact (nomatch h)
                | nil => cases ks with
                  | cons _ _ => exact (nomatch h)
                  | nil =>
                    obtain ⟨h, h6⟩ := and2 h
                    obtain ⟨h, h5⟩ := and2 h
                    obtain ⟨h, h4⟩ := and2 h
                    obtain ⟨h, h3⟩ := and2 h
                    obtain ⟨h1, h2⟩ := and2 h
                    obtain rfl := of_decide_eq_true h1
                    exact sw_zip G h2 ((sv a c X W cf G).1 _ h5) ((sv b c X W cf G).1 _ h6) h3 h4
          | _ => exact (nomatch h)
        | _ => exact (nomatch h)
      | _ => exact (nomatch h)
  | .rng3 a b d => fun c X W cf G t x h => by
      cases x with
      | Call g as ks p => cases g with
        | Name f p1 => cases as with
          | nil => exact (nomatch h)
          | cons y ys => cases ys with
            | nil => exact (nomatch h)
            | cons z ys => cases ys with
              | nil => exact (nomatch h)
              | cons u ys => cases ys with
                | cons _ _ => exact (nomatch h)
                | nil => cases ks with
                  | cons _ _ => exact (nomatch h)
                  | nil =>
                    obtain ⟨h, h8⟩ := and2 h
                    obtain ⟨h, h7⟩ := and2 h
                    obtain ⟨h, h6⟩ := and2 h
                    obtain ⟨h, h5⟩ := and2 h
                    obtain ⟨h, h4⟩ := and2 h
                    obtain ⟨h, h3⟩ := and2 h
                    obtain ⟨h1, h2⟩ := and2 h
                    obtain rfl := of_decide_eq_true h1
                    exact sw_rng3 G h2 ((sv a c X W cf G).1 _ h6) ((sv b c X W cf G).1 _ h7) ((sv d c X W cf G).1 _ h8) h3 h4 h5
        | _ => exact (nomatch h)
      | _ => exact (nomatch h)
end
end Eng
end

section
/-! The engine, part L: statements. -/
namespace Eng
open PySem PySem.Spec PyProof.Rows L2

def noComp : Expr → Bool
  | .ListComp .. => false
  | .SetComp .. => false
  | .DictComp .. => false
  | _ => true
def noTup : Expr → Bool
  | .Tuple .. => false
  | _ => true
/-- a comprehension given to a name: the store is swapped in -/
def swB (c : SC) (e : Expr) (x : Str) (p : Pos) : Bool := match e with
  | .ListComp _ _ s q => decide (c.sc.kind = .function) && decide (c.sc.names.lookup x = some .local) && (p.line == q.line) && !(s.names.any fun (n, k) => n == x && (k == .local || k == .cell))
  | _ => false
def Xp.isComp : Xp → Bool
  | .comp _ _ _ _ => true
  | _ => false
def raiseB (x : Str) (c : SC) : Stmt → Bool
  | .Raise (some (.Call (.Name y _) [.Constant (.str _) _ _] [] _)) none _ => decide (x = y) && c.xs.contains y && glB c y
  | _ => false
/-- x, y = a, b with plain local names -/
def parB (c : SC) (x y : Str) (px py : Pos) (a b : Expr) : Bool := decide (c.sc.kind = .function) && decide (c.sc.names.lookup x = some .local) && decide (c.sc.names.lookup y = some .local) && (py.line == px.line) && !(x == y) && pln a && pln b &&
  !(foldedForSure 8 a && foldedForSure 8 b) && !(constantsAlone 8 a && constantsAlone 8 b)
def par2B (c : SC) (x y : Str) (a b : Expr) : Bool := pln a && pln b && isLoc c.top (c.sc.names.lookup x) && isLoc c.top (c.sc.names.lookup y) && (decide (c.sc.names.lookup x ≠ some .local) || decide (c.sc.names.lookup y ≠ some .local))
def xSetF : Stmt → Option (Expr × Str × Expr)
  | .Assign [.Attribute o f _] e _ => some (o, f, e)
  | _ => none
theorem xSetF_eq {s : Stmt} {o e : Expr} {f : Str} (h : xSetF s = some (o, f, e)) : ∃ p q, s = .Assign [.Attribute o f p] e q := by
  unfold xSetF at h
  split at h
  · cases h; exact ⟨_, _, rfl⟩
  · cases h
mutual
def chkS : Sm → SC → Stmt → Bool
  | .exp m, c => fun s => match s with | .Expr e _ => noComp e && (chk2 m c).v e | _ => false
  | .set i m, c => fun s => match s with
    | .Assign [.Name x p] e _ => decide (c.N[i]? = some x) && isLoc c.top (c.sc.names.lookup x) && (noComp e || decide (c.sc.names.lookup x = some .cell) && (match e with | .ListComp .. => true | _ => false) || m.isComp && swB c e x p) && (chk2 m c).v e
    | _ => false
  | .asg t m, c => fun s => match s with | .Assign [tg] e _ => isTupleE tg && chkG c t tg && noComp e && noTup e && (chk2 m c).v e | _ => false
  | .ret m, c => fun s => match s with | .Return (some e) _ => (chk2 m c).v e | _ => false
  | .retN, _ => fun s => match s with | .Return none _ => true | _ => false
  | .cond t a b, c => fun s => match s with | .If e x y _ => (chk2 t c).t e && chkSs a c x && chkSs b c y | _ => false
  | .loop tg it body, c => fun s => match s with | .For t i b [] _ => pln i && chkG c tg t && chkW it c t i && chkSs body c b | _ => false
  | .raise x, c => fun s => raiseB x c s
  | .appv i m, c => fun s => match s with | .Expr (.Call (.Attribute (.Name x _) a ap) [y] [] cp) _ => decide (a = "append") && (ap.endLine == cp.line) && visB c i x && pln y && (chk2 m c).v y | _ => false
  | .extv i m, c => fun s => match s with | .Expr (.Call (.Attribute (.Name x _) a ap) [y] [] cp) _ => decide (a = "extend") && (ap.endLine == cp.line) && visB c i x && pln y && (chk2 m c).v y | _ => false
  | .setv i ix m, c => fun s => match s with | .Assign [.Subscript (.Name x _) y _] e _ => noComp e && visB c i x && pln y && (chk2 ix c).v y && (chk2 m c).v e | _ => false
  | .setr a ix m, c => fun s => match s with | .Assign [.Subscript x y _] e _ => noComp e && pln y && (chk2 a c).v x && (chk2 ix c).v y && (chk2 m c).v e | _ => false
  | .pass, _ => fun s => match s with | .Pass _ => true | _ => false
  | .setf cl f a m, c => fun s => match xSetF s with
    | some (o, f', e) => decide (f = f') && noComp e && c.cs.contains cl && c.ats.contains (cl, f) && (chk2 a c).v o && (chk2 m c).v e
    | none => false
  | .setrd a ix m, c => fun s => match s with | .Assign [.Subscript x y _] e _ => noComp e && pln y && (chk2 a c).v x && (chk2 ix c).v y && (chk2 m c).v e | _ => false
  | .never, _ => fun _ => true
  | .par i j m n, c => fun s => match s with | .Assign [.Tuple [.Name x px, .Name y py] _ _] (.Tuple [a, b] _ _) _ => decide (c.N[i]? = some x) && decide (c.N[j]? = some y) && (parB c x y px py a b || decide (i ≠ j) && par2B c x y a b) && (chk2 m c).v a && (chk2 n c).v b | _ => false
  | .setd i ix m, c => fun s => match s with | .Assign [.Subscript (.Name x _) y _] e _ => noComp e && visB c i x && pln y && (chk2 ix c).v y && (chk2 m c).v e | _ => false
def chkSs : Sms → SC → List Stmt → Bool
  | .nil, _ => fun l => l.isEmpty
  | .cons s ss, c => fun l => match l with | x :: xs => chkS s c x && chkSs ss c xs | [] => false
end

/-! ### what is wanted behind a statement -/
def AftS (K : PySem.W.Frag) (mg : Str → Option Value) (W : WX) (g : Gh) (H : Hp) (r : RS) (D : Ends) : Prop := match r with
  | .nx fr S => ∀ g' H' σ', Keep g H g' H' → g'.tmp = g.tmp → Rel K mg g' fr S σ' H' → D.nx σ' H'
  | .rt v fr S => ∀ g' H' σ' x, Keep g H g' H' → Rel K mg g' fr S σ' H' → rV K mg g.tmp g' H' v x → D.rt x H'
  | .ex e fr S => ∀ g' H' σ' c d, Keep g H g' H' → Rel K mg g' fr S σ' H' → g'.tmp = g.tmp → XR K mg g' H' e c d → W c d σ' H'
  | .bk fr S => ∀ g' H' σ', Keep g H g' H' → g'.tmp = g.tmp → Rel K mg g' fr S σ' H' → D.bk σ' H'
  | .ct fr S => ∀ g' H' σ', Keep g H g' H' → g'.tmp = g.tmp → Rel K mg g' fr S σ' H' → D.ct σ' H'
  | .no => False
def tS (K : PySem.W.Frag) (mg : Str → Option Value) (W : WX) (f : Frame → Store → RS) : TS := fun D σ H => ∃ g fr S, Rel K mg g fr S σ H ∧ AftS K mg W g H (f fr S) D
section
variable {K : PySem.W.Frag} {mg : Str → Option Value} {W : WX} {g g1 : Gh} {H H1 : Hp} {σ : L2.St} {D : Ends}
theorem AftS.shift {r : RS} (k : Keep g H g1 H1) (t : g1.tmp = g.tmp) (h : AftS K mg W g H r D) : AftS K mg W g1 H1 r D := by
  cases r with
  | nx fr S => exact fun g' H' σ' k' t' e => h g' H' σ' (k.trans k') (t'.trans t) e
  | rt v fr S => exact fun g' H' σ' x k' e q => h g' H' σ' x (k.trans k') e (by rw [← t]; exact q)
  | ex e fr S => exact fun g' H' σ' c d k' e t' q => h g' H' σ' c d (k.trans k') e (t'.trans t) q
  | bk fr S => exact fun g' H' σ' k' t' e => h g' H' σ' (k.trans k') (t'.trans t) e
  | ct fr S => exact fun g' H' σ' k' t' e => h g' H' σ' (k.trans k') (t'.trans t) e
  | no => exact h
theorem AftS.bind {α β : Type} {R : List Addr → Gh → Hp → α → β → Prop} {r : RX α} {k : α → Frame → Store → RS} (hR : ∀ t g H a b, R t g H a b → g.tmp = t) (h : AftS K mg W g H (r.thn k) D) :
    Aft K mg W R g H σ r (fun b H1 => ∃ a fr1 S1 g1, Keep g H g1 H1 ∧ Rel K mg g1 fr1 S1 σ H1 ∧ R g1.tmp g1 H1 a b ∧ g1.tmp = g.tmp ∧ AftS K mg W g1 H1 (k a fr1 S1) D) := by
  cases r with
  | ok a fr S => exact fun g' H' b k' e q => ⟨a, fr, S, g', k', e, by rw [hR _ _ _ _ _ q]; exact q, hR _ _ _ _ _ q, AftS.shift k' (hR _ _ _ _ _ q) h⟩
  | ex e fr S => exact fun g' H' c d k' e t q => h g' H' σ c d k' e t q
  | no => exact h
end

section
variable {c : SC} {X : Cx} {W : WX} {cf : CF} {pos : Pos} {m : Xp} {e : Expr}
abbrev tSm (c : SC) (X : Cx) (W : WX) (cf : CF) (s : Sm) : TS := tS X.K X.mg W (ex cf c.gl s)
abbrev tSs (c : SC) (X : Cx) (W : WX) (cf : CF) (s : Sms) : TS := tS X.K X.mg W (exs cf c.gl s)
theorem noComp_sw (h : noComp e = true) (t : Option Expr) (l : Nat) (env : Env) : swapsWith e t l env = pure false := by
  cases e <;> first | rfl | cases h
theorem noComp_sole (h : noComp e = true) (t : Expr) (l : Nat) (env : Env) : swapsWithSole [t] e l env = pure false := noComp_sw h (some t) l env
theorem ss_exp (h : PE X e (tV c X W cf m)) (hn : noComp e = true) : PS X (.Expr e pos) (tSm c X W cf (.exp m)) := by
  refine (ps_expr (frzPE h) (noComp_sw hn _ _ _)).weak fun D σ H ⟨g, fr, S, rel, h⟩ => ⟨g, fr, S, rel, ?_⟩
  exact (AftS.bind rD_tmp h).imp fun x H1 ⟨d, fr1, S1, g1, k1, rel1, r1, t1, h1⟩ => h1 g1 H1 σ Keep.refl rfl rel1
/-- a result stored in a slot -/
theorem wk_set {i : Nat} {D : Ends} {σ : L2.St} {H : Hp} (h : tSm c X W cf (.set i m) D σ H) : tV c X W cf m σ H (fun x H1 => D.nx (σ.set i (some x)) H1) := by
  obtain ⟨g, fr, S, rel, h⟩ := h
  refine ⟨g, fr, S, rel, ?_⟩
  have h' : AftS X.K X.mg W g H ((ev cf c.gl m fr S).thn fun v fr S => .nx (fr.set i (some v)) S) D := h
  cases e : ev cf c.gl m fr S with
  | no => rw [e] at h'; exact h'
  | ex x f s => rw [e] at h'; exact fun g' H' c d k' e t q => h' g' H' σ c d k' e t q
  | ok v f s =>
    rw [e] at h'
    intro g1 H1 x k1 rel1 rv
    cases v with
    | fz d => exact h' g1 H1 _ k1 rv.1 (rel1.setFz rv.2)
    | own cl =>
      obtain ⟨a, rfl, ht, na, hc⟩ := rv
      refine h' ⟨g1.rho, a :: g1.own, g.tmp⟩ H1 _ ⟨fun b o h0 n1 n2 => ?_, fun b o h0 n1 n2 z => z, k1.tups, k1.pre⟩ rfl (rel1.setOwn ht na hc)
      obtain ⟨q1, q2, q3⟩ := k1.keep b o h0 n1 n2
      refine ⟨q1, q2, fun z => ?_⟩
      rcases List.mem_cons.mp z with z | z
      · subst z
        exact na (k1.tmp b o h0 n1 n2 (by rw [ht]; exact List.mem_cons_self))
      · exact q3 z
theorem good_loc (G : Good c X W cf) {i : Nat} {x : Str} (h1 : c.N[i]? = some x) (h2 : isLoc c.top (c.sc.names.lookup x) = true) : X.N[i]? = some x ∧ L2.Loc X.env.scope x ∧ (X.fn x = true ∨ X.env.scope.names.lookup x = some .local) := by
  refine ⟨by rw [G.N]; exact h1, ?_⟩
  unfold L2.Loc
  rw [G.sc]
  cases q : c.sc.names.lookup x with
  | none => rw [q] at h2; cases h2
  | some k =>
    rw [q] at h2
    cases k with
    | «local» => exact ⟨.inl rfl, .inr rfl⟩
    | cell => exact ⟨.inr rfl, .inl (G.top h2 x)⟩
    | free => cases h2
    | globalExplicit => cases h2
    | globalImplicit => cases h2
/-- two results stored in two slots -/
theorem wk_par {i j : Nat} {n : Xp} (hij : i ≠ j) {D : Ends} {σ : L2.St} {H : Hp} (h : tSm c X W cf (.par i j m n) D σ H) :
    tV c X W cf m σ H (fun x H1 => tV c X W cf n σ H1 fun y H2 => ∀ H3, Grows H2 H3 → D.nx ((σ.set i (some x)).set j (some y)) H3) := by
  obtain ⟨g, fr, S, rel, h⟩ := h
  refine ⟨g, fr, S, rel, ?_⟩
  have h' : AftS X.K X.mg W g H ((ev cf c.gl m fr S).thn fun v fr S => (ev cf c.gl n fr S).thn fun w fr S => .nx ((fr.set i (some v)).set j (some w)) S) D := h
  cases e : ev cf c.gl m fr S with
  | no => rw [e] at h'; exact h'
  | ex x f s => rw [e] at h'; exact fun g' H' c d k' e t q => h' g' H' σ c d k' e t q
  | ok v f s =>
    rw [e] at h'
    intro g1 H1 x k1 rel1 rv
    refine ⟨g1, f, s, rel1, ?_⟩
    have h2 : AftS X.K X.mg W g H ((ev cf c.gl n f s).thn fun w fr S => .nx ((fr.set i (some v)).set j (some w)) S) D := h'
    have sub : ∀ a, a ∈ g.tmp → a ∈ g1.tmp := fun a ha => by
      cases v with
      | fz d => rw [rv.1]; exact ha
      | own cl => obtain ⟨b, rfl, ht, na, hc⟩ := rv; rw [ht]; exact List.mem_cons_of_mem _ ha
    cases e2 : ev cf c.gl n f s with
    | no => rw [e2] at h2; exact h2
    | ex x f2 s2 =>
      rw [e2] at h2
      intro g2 H2 cc dd k2 rel2 t2 q2
      have sub2 : ∀ a, a ∈ g.tmp → a ∈ g2.tmp := fun a ha => by rw [t2]; exact sub a ha
      have k3 := k1.trans k2
      have kf : Keep g H { g2 with tmp := g.tmp } H2 := keep_fin k3 rfl rfl fun b hb => .inl hb
      obtain ⟨q3, vs, q4, q5, q6⟩ := q2
      exact h2 _ H2 σ cc dd kf (rel2.drop sub2) rfl ⟨q3, vs, q4.mono (mono_drop sub2), q5, q6⟩
    | ok w f2 s2 =>
      rw [e2] at h2
      intro g2 H0 y k2 rel2 rw2 H2 gr
      replace rel2 := rel2.grows gr
      replace k2 := k2.trans gr.keep
      replace rw2 : rV X.K X.mg g1.tmp g2 H2 w y := by
        cases w with
        | fz d => exact ⟨rw2.1, rw2.2.mono gr.mono⟩
        | own cl => obtain ⟨b, r1, r2, r3, r4⟩ := rw2; exact ⟨b, r1, r2, r3, r4.grows gr⟩
      have k3 := k1.trans k2
      have cm : (σ.set i (some x)).set j (some y) = (σ.set j (some y)).set i (some x) := List.set_comm _ _ hij
      have cf' : (f2.set i (some v)).set j (some w) = (f2.set j (some w)).set i (some v) := List.set_comm _ _ hij
      cases v with
      | fz d =>
        have r1 : RD X.K g2 H2 d x := rv.2.mono k2.mono
        cases w with
        | fz d2 => exact h2 g2 H2 _ k3 (rw2.1.trans rv.1) ((rel2.setFz r1).setFz rw2.2)
        | own cl =>
          obtain ⟨b, rfl, ht, na, hc⟩ := rw2
          have ht' : g2.tmp = b :: g.tmp := by rw [ht, rv.1]
          have na' : b ∉ g.tmp := by rw [← rv.1]; exact na
          refine h2 ⟨g2.rho, b :: g2.own, g.tmp⟩ H2 _ (keep_fin k3 rfl rfl fun z hz => ?_) rfl ((rel2.setFz r1).setOwn ht' na' hc)
          rcases List.mem_cons.mp hz with rfl | hz
          · exact .inr ⟨by rw [ht']; exact List.mem_cons_self, na'⟩
          · exact .inl hz
      | own c1 =>
        obtain ⟨a, rfl, ht1, na1, hc1⟩ := rv
        have ha1 : a ∈ g1.tmp := by rw [ht1]; exact List.mem_cons_self
        obtain ⟨o, ho, _⟩ := hc1.some_of
        have ha2 : H2 a = H1 a := by rw [ho]; exact (k2.keep a o ho (fun z => (rel1.st.rt a z).2 ha1) (fun z => rel1.st.ot a z ha1)).1
        have hc2 : CellR X.K X.mg g2 H2 a c1 := hc1.mono k2.mono ha2
        rw [cm]
        rw [show (fun (w : Val) (fr : Frame) (S : Store) => RS.nx ((fr.set i (some (Val.own c1))).set j (some w)) S) = (fun w fr S => RS.nx ((fr.set j (some w)).set i (some (Val.own c1))) S) from funext fun w => funext fun fr => funext fun S => by rw [List.set_comm _ _ hij]] at h2
        cases w with
        | fz d2 =>
          have ht2 : g2.tmp = a :: g.tmp := by rw [rw2.1, ht1]
          refine h2 ⟨g2.rho, a :: g2.own, g.tmp⟩ H2 _ (keep_fin k3 rfl rfl fun z hz => ?_) rfl ((rel2.setFz rw2.2).setOwn ht2 na1 hc2)
          rcases List.mem_cons.mp hz with rfl | hz
          · exact .inr ⟨by rw [ht2]; exact List.mem_cons_self, na1⟩
          · exact .inl hz
        | own cl =>
          obtain ⟨b, rfl, ht, na, hc⟩ := rw2
          have ht2 : g2.tmp = b :: a :: g.tmp := by rw [ht, ht1]
          have na2 : b ∉ a :: g.tmp := by rw [← ht1]; exact na
          have mm : Mono X.K g2 H2 ⟨g2.rho, b :: g2.own, a :: g.tmp⟩ H2 := Mono.less (fun z hz => by
            rcases hz with hz | hz | hz
            · exact .inl hz
            · rcases List.mem_cons.mp hz with rfl | hz
              · exact .inr (.inr (by rw [ht2]; exact List.mem_cons_self))
              · exact .inr (.inl hz)
            · exact .inr (.inr (by rw [ht2]; exact List.mem_cons_of_mem _ hz))) fun _ _ z => z
          have rel3 := rel2.setOwn (i := j) ht2 na2 hc
          refine h2 ⟨g2.rho, a :: b :: g2.own, g.tmp⟩ H2 _ (keep_fin k3 rfl rfl fun z hz => ?_) rfl (rel3.setOwn (i := i) rfl na1 (hc2.mono mm rfl))
          rcases List.mem_cons.mp hz with rfl | hz
          · exact .inr ⟨by rw [ht2]; exact List.mem_cons_of_mem _ List.mem_cons_self, na1⟩
          · rcases List.mem_cons.mp hz with rfl | hz
            · exact .inr ⟨by rw [ht2]; exact List.mem_cons_self, fun zz => na2 (List.mem_cons_of_mem _ zz)⟩
            · exact .inl hz
theorem par_hw {env : Env} {x y : Str} {px py pt : Pos} {kt k2 : Nat} {pt2 : Pos} {a b : Expr} (hk : env.scope.kind = .function) (hx : env.scope.names.lookup x = some .local) (hy : env.scope.names.lookup y = some .local) (hl : (py.line == px.line) = true) (hxy : (x == y) = false)
    (ha : pln a = true) (hb : pln b = true) (h1 : (foldedForSure 8 a && foldedForSure 8 b) = false) (h2 : (constantsAlone 8 a && constantsAlone 8 b) = false) :
    swappedStores [.Tuple [.Name x px, .Name y py] kt pt] (.Tuple [a, b] k2 pt2) env = pure (some [x, y]) := by
  have kb : env.blockKind = .function := by unfold Env.blockKind; rw [hk]; rfl
  have kx : env.kindOf x = some .local := hx
  have ky : env.kindOf y = some .local := hy
  have hl' : (px.line == px.line) = true := by simp
  have ed : ([x, y].eraseDups.length != [x, y].length) = false := by
    have hyx : (y == x) = false := by rw [beq_eq_false_iff_ne] at hxy ⊢; exact fun z => hxy z.symm
    simp [List.eraseDups_cons, hyx]
  unfold swappedStores
  simp only [List.any_cons, List.any_nil, kb]
  refine (if_neg (fun z => nomatch z)).trans ((if_neg fun z => ?_).trans ?_)
  · rw [Bool.or_eq_true, Bool.or_eq_true] at z
    rcases z with z | z | z
    · cases a <;> first | (cases ha; done) | (cases z; done)
    · cases b <;> first | (cases hb; done) | (cases z; done)
    · cases z
  · generalize hL : List.filterMap _ _ = L
    have eL : L = [x, y] := by
      rw [← hL]
      simp only [List.filterMap_cons, List.filterMap_nil, List.head?_cons, Option.map_some, Option.getD_some, kx, ky]
      have pe : (Expr.Name x px).pos.line = px.line := rfl
      have lb : (some NameKind.local == some NameKind.local) = true := by decide
      simp only [pe, lb, hl, hl', Bool.and_true, if_true]
    subst eL
    refine (if_neg fun z => ?_).trans ((if_neg fun z => ?_).trans ((if_neg fun z => ?_).trans rfl))
    · rw [Bool.or_eq_true] at z
      rcases z with z | z
      · cases z
      · rw [ed] at z; cases z
    · rw [List.all_cons, List.all_cons, List.all_nil, Bool.and_true, h1] at z; cases z
    · rw [List.all_cons, List.all_cons, List.all_nil, Bool.and_true, h2] at z; cases z
theorem ss_par (G : Good c X W cf) {i j : Nat} {n : Xp} {x y : Str} {px py pt pt2 : Pos} {kt k2 : Nat} {a b : Expr} (h1 : c.N[i]? = some x) (h2 : c.N[j]? = some y) (hb : parB c x y px py a b = true) (ha : PE X a (tV c X W cf m)) (hbn : PE X b (tV c X W cf n)) :
    PS X (.Assign [.Tuple [.Name x px, .Name y py] kt pt] (.Tuple [a, b] k2 pt2) pos) (tSm c X W cf (.par i j m n)) := by
  unfold parB at hb
  rw [Bool.and_eq_true, Bool.and_eq_true, Bool.and_eq_true, Bool.and_eq_true, Bool.and_eq_true, Bool.and_eq_true, Bool.and_eq_true, Bool.and_eq_true, Bool.not_eq_true', Bool.not_eq_true', Bool.not_eq_true', decide_eq_true_iff, decide_eq_true_iff, decide_eq_true_iff] at hb
  obtain ⟨⟨⟨⟨⟨⟨⟨⟨b1, b2⟩, b3⟩, b4⟩, b5⟩, b6⟩, b7⟩, b8⟩, b9⟩ := hb
  rw [← G.sc] at b1 b2 b3
  rw [← G.N] at h1 h2
  have hij : i ≠ j := fun z => by
    subst z
    rw [h1] at h2
    cases h2
    simp at b5
  refine (ps_par G.calm (by rw [G.N]; exact G.nd) h1 h2 hij b2 b3 (pa_cons ha (pa_cons hbn pa_nil (pln_star b7 _)) (pln_star b6 _)) (par_hw b1 b2 b3 b4 b5 b6 b7 b8 b9)).weak fun D σ H h => ?_
  obtain ⟨g, fr, S, rel, h'⟩ := wk_par hij h
  refine ⟨g, fr, S, rel, h'.imp fun v H1 h2 => ?_⟩
  obtain ⟨g, fr, S, rel, h'⟩ := h2
  exact ⟨g, fr, S, rel, h'.imp fun w H2 h3 => ⟨v, w, rfl, h3 H2 Grows.refl⟩⟩
theorem par_hn {env : Env} {x y : Str} {px py pt : Pos} {kt k2 : Nat} {pt2 : Pos} {a b : Expr} (h : env.scope.names.lookup x ≠ some .local ∨ env.scope.names.lookup y ≠ some .local) :
    swappedStores [.Tuple [.Name x px, .Name y py] kt pt] (.Tuple [a, b] k2 pt2) env = pure none := by
  unfold swappedStores
  dsimp only
  split
  · rfl
  · split
    · rfl
    · refine if_pos ?_
      rw [Bool.or_eq_true]
      refine .inl ?_
      rcases h with h | h
      · have e : (env.kindOf x == some NameKind.local) = false := by rw [beq_eq_false_iff_ne]; exact h
        simp only [List.filterMap_cons, List.filterMap_nil, e, Bool.false_and, Bool.false_eq_true, if_false]
        generalize (env.kindOf y == some NameKind.local && _) = q
        cases q <;> rfl
      · have e : (env.kindOf y == some NameKind.local) = false := by rw [beq_eq_false_iff_ne]; exact h
        simp only [List.filterMap_cons, List.filterMap_nil, e, Bool.false_and, Bool.false_eq_true, if_false]
        generalize (env.kindOf x == some NameKind.local && _) = q
        cases q <;> rfl
theorem ss_par2 (G : Good c X W cf) {i j : Nat} {n : Xp} {x y : Str} {px py pt pt2 : Pos} {kt k2 : Nat} {a b : Expr} (h1 : c.N[i]? = some x) (h2 : c.N[j]? = some y) (hij : i ≠ j) (hb : par2B c x y a b = true) (ha : PE X a (tV c X W cf m)) (hbn : PE X b (tV c X W cf n)) :
    PS X (.Assign [.Tuple [.Name x px, .Name y py] kt pt] (.Tuple [a, b] k2 pt2) pos) (tSm c X W cf (.par i j m n)) := by
  unfold par2B at hb
  rw [Bool.and_eq_true, Bool.and_eq_true, Bool.and_eq_true, Bool.and_eq_true, Bool.or_eq_true, decide_eq_true_iff, decide_eq_true_iff] at hb
  obtain ⟨⟨⟨⟨b1, b2⟩, b3⟩, b4⟩, b5⟩ := hb
  rw [← G.sc] at b5
  obtain ⟨x1, x2, x3⟩ := good_loc G h1 b3
  obtain ⟨y1, y2, y3⟩ := good_loc G h2 b4
  have nd : X.N.Nodup := by rw [G.N]; exact G.nd
  refine (ps_asg (pe_tup (pa_cons ha (pa_cons hbn pa_nil (pln_star b2 _)) (pln_star b1 _))) (pg_tup G.calm (pgs_cons (pg_name (i := i) nd x1 x2 x3) (pgs_cons (pg_name (i := j) nd y1 y2 y3) pgs_nil rfl) rfl) rfl rfl) (by rfl) (par_hn b5) rfl).weak fun D σ H h => ?_
  obtain ⟨g, fr, S, rel, h'⟩ := wk_par hij h
  refine ⟨g, fr, S, rel, h'.imp fun v H1 h2 => ?_⟩
  obtain ⟨g, fr, S, rel, h'⟩ := h2
  exact ⟨g, fr, S, rel, h'.imp fun w H2 h3 => ⟨by show 2 ≤ sizeLine; decide, fun p hp => ⟨p, [v, w], rfl, SqT.of upd_same, rfl, v, [w], rfl, w, [], rfl, rfl, h3 _ (Grows.fresh hp)⟩⟩⟩
theorem ss_set (G : Good c X W cf) {i : Nat} {x : Str} {p : Pos} (h1 : c.N[i]? = some x) (h2 : isLoc c.top (c.sc.names.lookup x) = true) (hs : swapsWith e (some (.Name x p)) pos.line X.env = pure false) (h : PE X e (tV c X W cf m)) :
    PS X (.Assign [.Name x p] e pos) (tSm c X W cf (.set i m)) := by
  obtain ⟨l1, l2, l3⟩ := good_loc G h1 h2
  exact (ps_set (i := i) (by rw [G.N]; exact G.nd) l1 l2 h hs l3).weak fun D σ H h => wk_set h
theorem sw_cell {el : Expr} {gs : List Comprehension} {sc : Scope} {q p : Pos} {x : Str} {l : Nat} {env : Env} (h : env.scope.names.lookup x = some .cell) : swapsWith (.ListComp el gs sc q) (some (.Name x p)) l env = pure false := by
  have hk : (env.kindOf x == some NameKind.local) = false := by
    show (env.scope.names.lookup x == some NameKind.local) = false
    rw [h]; rfl
  show (pure (env.blockKind == .function && env.kindOf x == some .local && _ && _) : Sem Bool) = pure false
  rw [hk, Bool.and_false, Bool.false_and, Bool.false_and]
/-- a comprehension given to a local name -/
theorem ss_setLc (G : Good c X W cf) {i : Nat} {x : Str} {p q : Pos} {elt : Xp} {tg : Tg} {it : Wk} {cs : Xs} {el t ie : Expr} {fs : List Expr} {sc : Scope} (h1 : c.N[i]? = some x) (h2 : c.sc.names.lookup x = some .local)
    (hk : c.sc.kind = .function) (hl : (p.line == q.line) = true) (ha : (sc.names.any fun (n, k) => n == x && (k == .local || k == .cell)) = false)
    (h : (chk2 (.comp elt tg it cs) c).v (.ListComp el [⟨t, ie, fs, 0⟩] sc q) = true) : PS X (.Assign [.Name x p] (.ListComp el [⟨t, ie, fs, 0⟩] sc q) pos) (tSm c X W cf (.set i (.comp elt tg it cs))) := by
  have h' : (blkC c.N c.sc sc (tg.own c.N) && pln ie && chkW it c t ie && chkG { c with sc := relS sc c.sc, top := false } tg t && chkC cs { c with sc := relS sc c.sc, top := false } fs &&
    (chk2 elt { c with sc := relS sc c.sc, top := false }).v el) = true := h
  obtain ⟨h, b6⟩ := and2 h'
  obtain ⟨h, b5⟩ := and2 h
  obtain ⟨h, b4⟩ := and2 h
  obtain ⟨h, b3⟩ := and2 h
  obtain ⟨b1, b2⟩ := and2 h
  have hok' : BlkOk X.N X.env.scope sc (tg.own c.N) := by rw [G.N, G.sc]; exact blkOk_by b1
  have hlx : X.env.scope.names.lookup x = some .local := by rw [G.sc]; exact h2
  refine (ps_setLc (i := i) (wi := tWk c X W cf it) (g := gT X tg) (tt := tX X.K X.mg (fun _ _ _ _ => False) rId (evC cf c.gl cs)) (te := tX X.K X.mg (fun _ _ _ _ => False) (rD X.K) (fun fr S => frzX (ev cf c.gl elt fr S))) G.calm (by rw [G.N]; exact G.nd) (by rw [G.N]; exact h1) hlx (sw_true (by rw [G.sc]; exact hk) hlx hl ha) (sws it c X W cf G _ _ b3) hok' (fun s H C cl fp => sg (G.blk sc s H C cl fp) tg t b4)
    (fun s H C cl fp => (sas cs _ _ _ cf (G.blk sc s H C cl fp)).2 _ b5) (fun s H C cl fp => frzPE ((sv elt _ _ _ cf (G.blk sc s H C cl fp)).1 _ b6)) (pln_fold b2 _)).weak fun D σ H h => ?_
  exact wk_comp σ H _ (wk_set h)
theorem ss_asg (G : Good c X W cf) {t : Tg} {tge : Expr} (ht : isTupleE tge = true) (hg : chkG c t tge = true) (hn : noComp e = true) (hq : noTup e = true) (h : PE X e (tV c X W cf m)) : PS X (.Assign [tge] e pos) (tSm c X W cf (.asg t m)) := by
  cases tge with
  | Tuple es k p =>
    have hw : swappedStores [.Tuple es k p] e X.env = pure none := by
      cases e <;> first | rfl | cases hq
    refine (ps_asg (frzPE h) (sg G t _ hg) (noComp_sole hn _ _ _) hw rfl).weak fun D σ H ⟨g, fr, S, rel, h⟩ => ⟨g, fr, S, rel, ?_⟩
    refine (AftS.bind rD_tmp h).imp fun x H1 ⟨d, fr1, S1, g1, k1, rel1, r1, t1, h1⟩ => ?_
    cases q : asg t d fr1 with
    | none => rw [q] at h1; exact h1.elim
    | some fr2 =>
      rw [q] at h1
      exact ⟨g1, fr1, S1, d, fr2, rel1, r1.2, q, fun σ' rel' _ _ => h1 g1 H1 σ' Keep.refl rfl rel'⟩
  | _ => cases ht

/-! ### handed back -/
theorem _root_.Eng.Rel.moveOut {K : PySem.W.Frag} {mg : Str → Option Value} {g : Gh} {fr : Frame} {S : Store} {σ : L2.St} {H : Hp} {i : Nat} {cl : Cell} {a : Addr} (r : Rel K mg g fr S σ H) (e : fr[i]? = some (some (.own cl))) (hs : σ[i]? = some (some (.ref a))) :
    ∃ g', Keep g H g' H ∧ Rel K mg g' (fr.set i none) S σ H ∧ g'.tmp = a :: g.tmp ∧ a ∉ g.tmp ∧ CellR K mg g' H a cl := by
  obtain ⟨y, e1, b, e2, hb, hcell⟩ := r.slot i _ e
  rw [hs] at e1; cases e1; cases e2
  let g' : Gh := ⟨g.rho, g.own.filter fun z => decide (z ≠ a), a :: g.tmp⟩
  have mem' : ∀ z, z ∈ g'.own ↔ z ∈ g.own ∧ z ≠ a := fun z => by
    show z ∈ g.own.filter _ ↔ _
    rw [List.mem_filter, decide_eq_true_iff]
  have av' : ∀ z, g'.av z → g.av z := fun z w => by
    rcases w with w | w | w
    · exact .inl w
    · exact .inr (.inl ((mem' z).mp w).1)
    · rcases List.mem_cons.mp w with w | w
      · exact .inr (.inl (w ▸ hb))
      · exact .inr (.inr w)
  have mm : Mono K g H g' H := Mono.less av' fun _ _ z => z
  refine ⟨g', ⟨fun b o h n w => ⟨h, n, fun z => w ((mem' b).mp z).1⟩, fun b o h n w z => ?_, fun _ _ z => z, fun _ _ z => z⟩, ?_, rfl, r.st.ot a hb, hcell.mono mm rfl⟩
  · rcases List.mem_cons.mp z with z | z
    · exact absurd (z ▸ hb) w
    · exact z
  · have q := r.setNone (i := i)
    refine ⟨q.len, fun j v ej => ?_, q.apart, ⟨r.st.len, r.st.nd, fun n c' a' e' q' => (r.st.cell n c' a' e' q').mono mm rfl, fun z w => ⟨fun t => (r.st.rt z w).1 ((mem' z).mp t).1, fun t => ?_⟩, fun z w t => ?_, fun z w => r.st.tr z (av' z w)⟩⟩
    · have hj : i ≠ j := fun hj => by
        subst hj
        have hl : i < (fr.set i (none : Option Val)).length := (List.getElem?_eq_some_iff.mp ej).1
        rw [List.length_set] at hl
        rw [List.getElem?_set_self hl] at ej; cases ej
      rw [List.getElem?_set_ne hj] at ej
      obtain ⟨y, e1, s⟩ := r.slot j v ej
      refine ⟨y, e1, ?_⟩
      cases v with
      | fz d' => exact RD.mono mm s
      | own c' =>
        obtain ⟨b', e2, hb', hc'⟩ := s
        refine ⟨b', e2, (mem' b').mpr ⟨hb', fun z => ?_⟩, hc'.mono mm rfl⟩
        subst z; subst e2
        exact r.apart i j cl c' b' hj e ej hs e1
    · rcases List.mem_cons.mp t with t | t
      · exact (r.st.rt z w).1 (t ▸ hb)
      · exact (r.st.rt z w).2 t
    · rcases List.mem_cons.mp t with t | t
      · exact ((mem' z).mp w).2 t
      · exact r.st.ot z ((mem' z).mp w).1 t
theorem se_ret (G : Good c X W cf) (h : (chk2 m c).v e = true) : PE X e (tX X.K X.mg W (rV X.K X.mg) (retX m (ev cf c.gl m))) := by
  have plain : ∀ f : Frame → Store → RX Val, retX m f = f → PE X e (tX X.K X.mg W (rV X.K X.mg) f) → PE X e (tX X.K X.mg W (rV X.K X.mg) (retX m f)) := fun f h1 h2 => by rw [h1]; exact h2
  cases m with
  | var i =>
    cases e with
    | Name x p =>
      obtain ⟨h1, h2, h3, h4⟩ := G.vis h
      refine (pe_var h1 h2 h3 h4).weak fun σ H Q ⟨g, fr, S, rel, a⟩ => ?_
      have a' : Aft X.K X.mg W (rV X.K X.mg) g H σ (match fr[i]? with
        | some (some (.fz d)) => .ok (.fz d) fr S
        | some (some (.own c)) => .ok (.own c) (fr.set i none) S
        | _ => .no) Q := a
      cases e : fr[i]? with
      | none => rw [e] at a'; exact a'.elim
      | some o =>
        cases o with
        | none => rw [e] at a'; exact a'.elim
        | some v =>
          rw [e] at a'
          cases v with
          | fz d =>
            obtain ⟨x, e1, s⟩ := rel.slot i _ e
            exact ⟨x, e1, fin_old a' rel s⟩
          | own cl =>
            obtain ⟨x, e1, b, rfl, hb, hc⟩ := rel.slot i _ e
            obtain ⟨g', k', rel', t', n', c'⟩ := rel.moveOut e e1
            exact ⟨_, e1, a' g' H _ k' rel' ⟨b, rfl, t', n', c'⟩⟩
    | _ => exact (nomatch h)
  | _ => exact plain _ rfl ((sv _ c X W cf G).1 _ h)
theorem ss_ret (G : Good c X W cf) (h : (chk2 m c).v e = true) : PS X (.Return (some e) pos) (tSm c X W cf (.ret m)) := by
  refine (ps_ret (se_ret G h)).weak fun D σ H ⟨g, fr, S, rel, h⟩ => ⟨g, fr, S, rel, ?_⟩
  have h' : AftS X.K X.mg W g H ((retX m (ev cf c.gl m) fr S).thn fun v fr S => .rt v fr S) D := h
  cases e : retX m (ev cf c.gl m) fr S with
  | no => rw [e] at h'; exact h'
  | ex x f s => rw [e] at h'; exact fun g' H' c d k' e t q => h' g' H' σ c d k' e t q
  | ok v f s =>
    rw [e] at h'
    exact fun g1 H1 x k1 rel1 rv => h' g1 H1 σ x k1 rel1 rv
theorem ss_retN : PS X (.Return none pos) (tSm c X W cf .retN) := ps_retN.weak fun D σ H ⟨g, fr, S, rel, h⟩ => h g H σ .non Keep.refl rel ⟨rfl, .non⟩
theorem ss_pass : PS X (.Pass pos) (tSm c X W cf .pass) := ps_pass.weak fun D σ H ⟨g, fr, S, rel, h⟩ => h g H σ Keep.refl rfl rel
theorem ss_cond {a b : Sms} {x y : List Stmt} (ht : PT X e (tTs c X W cf m)) (ha : PSs X x (tSs c X W cf a)) (hb : PSs X y (tSs c X W cf b)) : PS X (.If e x y pos) (tSm c X W cf (.cond m a b)) := by
  refine (ps_if ht ha hb).weak fun D σ H ⟨g, fr, S, rel, h⟩ => ⟨g, fr, S, rel, ?_⟩
  refine (AftS.bind rId_tmp h).imp fun x H1 ⟨t, fr1, S1, g1, k1, rel1, r1, t1, h1⟩ => ?_
  obtain ⟨_, rfl⟩ := r1
  cases t with
  | true => exact iteT ⟨g1, fr1, S1, rel1, h1⟩
  | false => exact iteF ⟨g1, fr1, S1, rel1, h1⟩
theorem ss_raise (G : Good c X W cf) {x : Str} {p p2 q : Pos} {s : Str} {j : Nat} (hx : c.xs.contains x = true) (hg : glB c x = true) : PS X (.Raise (some (.Call (.Name x p) [.Constant (.str s) j p2] [] q)) none pos) (tSm c X W cf (.raise x)) := by
  obtain ⟨C, h1, h2, h3, h4, h5⟩ := G.exc x hx
  obtain ⟨g1, g2⟩ := G.glob hg
  refine (ps_raise G.calm G.tk (pmk_own PySem.F.excBase_ValueError h2 h1 h3 (raises_own h4 h5) g1 g2)).weak fun D σ H ⟨g, fr, S, rel, h⟩ => ?_
  exact h g H σ (.ref C) none Keep.refl rel rfl ⟨h1, [], .nil, rfl, rfl⟩

/-! ### own objects changed -/
theorem own_of {i : Nat} {fr : Frame} (e : ownL i fr = true) : ∃ xs, fr[i]? = some (some (.own (.lst xs))) := by
  unfold ownL at e
  split at e
  · rename_i xs q; exact ⟨xs, q⟩
  · cases e
theorem ss_appv (G : Good c X W cf) {i : Nat} {y : Str} {p ap cp : Pos} (hv : visB c i y = true) (hb : PE X e (tV c X W cf m)) (hp : pln e = true) (hline : (ap.endLine == cp.line) = true) :
    PS X (.Expr (.Call (.Attribute (.Name y p) "append" ap) [e] [] cp) pos) (tSm c X W cf (.appv i m)) := by
  obtain ⟨h1, h2, h3, h4⟩ := G.vis hv
  have hfew : ((backTo cp (starEach [e] X.env)).all (fun x => !x.1) && (backToKw cp (keywordEach [] X.env)).all (fun x => x.1.isSome)
      && decide (([e] : List Expr).length + ([] : List Keyword).length + (if ([] : List Keyword).isEmpty then 0 else 1) < 30)) = true := by
    rw [pln_star hp]; rfl
  refine (ps_expr (pe_bm PySem.F.plainAttrs_list PySem.F.slot_list_append PySem.F.type_list_append mt_append (pe_var h1 h2 h3 h4) (pa_cons (frzPE hb) pa_nil (pln_star hp _)) rfl hfew hline (pln_star hp _) rfl) rfl).weak fun D σ H ⟨g, fr, S, rel, h⟩ => ?_
  have h' : AftS X.K X.mg W g H (if ownL i fr then (frzX (ev cf c.gl m fr S)).thn fun d fr S => appX i d fr S else .no) D := h
  by_cases ho : ownL i fr = true
  · rw [if_pos ho] at h'
    obtain ⟨xs, q⟩ := own_of ho
    obtain ⟨x, e1, a1, rfl, ha1, vs, hv1, rv1⟩ := rel.slot i _ q
    refine ⟨_, e1, .inl ⟨rfl, vs, SqL.of hv1⟩, g, fr, S, rel, ?_⟩
    refine (AftS.bind rD_tmp h').imp fun x H1 ⟨d1, fr1, S1, g1, k1, rel1, r1, t1, h1⟩ => ?_
    have h1' : AftS X.K X.mg W g1 H1 (appX i d1 fr1 S1) D := h1
    unfold appX at h1'
    split at h1'
    · rename_i ys q1
      obtain ⟨x2, e2, a2, rfl, ha2, ws, hv2, rv2⟩ := rel1.slot i _ q1
      rw [e1] at e2; cases e2
      by_cases hz : ys.length < sizeLine
      · rw [if_pos hz] at h1'
        obtain ⟨kp, rl⟩ := rel1.mut (c' := .lst (ys ++ [d1])) (o := .lst (ws ++ [x])) q1 e1 (fun g2 H2 mm hh => ⟨_, hh, (rv2.mono mm).append (.one (r1.2.mono mm))⟩)
        exact ⟨a1, ws, x, rfl, rfl, hv2, by rw [← rv2.length]; exact hz, h1' g1 _ σ kp rfl rl⟩
      · rw [if_neg hz] at h1'; exact h1'.elim
    · exact h1'.elim
  · rw [if_neg ho] at h'; exact h'.elim
theorem ss_extv (G : Good c X W cf) {i : Nat} {y : Str} {p ap cp : Pos} (hv : visB c i y = true) (hb : PE X e (tV c X W cf m)) (hp : pln e = true) (hline : (ap.endLine == cp.line) = true) :
    PS X (.Expr (.Call (.Attribute (.Name y p) "extend" ap) [e] [] cp) pos) (tSm c X W cf (.extv i m)) := by
  obtain ⟨h1, h2, h3, h4⟩ := G.vis hv
  have hfew : ((backTo cp (starEach [e] X.env)).all (fun x => !x.1) && (backToKw cp (keywordEach [] X.env)).all (fun x => x.1.isSome)
      && decide (([e] : List Expr).length + ([] : List Keyword).length + (if ([] : List Keyword).isEmpty then 0 else 1) < 30)) = true := by
    rw [pln_star hp]; rfl
  refine (ps_expr (pe_bm PySem.F.plainAttrs_list PySem.F.slot_list_extend PySem.F.type_list_extend mt_extend (pe_var h1 h2 h3 h4) (pa_cons (frzPE hb) pa_nil (pln_star hp _)) rfl hfew hline (pln_star hp _) rfl) rfl).weak fun D σ H ⟨g, fr, S, rel, h⟩ => ?_
  have h' : AftS X.K X.mg W g H (if ownL i fr then (frzX (ev cf c.gl m fr S)).thn fun d fr S => extX i d fr S else .no) D := h
  by_cases ho : ownL i fr = true
  · rw [if_pos ho] at h'
    obtain ⟨xs, q⟩ := own_of ho
    obtain ⟨x, e1, a1, rfl, ha1, vs, hv1, rv1⟩ := rel.slot i _ q
    refine ⟨_, e1, .inl ⟨rfl, vs, SqL.of hv1⟩, g, fr, S, rel, ?_⟩
    refine (AftS.bind rD_tmp h').imp fun x H1 ⟨d1, fr1, S1, g1, k1, rel1, r1, t1, h1⟩ => ?_
    have h1' : AftS X.K X.mg W g1 H1 (extX i d1 fr1 S1) D := h1
    unfold extX at h1'
    split at h1'
    · rename_i ys zs q1
      obtain ⟨b, us, rfl, hb1, _, rb1⟩ := r1.2.tracked_lst
      obtain ⟨x2, e2, a2, rfl, ha2, ws, hv2, rv2⟩ := rel1.slot i _ q1
      rw [e1] at e2; cases e2
      by_cases hz : ys.length + zs.length ≤ sizeLine
      · rw [if_pos hz] at h1'
        obtain ⟨kp, rl⟩ := rel1.mut (c' := .lst (ys ++ zs)) (o := .lst (ws ++ us)) q1 e1 (fun g2 H2 mm hh => ⟨_, hh, (rv2.mono mm).append (rb1.mono mm)⟩)
        exact ⟨a1, b, ws, us, rfl, rfl, hv2, hb1, by rw [← rv2.length, ← rb1.length]; exact hz, h1' g1 _ σ kp rfl rl⟩
      · rw [if_neg hz] at h1'; exact h1'.elim
    · exact h1'.elim
  · rw [if_neg ho] at h'; exact h'.elim
theorem pln_asg {o i : Expr} (h : pln i = true) (env : Env) (v : Value) : assign (.Subscript o i pos) env v = (do
      let ov ← holding [v] (eval o env)
      let iv ← holding [v, ov] (eval i env)
      standAt pos
      holding [v, ov, iv] (setItem ov iv v)
      release [v, ov, iv] []) := by
  cases i <;> first | rfl | cases h
theorem ss_setv (G : Good c X W cf) {i : Nat} {ix : Xp} {x : Str} {p p2 : Pos} {y : Expr} (hn : noComp e = true) (hv : visB c i x = true) (hp : pln y = true) (hy : PE X y (tV c X W cf ix)) (he : PE X e (tV c X W cf m)) :
    PS X (.Assign [.Subscript (.Name x p) y p2] e pos) (tSm c X W cf (.setv i ix m)) := by
  obtain ⟨h1, h2, h3, h4⟩ := G.vis hv
  have hw : swappedStores [.Subscript (.Name x p) y p2] e X.env = pure none := by cases e <;> rfl
  refine (ps_asg (frzPE he) (pg_sub (pe_var h1 h2 h3 h4) (frzPE hy) set_list (pln_asg hp X.env)) (noComp_sole hn _ _ _) hw rfl).weak fun D σ H ⟨g, fr, S, rel, h⟩ => ⟨g, fr, S, rel, ?_⟩
  refine (AftS.bind rD_tmp h).imp fun v H1 ⟨d1, fr1, S1, g1, k1, rel1, r1, t1, h1⟩ => ?_
  have h1' : AftS X.K X.mg W g1 H1 (if ownL i fr1 then (frzX (ev cf c.gl ix fr1 S1)).thn fun y fr S => setX i y d1 fr S else .no) D := h1
  by_cases ho : ownL i fr1 = true
  · rw [if_pos ho] at h1'
    obtain ⟨xs, q⟩ := own_of ho
    obtain ⟨x, e1, a1, rfl, ha1, vs, hv1, rv1⟩ := rel1.slot i _ q
    refine ⟨_, e1, g1, fr1, S1, rel1, ?_⟩
    refine (AftS.bind rD_tmp h1').imp fun w H2 ⟨d2, fr2, S2, g2, k2, rel2, r2, t2, h2⟩ => ?_
    have h2' : AftS X.K X.mg W g2 H2 (setX i d2 d1 fr2 S2) D := h2
    unfold setX at h2'
    split at h2'
    · rename_i ys k q1
      obtain rfl := RD.of_int r2.2
      obtain ⟨x2, e2, a2, rfl, ha2, ws, hv2, rv2⟩ := rel2.slot i _ q1
      rw [e1] at e2; cases e2
      cases q2 : ixN ys.length k with
      | none => rw [q2] at h2'; exact h2'.elim
      | some j =>
        rw [q2] at h2'
        obtain ⟨kp, rl⟩ := rel2.mut (c' := .lst (ys.set j d1)) (o := .lst (ws.set j v)) q1 e1 (fun g3 H3 mm hh => ⟨_, hh, RDs.set ((r1.2.mono k2.mono).mono mm) j (rv2.mono mm)⟩)
        exact ⟨a1, ws, k, j, rfl, rfl, hv2, by rw [← rv2.length]; exact q2, h2' g2 _ σ kp rfl rl⟩
    · exact h2'.elim
  · rw [if_neg ho] at h1'; exact h1'.elim
theorem ownT_of {i : Nat} {fr : Frame} (e : ownT i fr = true) : (∃ ks xs, fr[i]? = some (some (.own (.dK ks xs)))) ∨ ∃ ks xs, fr[i]? = some (some (.own (.dT ks xs))) := by
  unfold ownT at e
  split at e
  · rename_i ks xs q; exact .inl ⟨ks, xs, q⟩
  · rename_i ks xs q; exact .inr ⟨ks, xs, q⟩
  · cases e
section
variable {K : PySem.W.Frag} {κ : Type} [DecidableEq κ]
theorem put_in {k : κ} {z : V} : ∀ {ks : List κ} {vs : List V}, ks.length = vs.length → (ks.zip vs).map (fun kv => if kv.1 = k then (kv.1, z) else kv) = ks.zip (List.zipWith (fun j v => if j = k then z else v) ks vs)
  | [], [], _ => rfl
  | j :: ks, v :: vs, h => by
    simp only [List.zip_cons_cons, List.map_cons, List.zipWith_cons_cons]
    rw [put_in (by simpa using h)]
    by_cases e : j = k
    · simp [e]
    · simp [e]
theorem put_rel {g : Gh} {H : Hp} {d : D} {v : V} (r : RD K g H d v) (k : κ) : ∀ {ks : List κ} {xs : List D} {vs : List V}, RDs K g H xs vs → RDs K g H (List.zipWith (fun j u => if j = k then d else u) ks xs) (List.zipWith (fun j u => if j = k then v else u) ks vs)
  | [], _, _, _ => by simp only [List.zipWith_nil_left]; exact .nil
  | _ :: _, _, _, .nil => by simp only [List.zipWith_nil_right]; exact .nil
  | j :: ks, _, _, .cons h t => by
    simp only [List.zipWith_cons_cons]
    refine .cons ?_ (put_rel r k t)
    split
    · exact r
    · exact h
theorem zip_any {k : κ} : ∀ {ks : List κ} {vs : List V}, ks.length = vs.length → ((ks.zip vs).any fun kv => decide (kv.1 = k)) = decide (k ∈ ks)
  | [], [], _ => by simp
  | j :: ks, v :: vs, h => by
    rw [List.zip_cons_cons, List.any_cons, zip_any (by simpa using h)]
    by_cases e : j = k
    · subst e; simp
    · have e' : k ≠ j := fun z => e z.symm
      simp [e, e']
theorem putK_rel {g : Gh} {H : Hp} {d : D} {v : V} {ks : List κ} {xs : List D} {vs : List V} (r : RD K g H d v) (k : κ) (hl : ks.length = vs.length) (rs : RDs K g H xs vs) :
    ∃ ws, putK (ks.zip vs) k v = (putKs ks k).zip ws ∧ (putKs ks k).length = ws.length ∧ RDs K g H (putVs ks xs k d) ws := by
  unfold putK putKs putVs
  rw [zip_any hl]
  by_cases e : k ∈ ks
  · rw [if_pos (decide_eq_true e), if_pos e, if_pos e]
    exact ⟨_, put_in hl, by rw [List.length_zipWith, hl, Nat.min_self], put_rel r k rs⟩
  · rw [if_neg (fun z => e (of_decide_eq_true z)), if_neg e, if_neg e]
    refine ⟨vs ++ [v], ?_, by rw [List.length_append, List.length_append, hl]; rfl, rs.append (.one r)⟩
    rw [List.zip_append hl]; rfl
theorem ownT_set {i : Nat} {fr : Frame} (e : ownT i fr = true) : ∃ cl, fr[i]? = some (some (.own cl)) := by
  rcases ownT_of e with ⟨ks, xs, q⟩ | ⟨ks, xs, q⟩
  · exact ⟨_, q⟩
  · exact ⟨_, q⟩
end
theorem ss_setd (G : Good c X W cf) {i : Nat} {ix : Xp} {x : Str} {p p2 : Pos} {y : Expr} (hn : noComp e = true) (hv : visB c i x = true) (hp : pln y = true) (hy : PE X y (tV c X W cf ix)) (he : PE X e (tV c X W cf m)) :
    PS X (.Assign [.Subscript (.Name x p) y p2] e pos) (tSm c X W cf (.setd i ix m)) := by
  obtain ⟨h1, h2, h3, h4⟩ := G.vis hv
  have hw : swappedStores [.Subscript (.Name x p) y p2] e X.env = pure none := by cases e <;> rfl
  have hu : X.A.units + 1 < cLine := by have := G.un; omega
  refine (ps_asg (frzPE he) (pg_sub (pe_var h1 h2 h3 h4) (frzPE hy) (set_dict hu) (pln_asg hp X.env)) (noComp_sole hn _ _ _) hw rfl).weak fun D σ H ⟨g, fr, S, rel, h⟩ => ⟨g, fr, S, rel, ?_⟩
  refine (AftS.bind rD_tmp h).imp fun v H1 ⟨d1, fr1, S1, g1, k1, rel1, r1, t1, h1⟩ => ?_
  have h1' : AftS X.K X.mg W g1 H1 (if ownT i fr1 then (frzX (ev cf c.gl ix fr1 S1)).thn fun y fr S => setdX i y d1 fr S else .no) D := h1
  by_cases ho : ownT i fr1 = true
  · rw [if_pos ho] at h1'
    obtain ⟨cl, q⟩ := ownT_set ho
    obtain ⟨x, e1, a1, rfl, ha1, hc1⟩ := rel1.slot i _ q
    refine ⟨_, e1, g1, fr1, S1, rel1, ?_⟩
    refine (AftS.bind rD_tmp h1').imp fun w H2 ⟨d2, fr2, S2, g2, k2, rel2, r2, t2, h2⟩ => ?_
    have h2' : AftS X.K X.mg W g2 H2 (setdX i d2 d1 fr2 S2) D := h2
    have r1' := r1.2.mono k2.mono
    unfold setdX at h2'
    split at h2'
    · rename_i ks xs q1
      obtain ⟨x2, e2, a2, rfl, ha2, ws, hv2, hl2, rv2⟩ := rel2.slot i _ q1
      rw [e1] at e2; cases e2
      cases q2 : toKey d2 with
      | none => rw [q2] at h2'; exact h2'.elim
      | some k =>
        rw [q2] at h2'
        by_cases hs : ks.length < sizeLine
        · have h3' : AftS X.K X.mg W g2 H2 (if ks.length < sizeLine then .nx (fr2.set i (some (.own (.dK (putKs ks k) (putVs ks xs k d1))))) S2 else .no) D := h2'
          rw [if_pos hs] at h3'
          obtain ⟨us, z1, z2, z3⟩ := putK_rel r1' k hl2 rv2
          obtain ⟨kp, rl⟩ := rel2.mut (c' := .dK (putKs ks k) (putVs ks xs k d1)) (o := .dK (putK (ks.zip ws) k v)) q1 e1 (fun g3 H3 mm hh => ⟨us, by rw [hh, z1], z2, z3.mono mm⟩)
          refine ⟨a1, _, rfl, .inl ⟨_, k, hv2, toKey_rel r2.2 q2, ?_, rfl⟩, h3' g2 _ σ kp rfl rl⟩
          rw [List.length_zip, ← hl2, Nat.min_self]; exact hs
        · have h3' : AftS X.K X.mg W g2 H2 (if ks.length < sizeLine then .nx (fr2.set i (some (.own (.dK (putKs ks k) (putVs ks xs k d1))))) S2 else .no) D := h2'
          rw [if_neg hs] at h3'; exact h3'.elim
    · rename_i ks xs q1
      obtain ⟨x2, e2, a2, rfl, ha2, ws, hv2, hl2, rv2⟩ := rel2.slot i _ q1
      rw [e1] at e2; cases e2
      cases q2 : keyT d2 with
      | none => rw [q2] at h2'; exact h2'.elim
      | some k =>
        rw [q2] at h2'
        by_cases hs : ks.length < sizeLine
        · have h3' : AftS X.K X.mg W g2 H2 (if ks.length < sizeLine then .nx (fr2.set i (some (.own (.dT (putKs ks k) (putVs ks xs k d1))))) S2 else .no) D := h2'
          rw [if_pos hs] at h3'
          obtain ⟨us, z1, z2, z3⟩ := putK_rel r1' k hl2 rv2
          obtain ⟨kp, rl⟩ := rel2.mut (c' := .dT (putKs ks k) (putVs ks xs k d1)) (o := .dT (putK (ks.zip ws) k v)) q1 e1 (fun g3 H3 mm hh => ⟨us, by rw [hh, z1], z2, z3.mono mm⟩)
          obtain ⟨b, rfl, hb⟩ := keyT_rel r2.2 q2
          refine ⟨a1, _, rfl, .inr ⟨_, k, b, hv2, rfl, hb, ?_, rfl⟩, h3' g2 _ σ kp rfl rl⟩
          rw [List.length_zip, ← hl2, Nat.min_self]; exact hs
        · have h3' : AftS X.K X.mg W g2 H2 (if ks.length < sizeLine then .nx (fr2.set i (some (.own (.dT (putKs ks k) (putVs ks xs k d1))))) S2 else .no) D := h2'
          rw [if_neg hs] at h3'; exact h3'.elim
    · exact h2'.elim
  · rw [if_neg ho] at h1'; exact h1'.elim
theorem ss_setr (G : Good c X W cf) {a ix : Xp} {p2 : Pos} {x y : Expr} (hn : noComp e = true) (hp : pln y = true) (hx : PE X x (tV c X W cf a)) (hy : PE X y (tV c X W cf ix)) (he : PE X e (tV c X W cf m)) :
    PS X (.Assign [.Subscript x y p2] e pos) (tSm c X W cf (.setr a ix m)) := by
  have hw : swappedStores [.Subscript x y p2] e X.env = pure none := by cases e <;> rfl
  refine (ps_asg (frzPE he) (pg_sub (frzPE hx) (frzPE hy) set_list (pln_asg hp X.env)) (noComp_sole hn _ _ _) hw rfl).weak fun D σ H ⟨g, fr, S, rel, h⟩ => ⟨g, fr, S, rel, ?_⟩
  refine (AftS.bind rD_tmp h).imp fun v H1 ⟨d1, fr1, S1, g1, k1, rel1, r1, t1, h1⟩ => ⟨g1, fr1, S1, rel1, ?_⟩
  refine (AftS.bind rD_tmp h1).imp fun u H2 ⟨d2, fr2, S2, g2, k2, rel2, r2, t2, h2⟩ => ⟨g2, fr2, S2, rel2, ?_⟩
  refine (AftS.bind rD_tmp h2).imp fun w H3 ⟨d3, fr3, S3, g3, k3, rel3, r3, t3, h3⟩ => ?_
  have h3' : AftS X.K X.mg W g3 H3 (setrX d2 d3 d1 fr3 S3) D := h3
  cases d2 with
  | ref n =>
    cases d3 with
    | int k =>
      have h4 : AftS X.K X.mg W g3 H3 (match S3[n]? with
        | some (.lst xs) => match ixN xs.length k with
          | some j => .nx fr3 (S3.set n (.lst (xs.set j d1)))
          | none => .no
        | _ => .no) D := h3'
      obtain rfl := RD.of_int r3.2
      obtain ⟨b, rfl, hb⟩ := (r2.2.mono k3.mono).of_ref
      cases q : S3[n]? with
      | none => rw [q] at h4; exact h4.elim
      | some cl =>
        rw [q] at h4
        cases cl with
        | lst xs =>
          dsimp only at h4
          obtain ⟨ws, hw1, rw1⟩ := rel3.st.cell n _ b q hb
          cases q2 : ixN xs.length k with
          | none => rw [q2] at h4; exact h4.elim
          | some j =>
            rw [q2] at h4
            obtain ⟨kp, rl⟩ := rel3.mutS (c' := .lst (xs.set j d1)) (o := .lst (ws.set j v)) q hb (fun g4 H4 mm hh => ⟨_, hh, RDs.set (((r1.2.mono k2.mono).mono k3.mono).mono mm) j (rw1.mono mm)⟩)
            exact ⟨b, ws, k, j, rfl, rfl, hw1, by rw [← rw1.length]; exact q2, h4 g3 _ σ kp rfl rl⟩
        | _ => exact h4.elim
    | _ => exact h3'.elim
  | _ => exact h3'.elim

theorem ss_setrd (G : Good c X W cf) {a ix : Xp} {p2 : Pos} {x y : Expr} (hn : noComp e = true) (hp : pln y = true) (hx : PE X x (tV c X W cf a)) (hy : PE X y (tV c X W cf ix)) (he : PE X e (tV c X W cf m)) :
    PS X (.Assign [.Subscript x y p2] e pos) (tSm c X W cf (.setrd a ix m)) := by
  have hw : swappedStores [.Subscript x y p2] e X.env = pure none := by cases e <;> rfl
  have hu : X.A.units + 1 < cLine := by have := G.un; omega
  refine (ps_asg (frzPE he) (pg_sub (frzPE hx) (frzPE hy) (set_dict hu) (pln_asg hp X.env)) (noComp_sole hn _ _ _) hw rfl).weak fun D σ H ⟨g, fr, S, rel, h⟩ => ⟨g, fr, S, rel, ?_⟩
  refine (AftS.bind rD_tmp h).imp fun v H1 ⟨d1, fr1, S1, g1, k1, rel1, r1, t1, h1⟩ => ⟨g1, fr1, S1, rel1, ?_⟩
  refine (AftS.bind rD_tmp h1).imp fun u H2 ⟨d2, fr2, S2, g2, k2, rel2, r2, t2, h2⟩ => ⟨g2, fr2, S2, rel2, ?_⟩
  refine (AftS.bind rD_tmp h2).imp fun w H3 ⟨d3, fr3, S3, g3, k3, rel3, r3, t3, h3⟩ => ?_
  have h3' : AftS X.K X.mg W g3 H3 (setrdX d2 d3 d1 fr3 S3) D := h3
  have r1' := (r1.2.mono k2.mono).mono k3.mono
  cases d2 with
  | ref n =>
    obtain ⟨b, rfl, hb⟩ := (r2.2.mono k3.mono).of_ref
    unfold setrdX at h3'
    dsimp only at h3'
    cases q : S3[n]? with
    | none => rw [q] at h3'; exact h3'.elim
    | some cl =>
      rw [q] at h3'
      cases cl with
      | dT ks xs =>
        dsimp only at h3'
        obtain ⟨ws, hw1, hl2, rv2⟩ := rel3.st.cell n _ b q hb
        cases q2 : keyT d3 with
        | none => rw [q2] at h3'; exact h3'.elim
        | some k =>
          rw [q2] at h3'
          have h4 : AftS X.K X.mg W g3 H3 (if ks.length < sizeLine then .nx fr3 (S3.set n (.dT (putKs ks k) (putVs ks xs k d1))) else .no) D := h3'
          by_cases hs : ks.length < sizeLine
          · rw [if_pos hs] at h4
            obtain ⟨us, z1, z2, z3⟩ := putK_rel r1' k hl2 rv2
            obtain ⟨kp, rl⟩ := rel3.mutS (c' := .dT (putKs ks k) (putVs ks xs k d1)) (o := .dT (putK (ks.zip ws) k v)) q hb (fun g4 H4 mm hh => ⟨us, by rw [hh, z1], z2, z3.mono mm⟩)
            obtain ⟨b2, rfl, hb2⟩ := keyT_rel r3.2 q2
            refine ⟨b, _, rfl, .inr ⟨_, k, b2, hw1, rfl, hb2, ?_, rfl⟩, h4 g3 _ σ kp rfl rl⟩
            rw [List.length_zip, ← hl2, Nat.min_self]; exact hs
          · rw [if_neg hs] at h4; exact h4.elim
      | dK ks xs =>
        dsimp only at h3'
        obtain ⟨ws, hw1, hl2, rv2⟩ := rel3.st.cell n _ b q hb
        cases q2 : toKey d3 with
        | none => rw [q2] at h3'; exact h3'.elim
        | some k =>
          rw [q2] at h3'
          have h4 : AftS X.K X.mg W g3 H3 (if ks.length < sizeLine then .nx fr3 (S3.set n (.dK (putKs ks k) (putVs ks xs k d1))) else .no) D := h3'
          by_cases hs : ks.length < sizeLine
          · rw [if_pos hs] at h4
            obtain ⟨us, z1, z2, z3⟩ := putK_rel r1' k hl2 rv2
            obtain ⟨kp, rl⟩ := rel3.mutS (c' := .dK (putKs ks k) (putVs ks xs k d1)) (o := .dK (putK (ks.zip ws) k v)) q hb (fun g4 H4 mm hh => ⟨us, by rw [hh, z1], z2, z3.mono mm⟩)
            refine ⟨b, _, rfl, .inl ⟨_, k, hw1, toKey_rel r3.2 q2, ?_, rfl⟩, h4 g3 _ σ kp rfl rl⟩
            rw [List.length_zip, ← hl2, Nat.min_self]; exact hs
          · rw [if_neg hs] at h4; exact h4.elim
      | _ => exact h3'.elim
  | _ => exact h3'.elim
/-! ### fields -/
theorem fldPutN_ne {n f : Str} {ns : List Str} (h : n ≠ f) : fldPutN (n :: ns) f = n :: fldPutN ns f := by
  unfold fldPutN
  have e : (f == n) = false := by simpa using fun z : f = n => h z.symm
  rw [List.contains_cons, e, Bool.false_or]
  split <;> rfl
theorem fldPut_rel {K : PySem.W.Frag} {g : Gh} {H : Hp} {f : Str} {d : D} {v : V} (h : RD K g H d v) : ∀ {ns : List Str} {ds : List D} {vs : List V}, ns.length = vs.length → RDs K g H ds vs →
    ∃ us, putF f v (ns.zip vs) = (fldPutN ns f).zip us ∧ (fldPutN ns f).length = us.length ∧ RDs K g H (fldPutV ns ds f d) us
  | [], _, [], _, .nil => ⟨[v], rfl, rfl, .one h⟩
  | [], _, _ :: _, e, _ => by cases e
  | _ :: _, _, [], e, _ => by cases e
  | n :: ns, d0 :: ds, v0 :: vs, e, .cons h0 t => by
    by_cases q : n = f
    · have e1 : fldPutN (n :: ns) f = n :: ns := by
        unfold fldPutN
        rw [if_pos (by rw [q]; simp)]
      refine ⟨v :: vs, ?_, by rw [e1]; exact e, ?_⟩
      · rw [e1, List.zip_cons_cons, List.zip_cons_cons]
        show (if n = f then (n, v) :: ns.zip vs else _) = _
        rw [if_pos q]
      · show RDs K g H (if n = f then d :: ds else _) _
        rw [if_pos q]
        exact .cons h t
    · obtain ⟨us, z1, z2, z3⟩ := fldPut_rel (f := f) h (ns := ns) (ds := ds) (vs := vs) (by simpa using e) t
      refine ⟨v0 :: us, ?_, by rw [fldPutN_ne q]; simp [z2], ?_⟩
      · rw [fldPutN_ne q, List.zip_cons_cons, List.zip_cons_cons]
        show (if n = f then _ else (n, v0) :: putF f v (ns.zip vs)) = _
        rw [if_neg q, z1]
      · show RDs K g H (if n = f then _ else d0 :: fldPutV ns ds f d) _
        rw [if_neg q]
        exact .cons h0 z3
/-- e.f = value -/
theorem ss_setf (G : Good c X W cf) {cl f : Str} {a : Xp} {o : Expr} {p : Pos} (hn : noComp e = true) (hc : c.cs.contains cl = true) (hf : c.ats.contains (cl, f) = true) (ho : PE X o (tV c X W cf a)) (he : PE X e (tV c X W cf m)) :
    PS X (.Assign [.Attribute o f p] e pos) (tSm c X W cf (.setf cl f a m)) := by
  obtain ⟨C2, hC2, hcl, _⟩ := G.cs cl hc
  refine (ps_fld (frzPE ho) he (noComp_sw hn _ _ _)).weak fun D σ H ⟨g, fr, S, rel, h⟩ => ⟨g, fr, S, rel, ?_⟩
  have h' : AftS X.K X.mg W g H ((ev cf c.gl m fr S).thn fun v fr S => (frzX (ev cf c.gl a fr (shareV v S).2)).thn fun o fr S' => setfX cl f o (shareV v S).1 fr S') D := h
  show Aft X.K X.mg W (rV X.K X.mg) g H σ (ev cf c.gl m fr S) _
  cases q : ev cf c.gl m fr S with
  | no => rw [q] at h'; exact h'
  | ex x f1 s1 => rw [q] at h'; exact fun g' H' c d k' e t q => h' g' H' σ c d k' e t q
  | ok v f1 s1 =>
    rw [q] at h'
    intro g1 H1 y k1 rel1 rv
    -- the value, held by others from now on
    have key : ∃ g2, Keep g H g2 H1 ∧ g2.tmp = g.tmp ∧ Rel X.K X.mg g2 f1 (shareV v s1).2 σ H1 ∧ RD X.K g2 H1 (shareV v s1).1 y := by
      cases v with
      | fz d => exact ⟨g1, k1, rv.1, rel1, rv.2⟩
      | own ce =>
        obtain ⟨b, rfl, ht, na, hcell⟩ := rv
        refine ⟨⟨g1.rho ++ [b], g1.own, g.tmp⟩, keep_share ht na rfl k1, rfl, rel1.share ht na hcell, .ref ?_⟩
        show (g1.rho ++ [b])[s1.length]? = some b
        rw [List.getElem?_append_right (by rw [rel1.st.len]; exact Nat.le_refl _), rel1.st.len]
        simp
    obtain ⟨g2, k2, t2, rel2, r2⟩ := key
    have h2 : AftS X.K X.mg W g2 H1 ((frzX (ev cf c.gl a f1 (shareV v s1).2)).thn fun o fr S' => setfX cl f o (shareV v s1).1 fr S') D := AftS.shift k2 t2 h'
    refine ⟨g2, f1, _, rel2, ?_⟩
    refine (AftS.bind rD_tmp h2).imp fun x H3 ⟨d3, fr3, S3, g3, k3, rel3, r3, t3, h3⟩ => ?_
    have h3' : AftS X.K X.mg W g3 H3 (setfX cl f d3 (shareV v s1).1 fr3 S3) D := h3
    cases d3 with
    | ref n =>
      unfold setfX at h3'
      dsimp only at h3'
      cases q3 : S3[n]? with
      | none => rw [q3] at h3'; exact h3'.elim
      | some ce =>
        rw [q3] at h3'
        cases ce with
        | ins c' ns ds =>
          have h4 : AftS X.K X.mg W g3 H3 (if c' = cl ∧ ns.length < 100 then .nx fr3 (S3.set n (.ins c' (fldPutN ns f) (fldPutV ns ds f (shareV v s1).1))) else .no) D := h3'
          by_cases hh : c' = cl ∧ ns.length < 100
          · rw [if_pos hh] at h4
            obtain ⟨rfl, hlt⟩ := hh
            obtain ⟨b, rfl, hb⟩ := r3.2.of_ref
            obtain ⟨C, dx, vs, e1, e2, e3, e4⟩ := rel3.st.cell n _ b q3 hb
            rw [hC2] at e1; cases e1
            obtain ⟨us, z1, z2, z3⟩ := fldPut_rel (f := f) (r2.mono k3.mono) e3 e4
            obtain ⟨kp, rl⟩ := rel3.mutS (c' := .ins c' (fldPutN ns f) (fldPutV ns ds f (shareV v s1).1)) (o := .ins C2 dx (putF f y (ns.zip vs))) q3 hb (fun g4 H4 mm hh => ⟨C2, dx, us, hC2, by rw [hh, z1], z2, z3.mono mm⟩)
            exact ⟨b, C2, dx, _, rfl, e2, hcl, G.noat hf hc hC2, by rw [List.length_zip, ← e3, Nat.min_self]; omega, h4 g3 _ σ kp rfl rl⟩
          · rw [if_neg hh] at h4; exact h4.elim
        | _ => exact h3'.elim
    | _ => exact h3'.elim

/-! ### loops -/
theorem ss_loop (G : Good c X W cf) {tg : Tg} {it : Wk} {body : Sms} {t i : Expr} {b : List Stmt} (hp : pln i = true) (hg : chkG c tg t = true) (hw : PI X t i (tWk c X W cf it)) (hb : PSs X b (tSs c X W cf body)) :
    PS X (.For t i b [] pos) (tSm c X W cf (.loop tg it body)) := by
  refine (ps_for G.po G.calm hw (sg G tg t hg) hb (pln_fold hp _)).weak fun D σ H ⟨g, fr, S, rel, h⟩ => ⟨g, fr, S, rel, ?_⟩
  refine (AftS.bind rW_tmp h).imp fun J H1 ⟨ds, fr1, S1, g1, k1, rel1, r1, t1, h1⟩ => ?_
  obtain ⟨GG, Y, wk, hG, hY⟩ := r1.2
  generalize hR : loopGo tg (exs cf c.gl body) ds fr1 S1 = R0 at h1
  refine for_it wk (fun j σ2 H2 => ∃ g2 fr2 S2, Keep g1 H1 g2 H2 ∧ g2.tmp = g1.tmp ∧ Rel X.K X.mg g2 fr2 S2 σ2 H2 ∧ loopGo tg (exs cf c.gl body) (ds.drop j) fr2 S2 = R0)
    ⟨g1, fr1, S1, Keep.refl, rfl, rel1, hR⟩ (fun j σ2 H2 _ ⟨g2, _, _, kp, _⟩ => hG g2 H2 kp) ?_ ?_
  · rintro j x σ2 H2 H2' hj ⟨g2, fr2, S2, kp, tm, rl, hgo⟩ hy
    obtain ⟨gr, d, ed, rd⟩ := hY j g2 H2 x H2' kp hj hy
    have rl' := rl.grows gr
    have kp' : Keep g1 H1 g2 H2' := kp.trans gr.keep
    have edrop : ds.drop j = d :: ds.drop (j + 1) := by
      obtain ⟨hb, e⟩ := List.getElem?_eq_some_iff.mp ed
      rw [List.drop_eq_getElem_cons hb, e]
    rw [edrop] at hgo
    have hgo' : (match asg tg d fr2 with
      | none => RS.no
      | some fr1 => match exs cf c.gl body fr1 S2 with
        | .nx fr2 S2 => loopGo tg (exs cf c.gl body) (ds.drop (j + 1)) fr2 S2
        | .ct fr2 S2 => loopGo tg (exs cf c.gl body) (ds.drop (j + 1)) fr2 S2
        | .bk fr2 S2 => .nx fr2 S2
        | r => r) = R0 := hgo
    cases q1 : asg tg d fr2 with
    | none => rw [q1] at hgo'; rw [← hgo'] at h1; exact h1.elim
    | some fr3 =>
      rw [q1] at hgo'
      dsimp only at hgo'
      refine ⟨g2, fr2, S2, d, fr3, rl', rd, q1, fun σ3 rel3 _ _ => ⟨g2, fr3, S2, rel3, ?_⟩⟩
      cases q2 : exs cf c.gl body fr3 S2 with
      | nx fr4 S4 =>
        rw [q2] at hgo'
        exact fun g4 H4 σ4 k4 t4 rel4 => ⟨g4, fr4, S4, kp'.trans k4, t4.trans tm, rel4, hgo'⟩
      | ct fr4 S4 =>
        rw [q2] at hgo'
        exact fun g4 H4 σ4 k4 t4 rel4 => ⟨g4, fr4, S4, kp'.trans k4, t4.trans tm, rel4, hgo'⟩
      | bk fr4 S4 =>
        rw [q2] at hgo'
        rw [← hgo'] at h1
        exact fun g4 H4 σ4 k4 t4 rel4 => h1 g4 H4 σ4 (kp'.trans k4) (t4.trans tm) rel4
      | rt v fr4 S4 =>
        rw [q2] at hgo'
        rw [← hgo'] at h1
        exact fun g4 H4 σ4 x k4 rel4 rv => h1 g4 H4 σ4 x (kp'.trans k4) rel4 (by rw [← tm]; exact rv)
      | ex e fr4 S4 =>
        rw [q2] at hgo'
        rw [← hgo'] at h1
        exact fun g4 H4 σ4 cl d k4 rel4 t4 xr => h1 g4 H4 σ4 cl d (kp'.trans k4) rel4 (t4.trans tm) xr
      | no =>
        rw [q2] at hgo'
        rw [← hgo'] at h1
        exact h1
  · rintro σ2 H2 ⟨g2, fr2, S2, kp, tm, rl, hgo⟩
    rw [List.drop_length] at hgo
    rw [← hgo] at h1
    exact h1 g2 H2 σ2 kp tm rl
theorem sss_nil : PSs X [] (tSs c X W cf .nil) := pss_nil.weak fun D σ H ⟨g, fr, S, rel, h⟩ => h g H σ Keep.refl rfl rel
theorem sss_cons {s : Sm} {ss : Sms} {st : Stmt} {sts : List Stmt} (h1 : PS X st (tSm c X W cf s)) (h2 : PSs X sts (tSs c X W cf ss)) : PSs X (st :: sts) (tSs c X W cf (.cons s ss)) := by
  refine (pss_cons h1 h2).weak fun D σ H ⟨g, fr, S, rel, h⟩ => ⟨g, fr, S, rel, ?_⟩
  have h' : AftS X.K X.mg W g H ((ex cf c.gl s fr S).seq fun fr S => exs cf c.gl ss fr S) D := h
  show AftS X.K X.mg W g H (ex cf c.gl s fr S) _
  cases e : ex cf c.gl s fr S with
  | nx f s1 =>
    rw [e] at h'
    exact fun g1 H1 σ1 k1 t1 rel1 => ⟨g1, f, s1, rel1, AftS.shift k1 t1 h'⟩
  | rt v f s1 => rw [e] at h'; exact h'
  | ex x f s1 => rw [e] at h'; exact h'
  | bk f s1 => rw [e] at h'; exact h'
  | ct f s1 => rw [e] at h'; exact h'
  | no => rw [e] at h'; exact h'
end

mutual
theorem ssv : ∀ (s : Sm) (c : SC) (X : Cx) (W : WX) (cf : CF), Good c X W cf → ∀ st, chkS s c st = true → PS X st (tSm c X W cf s)
  | .exp m => fun c X W cf G st h => by
      cases st with
      | Expr e p => exact ss_exp ((sv m c X W cf G).1 _ (and2 h).2) (and2 h).1
      | _ => exact (nomatch h)
  | .set i m => fun c X W cf G st h => by
      cases st with
      | Assign ts e p => cases ts with
        | nil => exact (nomatch h)
        | cons t ts => cases ts with
          | cons _ _ => cases t <;> exact (nomatch h)
          | nil => cases t with
            | Name x p2 =>
              obtain ⟨h, h4⟩ := and2 h
              obtain ⟨h, h3⟩ := and2 h
              obtain ⟨h1, h2⟩ := and2 h
              have h1' := of_decide_eq_true h1
              rw [Bool.or_eq_true, Bool.or_eq_true] at h3
              rcases h3 with (h3 | h3) | h3
              · exact ss_set G h1' h2 (noComp_sw h3 _ _ _) ((sv m c X W cf G).1 _ h4)
              · obtain ⟨h5, h6⟩ := and2 h3
                cases e with
                | ListComp el gs sc q =>
                  exact ss_set G h1' h2 (sw_cell (by rw [G.sc]; exact of_decide_eq_true h5)) ((sv m c X W cf G).1 _ h4)
                | _ => exact (nomatch h6)
              · obtain ⟨h5, h6⟩ := and2 h3
                cases m with
                | comp elt tg it cs =>
                  cases e with
                  | ListComp el gs sc q =>
                    cases gs with
                    | nil => exact (nomatch h4)
                    | cons g gs => cases gs with
                      | cons _ _ =>
                        obtain ⟨t, i, fs, as⟩ := g
                        cases as with
                        | ofNat n => cases n with
                          | zero => exact (nomatch h4)
                          | succ n => exact (nomatch h4)
                        | negSucc n => exact (nomatch h4)
                      | nil =>
                        obtain ⟨t, ie, fs, as⟩ := g
                        cases as with
                        | negSucc n => exact (nomatch h4)
                        | ofNat n => cases n with
                          | succ n => exact (nomatch h4)
                          | zero =>
                            obtain ⟨h6, b4⟩ := and2 h6
                            obtain ⟨h6, b3⟩ := and2 h6
                            obtain ⟨b1, b2⟩ := and2 h6
                            exact ss_setLc G h1' (of_decide_eq_true b2) (of_decide_eq_true b1) b3 (by rw [Bool.not_eq_true'] at b4; exact b4) h4
                  | _ => exact (nomatch h6)
                | _ => exact (nomatch h5)
            | _ => exact (nomatch h)
      | _ => exact (nomatch h)
  | .asg t m => fun c X W cf G st h => by
      cases st with
      | Assign ts e p => cases ts with
        | nil => exact (nomatch h)
        | cons tg ts => cases ts with
          | cons _ _ => exact (nomatch h)
          | nil =>
            obtain ⟨h, h5⟩ := and2 h
            obtain ⟨h, h4⟩ := and2 h
            obtain ⟨h, h3⟩ := and2 h
            obtain ⟨h1, h2⟩ := and2 h
            exact ss_asg G h1 h2 h3 h4 ((sv m c X W cf G).1 _ h5)
      | _ => exact (nomatch h)
  | .ret m => fun c X W cf G st h => by
      cases st with
      | Return o p => cases o with
        | none => exact (nomatch h)
        | some e => exact ss_ret G h
      | _ => exact (nomatch h)
  | .retN => fun c X W cf G st h => by
      cases st with
      | Return o p => cases o with
        | none => exact ss_retN
        | some e => exact (nomatch h)
      | _ => exact (nomatch h)
  | .cond t a b => fun c X W cf G st h => by
      cases st with
      | If e x y p =>
        obtain ⟨h, h3⟩ := and2 h
        obtain ⟨h1, h2⟩ := and2 h
        exact ss_cond ((sv t c X W cf G).2 _ h1) (sssv a c X W cf G _ h2) (sssv b c X W cf G _ h3)
      | _ => exact (nomatch h)
  | .loop tg it body => fun c X W cf G st h => by
      cases st with
      | For t i b o p => cases o with
        | cons _ _ => exact (nomatch h)
        | nil =>
          obtain ⟨h, h4⟩ := and2 h
          obtain ⟨h, h3⟩ := and2 h
          obtain ⟨h1, h2⟩ := and2 h
          exact ss_loop G h1 h2 (sws it c X W cf G _ _ h3) (sssv body c X W cf G _ h4)
      | _ => exact (nomatch h)
  | .raise x => fun c X W cf G st h => by
      have h' : raiseB x c st = true := h
      unfold raiseB at h'
      split at h'
      · obtain ⟨h, h3⟩ := and2 h'
        obtain ⟨h1, h2⟩ := and2 h
        obtain rfl := of_decide_eq_true h1
        exact ss_raise G h2 h3
      · cases h'
  | .appv i m => fun c X W cf G st h => by
      cases st with
      | Expr e p => cases e with
        | Call g as ks cp => cases g with
          | Attribute x a ap => cases x with
            | Name w p2 => cases as with
              | nil => exact (nomatch h)
              | cons y ys => cases ys with
                | cons _ _ => exact (nomatch h)
                | nil => cases ks with
                  | cons _ _ => exact (nomatch h)
                  | nil =>
                    obtain ⟨h, h5⟩ := and2 h
                    obtain ⟨h, h4⟩ := and2 h
                    obtain ⟨h, h3⟩ := and2 h
                    obtain ⟨h1, h2⟩ := and2 h
                    obtain rfl := of_decide_eq_true h1
                    exact ss_appv G h3 ((sv m c X W cf G).1 _ h5) h4 h2
            | _ => exact (nomatch h)
          | _ => exact (nomatch h)
        | _ => exact (nomatch h)
      | _ => exact (nomatch h)
  | .extv i m => fun c X W cf G st h => by
      cases st with
      | Expr e p => cases e with
        | Call g as ks cp => cases g with
          | Attribute x a ap => cases x with
            | Name w p2 => cases as with
              | nil => exact (nomatch h)
              | cons y ys => cases ys with
                | cons _ _ => exact (nomatch h)
                | nil => cases ks with
                  | cons _ _ => exact (nomatch h)
                  | nil =>
                    obtain ⟨h, h5⟩ := and2 h
                    obtain ⟨h, h4⟩ := and2 h
                    obtain ⟨h, h3⟩ := and2 h
                    obtain ⟨h1, h2⟩ := and2 h
                    obtain rfl := of_decide_eq_true h1
                    exact ss_extv G h3 ((sv m c X W cf G).1 _ h5) h4 h2
            | _ => exact (nomatch h)
          | _ => exact (nomatch h)
        | _ => exact (nomatch h)
      | _ => exact (nomatch h)
  | .setv i ix m => fun c X W cf G st h => by
      cases st with
      | Assign ts e p => cases ts with
        | nil => exact (nomatch h)
        | cons t ts => cases ts with
          | cons _ _ => cases t with
            | Subscript x y p2 => cases x <;> exact (nomatch h)
            | _ => exact (nomatch h)
          | nil => cases t with
            | Subscript x y p2 => cases x with
              | Name w p3 =>
                obtain ⟨h, h5⟩ := and2 h
                obtain ⟨h, h4⟩ := and2 h
                obtain ⟨h, h3⟩ := and2 h
                obtain ⟨h1, h2⟩ := and2 h
                exact ss_setv G h1 h2 h3 ((sv ix c X W cf G).1 _ h4) ((sv m c X W cf G).1 _ h5)
              | _ => exact (nomatch h)
            | _ => exact (nomatch h)
      | _ => exact (nomatch h)
  | .setr a ix m => fun c X W cf G st h => by
      cases st with
      | Assign ts e p => cases ts with
        | nil => exact (nomatch h)
        | cons t ts => cases ts with
          | cons _ _ => cases t <;> exact (nomatch h)
          | nil => cases t with
            | Subscript x y p2 =>
                obtain ⟨h, h5⟩ := and2 h
                obtain ⟨h, h4⟩ := and2 h
                obtain ⟨h, h3⟩ := and2 h
                obtain ⟨h1, h2⟩ := and2 h
                exact ss_setr G h1 h2 ((sv a c X W cf G).1 _ h3) ((sv ix c X W cf G).1 _ h4) ((sv m c X W cf G).1 _ h5)
            | _ => exact (nomatch h)
      | _ => exact (nomatch h)
  | .pass => fun c X W cf G st h => by
      cases st with
      | Pass p => exact ss_pass
      | _ => exact (nomatch h)
  | .never => fun c X W cf G st h => ⟨fun pins s σ H D I ⟨g, fr, S, rel, h⟩ => h.elim⟩
  | .par i j m n => fun c X W cf G st h => by
      cases st with
      | Assign ts e p => cases ts with
        | nil => exact (nomatch h)
        | cons t ts => cases ts with
          | cons _ _ => revert h; simp [chkS]
          | nil => cases t with
            | Tuple es k p2 => cases es with
              | nil => exact (nomatch h)
              | cons e1 es => cases e1 with
                | Name x px => cases es with
                  | nil => exact (nomatch h)
                  | cons e2 es => cases e2 with
                    | Name y py => cases es with
                      | cons _ _ => exact (nomatch h)
                      | nil => cases e with
                        | Tuple us k2 p4 => cases us with
                          | nil => exact (nomatch h)
                          | cons u1 us => cases us with
                            | nil => exact (nomatch h)
                            | cons u2 us => cases us with
                              | cons _ _ => exact (nomatch h)
                              | nil =>
                                obtain ⟨h, h5⟩ := and2 h
                                obtain ⟨h, h4⟩ := and2 h
                                obtain ⟨h, h3⟩ := and2 h
                                obtain ⟨h1, h2⟩ := and2 h
                                rw [Bool.or_eq_true] at h3
                                rcases h3 with h3 | h3
                                · exact ss_par G (of_decide_eq_true h1) (of_decide_eq_true h2) h3 ((sv m c X W cf G).1 _ h4) ((sv n c X W cf G).1 _ h5)
                                · exact ss_par2 G (of_decide_eq_true h1) (of_decide_eq_true h2) (of_decide_eq_true (and2 h3).1) (and2 h3).2 ((sv m c X W cf G).1 _ h4) ((sv n c X W cf G).1 _ h5)
                        | _ => exact (nomatch h)
                    | _ => exact (nomatch h)
                | _ => exact (nomatch h)
            | _ => exact (nomatch h)
      | _ => exact (nomatch h)
  | .setf cl f a m => fun c X W cf G st h => by
      have h' : (match xSetF st with | some (o, f', e) => decide (f = f') && noComp e && c.cs.contains cl && c.ats.contains (cl, f) && (chk2 a c).v o && (chk2 m c).v e | none => false) = true := h
      cases q : xSetF st with
      | none => rw [q] at h'; cases h'
      | some r =>
        obtain ⟨o, f', e⟩ := r
        rw [q] at h'
        obtain ⟨p, p2, rfl⟩ := xSetF_eq q
        obtain ⟨h, h6⟩ := and2 h'
        obtain ⟨h, h5⟩ := and2 h
        obtain ⟨h, h4⟩ := and2 h
        obtain ⟨h, h3⟩ := and2 h
        obtain ⟨h1, h2⟩ := and2 h
        obtain rfl := of_decide_eq_true h1
        exact ss_setf G h2 h3 h4 ((sv a c X W cf G).1 _ h5) ((sv m c X W cf G).1 _ h6)
  | .setrd a ix m => fun c X W cf G st h => by
      cases st with
      | Assign ts e p => cases ts with
        | nil => exact (nomatch h)
        | cons t ts => cases ts with
          | cons _ _ => cases t <;> exact (nomatch h)
          | nil => cases t with
            | Subscript x y p2 =>
              obtain ⟨h, h5⟩ := and2 h
              obtain ⟨h, h4⟩ := and2 h
              obtain ⟨h, h3⟩ := and2 h
              obtain ⟨h1, h2⟩ := and2 h
              exact ss_setrd G h1 h2 ((sv a c X W cf G).1 _ h3) ((sv ix c X W cf G).1 _ h4) ((sv m c X W cf G).1 _ h5)
            | _ => exact (nomatch h)
      | _ => exact (nomatch h)
  | .setd i ix m => fun c X W cf G st h => by
      cases st with
      | Assign ts e p => cases ts with
        | nil => exact (nomatch h)
        | cons t ts => cases ts with
          | cons _ _ => cases t with
            | Subscript x y p2 => cases x <;> exact (nomatch h)
            | _ => exact (nomatch h)
          | nil => cases t with
            | Subscript x y p2 => cases x with
              | Name w p3 =>
                obtain ⟨h, h5⟩ := and2 h
                obtain ⟨h, h4⟩ := and2 h
                obtain ⟨h, h3⟩ := and2 h
                obtain ⟨h1, h2⟩ := and2 h
                exact ss_setd G h1 h2 h3 ((sv ix c X W cf G).1 _ h4) ((sv m c X W cf G).1 _ h5)
              | _ => exact (nomatch h)
            | _ => exact (nomatch h)
      | _ => exact (nomatch h)
theorem sssv : ∀ (s : Sms) (c : SC) (X : Cx) (W : WX) (cf : CF), Good c X W cf → ∀ st, chkSs s c st = true → PSs X st (tSs c X W cf s)
  | .nil => fun c X W cf G st h => by
      cases st with
      | nil => exact sss_nil
      | cons _ _ => exact (nomatch h)
  | .cons s ss => fun c X W cf G st h => by
      cases st with
      | nil => exact (nomatch h)
      | cons x xs => exact sss_cons (ssv s c X W cf G _ (and2 h).1) (sssv ss c X W cf G _ (and2 h).2)
end
end Eng
end

section
/-! The engine, part M: defs, a program's defs, the end of a law. -/
namespace Eng
open PySem PySem.Spec PyProof.Rows L2

/-! ### parameters -/
/-- a def's parameters are bound in order, defaults fill up -/
structure BP (d : He.DefD) : Prop where
  none : d.dfl = [] → ∀ (kV doc pm : Value) (an : Option Addr) (cdv ct : Value) (us : List Value), us.length = (d.params.args.map (·.arg)).length → bindArgs (PySem.W.fnOf d.name d.qual d.params d.body d.scope .none kV doc pm an cdv ct) ⟨us, []⟩ = pure ((d.params.args.map (·.arg)).zip us)
  some : d.dfl ≠ [] → ∀ (j : Nat), j ≤ d.dfl.length → ∀ (T : Addr) (kV doc pm : Value) (an : Option Addr) (cdv ct : Value) (us its : List Value), us.length + (d.dfl.length - j) = (d.params.args.map (·.arg)).length → its.length = d.dfl.length →
    ∃ k, bindArgs (PySem.W.fnOf d.name d.qual d.params d.body d.scope (.ref T) kV doc pm an cdv ct) ⟨us, []⟩ = seqItems? (.ref T) >>= k ∧ k (Option.some its.toArray) = pure ((d.params.args.map (·.arg)).zip (us ++ its.drop j))
def scopeB (N ps : List Str) (sc : Scope) : Bool := decide (sc.kind = .function) && !sc.isCoroutine && !sc.isGenerator && decide N.Nodup && decide (N.take ps.length = ps) && (ps.all fun x => decide (sc.names.lookup x = some .local) || decide (sc.names.lookup x = some .cell)) &&
  sc.names.all fun y => decide (y.2 ≠ .free)
theorem scopeB_ok {N ps : List Str} {sc : Scope} (h : scopeB N ps sc = true) : FnScope N ps sc := by
  unfold scopeB at h
  obtain ⟨h, h7⟩ := and2 h
  obtain ⟨h, h6⟩ := and2 h
  obtain ⟨h, h5⟩ := and2 h
  obtain ⟨h, h4⟩ := and2 h
  obtain ⟨h, h3⟩ := and2 h
  obtain ⟨h1, h2⟩ := and2 h
  refine ⟨of_decide_eq_true h1, by rw [Bool.not_eq_true'] at h2; exact h2, by rw [Bool.not_eq_true'] at h3; exact h3, of_decide_eq_true h4, of_decide_eq_true h5, fun x hx => ?_, fun y hy => of_decide_eq_true (List.all_eq_true.mp h7 y hy)⟩
  have := List.all_eq_true.mp h6 x hx
  rw [Bool.or_eq_true] at this
  exact this.imp of_decide_eq_true of_decide_eq_true

/-! ### one def -/
theorem start_rel {K : PySem.W.Frag} {mg : Str → Option Value} {g : Gh} {S : Store} {H : Hp} {ds : List D} {vs : List V} {N : List Str} {d : Df} (st : StR K mg g S H) (r : RDs K g H ds vs) (hn : N.length = d.ns) (hp : ds.length ≤ d.ns) :
    Rel K mg g (d.start ds) S (L2.start N vs) H := by
  have hl : ds.length = vs.length := r.length
  have get1 : ∀ (i : Nat) v, (d.start ds)[i]? = some (some v) → ∃ e, ds[i]? = some e ∧ v = .fz e := fun i v e => by
    unfold Df.start at e
    by_cases hi : i < ds.length
    · rw [List.getElem?_append_left (by rw [List.length_map]; exact hi), List.getElem?_map] at e
      cases q : ds[i]? with
      | none => rw [q] at e; cases e
      | some x => rw [q] at e; exact ⟨x, rfl, (Option.some.inj (Option.some.inj e)).symm⟩
    · rw [List.getElem?_append_right (by rw [List.length_map]; omega)] at e
      obtain ⟨_, e⟩ := List.getElem?_eq_some_iff.mp e
      rw [List.getElem_replicate] at e
      cases e
  refine ⟨?_, fun i v e => ?_, fun i j c c' a ne e1 e2 e3 => ?_, st⟩
  · unfold Df.start L2.start
    rw [List.length_append, List.length_append, List.length_map, List.length_map, List.length_replicate, List.length_replicate, hl, hn]
  · obtain ⟨x, e1, rfl⟩ := get1 i v e
    obtain ⟨y, e2, e3⟩ := r.get e1
    refine ⟨y, ?_, e3⟩
    unfold L2.start
    have hi : i < vs.length := (List.getElem?_eq_some_iff.mp e2).1
    rw [List.getElem?_append_left (by rw [List.length_map]; exact hi), List.getElem?_map, e2]; rfl
  · obtain ⟨x, _, e⟩ := get1 i _ e1
    cases e
theorem StR.noOwn {K : PySem.W.Frag} {mg : Str → Option Value} {g : Gh} {S : Store} {H : Hp} (r : StR K mg g S H) : StR K mg ⟨g.rho, [], g.tmp⟩ S H := by
  have av : ∀ a, Gh.av ⟨g.rho, [], g.tmp⟩ a → g.av a := fun a z => by
    rcases z with z | z | z
    · exact .inl z
    · exact (nomatch z)
    · exact .inr (.inr z)
  exact ⟨r.len, r.nd, fun n c a e q => (r.cell n c a e q).mono (Mono.less av fun _ _ z => z) rfl, fun a z => ⟨fun w => (nomatch w), (r.rt a z).2⟩, fun a z => (nomatch z), fun a z => r.tr a (av a z)⟩
theorem mono_noOwn {K : PySem.W.Frag} {g : Gh} {H : Hp} : Mono K g H ⟨g.rho, [], g.tmp⟩ H := Mono.less (fun a z => by
    rcases z with z | z | z
    · exact .inl z
    · exact (nomatch z)
    · exact .inr (.inr z)) fun _ _ z => z
theorem Keep.noOwn {g g' : Gh} {H H' : Hp} (k : Keep g H g' H') : Keep g H ⟨g'.rho, [], g'.tmp⟩ H' := ⟨fun a o e n m => ⟨(k.keep a o e n m).1, (k.keep a o e n m).2.1, fun z => (nomatch z)⟩, k.tmp, k.tups, k.pre⟩
theorem rV.noOwn {K : PySem.W.Frag} {mg : Str → Option Value} {g : Gh} {H : Hp} {t : List Addr} {v : Val} {x : V} (h : rV K mg t g H v x) : rV K mg t ⟨g.rho, [], g.tmp⟩ H v x := by
  cases v with
  | fz d => exact ⟨h.1, h.2.mono mono_noOwn⟩
  | own c => obtain ⟨a, e, h1, h2, h3⟩ := h; exact ⟨a, e, h1, h2, h3.mono mono_noOwn rfl⟩

/-- a def of the program by its body, where no repr is under way -/
theorem fnG_of {prog : Program} {w : World} {K : PySem.W.Frag} {mg : Str → Option Value} {base : Heap} {x qual : Str} {params : Arguments} {body : List Stmt} {scope : Scope} {dvs : List V} {kws : List (Str × V)} {fa : Addr} {fd : FuncData} {N qs : List Str} {n : Nat} {sp : Sp}
    (F : FunD K x qual params body scope dvs kws fa fd) (S : FnScope N qs scope) (ar : ∀ xs H Q E, sp xs H Q E → xs.length = qs.length)
    (hb : ∀ (cv : Value) (A : Around) (out : List Env) (s : Shared) (H : Hp) (xs : List V) (Q : VK) (E : XK), A.guards = some [] → Room n (A.deeper (envOfC qual scope s.heap.objs.size fa cv)) → sp xs H Q E →
      ∃ t, PSs (cxOf (L2.CX prog w) prog w K mg base N qual scope fa cv A out s H E) body t ∧ t { nx := fun _ H' => Q .non H', rt := Q } (L2.start N xs) H) : FnG prog w K mg base (n + 1) fa fd qs sp := by
  obtain ⟨oc, od, dV, kV, doc, pm, an, cv, ct, osl, rfl, look, code, _, _⟩ := F.ex
  refine ⟨ar, fun A out s H ags us xs Q E hq hr e0 bd rx hs => ?_⟩
  have old := fun b o (z : base.get? b = some o) => (e0.bs b o z).1
  have kin := e0.mod.kin.keeps old
  have kinds : ∀ y ∈ qs.zip us, scope.names.lookup y.1 = some .local ∨ (scope.names.lookup y.1 = some .cell ∧ ((cellsFrom (s.heap.objs.size + 1) scope.names []).lookup y.1).isSome = true) := by
    intro y hy
    have my := (List.of_mem_zip (a := y.1) (b := y.2) hy).1
    exact (S.par y.1 my).imp id fun z => ⟨z, PySem.W.cellsFrom_some _ _ _ (.inl z)⟩
  refine codeAny_call_function hr.depth (kin _ _ look) rfl S.co S.gen rfl (PySem.W.codeRec_of kin code) (bd _ _ _ _ (wpAny_newFunctionEnv_cells S.kind kinds fun env he s1 ic => ?_))
  subst he
  obtain ⟨t, pt, ht⟩ := hb cv A out s H xs Q E hq (hr.deeper _) hs
  have inv0 := inv_start (CX := L2.CX prog w) (E := E) S hr.hd e0 (ar _ _ _ _ hs) rx ic
  refine ⟨(e0.mod.nolimit.keeps old).keeps ic.toInCall.keep, codeAny_func (wpAny_mono (pt.run [] s1 (L2.start N xs) H _ inv0 ht) (fun fl s2 z => ?_) fun _ _ z => z)⟩
  match fl, z with
  | .ret u, ⟨v, _, H2, J, rv, q⟩ => exact ⟨v, H2, J.os, J.bare, J.base, J.hok, rv, q⟩
  | .next, ⟨_, H2, J, q⟩ => exact ⟨V.non, H2, J.os, J.bare, J.base, J.hok, rfl, q⟩
  | .brk, ⟨_, _, _, q⟩ => exact q.elim
  | .cont, ⟨_, _, _, q⟩ => exact q.elim
/-- what holds where any def of the program runs -/
structure Amb (prog : Program) (w : World) (K : PySem.W.Frag) (mg : Str → Option Value) (xs : List Str) (gl : Str → Option D) (cls : List Str) (ats : List (Str × Str)) : Prop where
  blt : ∀ x ∈ bltNames, mg x = none
  gl : ∀ x d, gl x = some d → ∃ u v, mg x = some u ∧ RelV v u ∧ ∀ g H, RD K g H d v
  exc : ∀ x, xs.contains x = true → ∃ C, mg x = some (.ref C) ∧ PySem.W.excIn K C [.type "ValueError", .type "Exception", .type "BaseException", .type "object"] "ValueError.__new__" = true ∧
    PySem.W.keepIn K (.ref C) = true ∧ PySem.W.subIn K (.ref C) (.type "BaseException") = some true ∧ PySem.W.typeIn K (.ref C) = some (.type "type")
  cs : ∀ cl, cls.contains cl = true → ∃ C, mg cl = some (.ref C) ∧ Cls K C ∧ IsCls K C
  ats : ∀ cl f, ats.contains (cl, f) = true → cls.contains cl = true → ∃ C, mg cl = some (.ref C) ∧ NoAttr K C f
/-- what is known of a def that may be called -/
def Able (prog : Program) (w : World) (K : PySem.W.Frag) (mg : Str → Option Value) (base : Heap) (cf : CF) (f : Str) (a : Addr) (k : Nat) (ar : Nat × Nat) : Prop :=
  ∃ fd ps dD, FnG prog w K mg base k a fd ps (spC K mg (cf f) ps.length) ∧ ps.length = ar.2 ∧ (∀ n, ar.1 ≤ n → n ≤ ps.length → ps.length ≤ n + List.length dD ∧ ∃ dvs ds, Vals dvs ds ∧ Binds K fd ps ds ∧ (∀ g H, RDs K g H (dD.drop (n + dD.length - ps.length)) dvs)) ∧
    (∀ ds S, ds.length ≤ ps.length → ps.length ≤ ds.length + dD.length → cf f ds S = cf f (ds ++ dD.drop (ds.length + dD.length - ps.length)) S)
/-- a def keeps its promise, if those that it calls do -/
theorem def_ok {prog : Program} {w : World} {K : PySem.W.Frag} {mg : Str → Option Value} {base : Heap} {fs xs : List Str} {gl : Str → Option D} {cs : List Str} {ats : List (Str × Str)} {ms : List (Str × Str × Str)} {ar : Str → Nat × Nat} (am : Amb prog w K mg xs gl cs ats) {x qual : Str} {params : Arguments} {body : List Stmt} {scope : Scope} {dvs : List V} {kws : List (Str × V)} {f : Addr} {fd : FuncData} {d : Df} {N : List Str} {n : Nat} {cf : CF} {m : List D → Store → RC}
    (F : FunD K x qual params body scope dvs kws f fd) (hs : scopeB N (params.args.map (·.arg)) scope = true) (hN : N.length = d.ns) (hp : (params.args.map (·.arg)).length = d.ps) (hps : d.ps ≤ d.ns) (hc : chkSs d.body { sc := scope, N := N, fs := fs, gl := gl, xs := xs, top := true, ar := ar, ms := ms, cs := cs, ats := ats } body = true)
    (hm : ∀ ds S, m ds S = runDf cf gl d ds S)
    (hf : ∀ g, fs.contains g = true → ∃ a, Able prog w K mg base cf g a n (ar g) ∧ mg g = some (.ref a) ∧ PySem.W.keepIn K (.ref a) = true)
    (hme : ∀ g cl q, ms.contains (g, cl, q) = true → ∃ a C, Able prog w K mg base cf g a n (ar g) ∧ mg cl = some (.ref C) ∧ Cls K C ∧ Meth K C q a ∧ (q = "__init__" → Mk K C a)) :
    FnG prog w K mg base (n + 2) f fd (params.args.map (·.arg)) (spC K mg m (params.args.map (·.arg)).length) := by
  refine fnG_of F (N := N) (scopeB_ok hs) (fun vs H Q E h => h.1) (fun cdv A outer s H vs Q E hq hr h => ?_)
  obtain ⟨hl, g, S, ds, e0, st, r, h⟩ := h
  have hds : ds.length = d.ps := by rw [r.length, hl, hp]
  have hpad : d.pad ds = ds := by
    unfold Df.pad
    rw [List.drop_eq_nil_of_le (by omega), List.append_nil]
  rw [hm] at h
  unfold runDf at h
  rw [hpad, if_pos hds] at h
  let c : SC := { sc := scope, N := N, fs := fs, gl := gl, xs := xs, top := true, ar := ar, ms := ms, cs := cs, ats := ats }
  let X : Cx := cxOf (L2.CX prog w) prog w K mg base N qual scope f cdv A outer s H E
  have G : Good c X (fun cls d _ H => E cls d H) cf := {
    sc := rfl
    N := rfl
    nd := (scopeB_ok hs).nd
    calm := rfl
    tk := takes_of rfl rfl rfl rfl
    po := passes_of rfl
    un := by have := hr.un; show (A.deeper _).units + 100 < cLine; omega
    gd := hq
    fn := fun y hy => let ⟨a, F, mg, kp⟩ := hf y hy; ⟨n, a, F, hr.mono (Nat.le_succ n), mg, kp⟩
    blt := am.blt
    gl := am.gl
    exc := am.exc
    ms := fun y cl q hy => let ⟨a, C, F, h1, h2, h3, h4⟩ := hme y cl q hy; ⟨n, a, C, F, hr, h1, h2, h3, h4⟩
    cs := am.cs
    ats := am.ats
    top := fun _ _ => rfl }
  refine ⟨tSs c X _ cf d.body, sssv d.body c X _ cf G body hc, g, d.start ds, S, start_rel st r hN (by omega), ?_⟩
  show AftS K mg _ g H (exs cf gl d.body (d.start ds) S) _
  cases e : exs cf gl d.body (d.start ds) S with
  | nx fr' S' =>
    rw [e] at h
    exact fun g' H' σ' k t rel => h ⟨g'.rho, [], g'.tmp⟩ H' .non k.noOwn rfl rel.st.noOwn ⟨t, .non⟩
  | rt v fr' S' =>
    rw [e] at h
    exact fun g' H' σ' x k rel rv => h ⟨g'.rho, [], g'.tmp⟩ H' x k.noOwn rfl rel.st.noOwn rv.noOwn
  | ex x fr' S' =>
    rw [e] at h
    exact fun g' H' σ' cl dd k rel t xr => h ⟨g'.rho, [], g'.tmp⟩ H' cl dd k.noOwn rfl rel.st.noOwn t (xr.mono mono_noOwn)
  | bk fr' S' => rw [e] at h; exact h.elim
  | ct fr' S' => rw [e] at h; exact h.elim
  | no => rw [e] at h; exact h

/-! ### a program -/
structure Rw where
  d : He.DefD
  f : Df
  N : List Str
structure Pr where
  defs : List Rw
  xs : List Str
  gi : List (Str × Int)
  gs : List (Str × Str)
  cs : List Str := []
  ats : List (Str × Str) := []
def isGlo (r : Rw) : Bool := decide (r.d.at_.2 = none)
def Pr.fs (p : Pr) : List Str := (p.defs.filter isGlo).map (·.d.qual)
def Pr.ms (p : Pr) : List (Str × Str × Str) := p.defs.filterMap fun r => match r.d.at_ with
  | (c, some m) => some (r.d.qual, c, m)
  | _ => none
def Pr.row (p : Pr) (x : Str) : Option Rw := p.defs.find? fun r => decide (r.d.qual = x)
def Pr.gl (p : Pr) (x : Str) : Option D := match p.gi.lookup x with
  | some i => some (.int i)
  | none => (p.gs.lookup x).map .str
def Pr.P (p : Pr) (x : Str) : Option Df := (p.row x).map (·.f)
def Pr.ar (p : Pr) (x : Str) : Nat × Nat := match p.row x with
  | some r => (r.f.ps - r.f.dfl.length, r.f.ps)
  | none => (1, 0)
def Pr.mfa (p : Pr) : List He.Fa := p.ms.map (fun q => .meth q.2.1 q.2.2) ++ ((p.ms.filter fun q => decide (q.2.2 = ("__init__" : Str))).map fun q => .mkr q.2.1)
def Pr.fa (p : Pr) : List He.Fa := p.fs.map .glo ++ (bltNames.map .free ++ (p.xs.map .glo ++ (p.xs.map .exc ++ (p.gi.map (fun q => .int q.1 q.2) ++ (p.gs.map (fun q => .str q.1 q.2) ++ (p.cs.map .glo ++ (p.cs.map .cls ++ (p.ats.map (fun q => .noat q.1 q.2) ++ p.mfa))))))))
def Pr.fn (p : Pr) : List He.DefD := p.defs.map (·.d)
def Pr.clsB (p : Pr) (K : PySem.W.Frag) : Bool := p.cs.all fun x => isClsB K (He.ga K x) && insClsB K (He.ga K x)
def dvB : He.Dv → D → Bool
  | .non, .non => true
  | .bl b, .bl c => b == c
  | .int i, .int j => decide (i = j)
  | .str x, .str y => decide (x = y)
  | _, _ => false
def dvsB : List He.Dv → List D → Bool
  | [], [] => true
  | v :: vs, d :: ds => dvB v d && dvsB vs ds
  | _, _ => false
theorem dvsB_rel {K : PySem.W.Frag} : ∀ {vs : List He.Dv} {ds : List D}, dvsB vs ds = true → vs.length = ds.length ∧ ∀ g H, RDs K g H ds (vs.map (He.Dv.v K))
  | [], [], _ => ⟨rfl, fun _ _ => .nil⟩
  | [], _ :: _, h => nomatch h
  | _ :: _, [], h => nomatch h
  | v :: vs, d :: ds, h => by
    have h' : (dvB v d && dvsB vs ds) = true := h
    rw [Bool.and_eq_true] at h'
    obtain ⟨e, ih⟩ := dvsB_rel (K := K) h'.2
    refine ⟨by simp [e], fun g H => .cons ?_ (ih g H)⟩
    have h1 := h'.1
    cases v <;> cases d <;> first | (cases h1; done) | skip
    · exact .non
    · rename_i b c
      have h2 : (b == c) = true := h1
      have : b = c := by simpa using h2
      subst this; exact .bl _
    · obtain rfl := of_decide_eq_true h1; exact .int _
    · obtain rfl := of_decide_eq_true h1; exact .str _
def atB (p : Pr) (r : Rw) : Bool := match r.d.at_ with
  | (x, none) => decide (x = r.d.qual)
  | (c, some _) => p.cs.contains c
def Rw.ok (p : Pr) (r : Rw) : Bool := atB p r && dvsB r.d.dfl r.f.dfl && decide (r.f.dfl.length ≤ r.f.ps) && r.d.kwd.isEmpty && scopeB r.N (r.d.params.args.map (·.arg)) r.d.scope && decide (r.N.length = r.f.ns) && decide ((r.d.params.args.map (·.arg)).length = r.f.ps) &&
  decide (r.f.ps ≤ r.f.ns) && chkSs r.f.body { sc := r.d.scope, N := r.N, fs := p.fs, gl := p.gl, xs := p.xs, top := true, ar := p.ar, ms := p.ms, cs := p.cs, ats := p.ats } r.d.body
def Pr.ok (p : Pr) : Bool := p.defs.all (Rw.ok p)
theorem fact_mem {fa : List He.Fa} {fn : List He.DefD} {K : PySem.W.Frag} (c : He.SaysD fa fn K) {f : He.Fa} (h : f ∈ fa) : f.ok K = true := by
  obtain ⟨i, hi, e⟩ := List.getElem_of_mem h
  exact c.fact i (f := f) (by rw [List.getElem?_eq_getElem hi, e])
theorem lookup_mem {α : Type} {x : Str} {v : α} : ∀ {l : List (Str × α)}, l.lookup x = some v → (x, v) ∈ l
  | [], h => nomatch h
  | (y, w) :: r, h => by
    rw [List.lookup_cons] at h
    split at h
    · rename_i e
      cases h
      have : x = y := by simpa using e
      rw [this]
      exact List.mem_cons_self
    · exact List.mem_cons_of_mem _ (lookup_mem h)
section
variable {p : Pr} {f : He.Fa}
theorem fa_fs (h : f ∈ p.fs.map He.Fa.glo) : f ∈ p.fa := List.mem_append.mpr (.inl h)
theorem fa_blt (h : f ∈ bltNames.map He.Fa.free) : f ∈ p.fa := List.mem_append.mpr (.inr (List.mem_append.mpr (.inl h)))
theorem fa_2 (h : f ∈ p.xs.map He.Fa.glo ++ (p.xs.map .exc ++ (p.gi.map (fun q => .int q.1 q.2) ++ (p.gs.map (fun q => .str q.1 q.2) ++ (p.cs.map .glo ++ (p.cs.map .cls ++ (p.ats.map (fun q => .noat q.1 q.2) ++ p.mfa))))))) : f ∈ p.fa := List.mem_append.mpr (.inr (List.mem_append.mpr (.inr h)))
theorem fa_xg (h : f ∈ p.xs.map He.Fa.glo) : f ∈ p.fa := fa_2 (List.mem_append.mpr (.inl h))
theorem fa_3 (h : f ∈ p.xs.map He.Fa.exc ++ (p.gi.map (fun q => .int q.1 q.2) ++ (p.gs.map (fun q => .str q.1 q.2) ++ (p.cs.map .glo ++ (p.cs.map .cls ++ (p.ats.map (fun q => .noat q.1 q.2) ++ p.mfa)))))) : f ∈ p.fa := fa_2 (List.mem_append.mpr (.inr h))
theorem fa_xe (h : f ∈ p.xs.map He.Fa.exc) : f ∈ p.fa := fa_3 (List.mem_append.mpr (.inl h))
theorem fa_4 (h : f ∈ p.gi.map (fun q => He.Fa.int q.1 q.2) ++ (p.gs.map (fun q => .str q.1 q.2) ++ (p.cs.map .glo ++ (p.cs.map .cls ++ (p.ats.map (fun q => .noat q.1 q.2) ++ p.mfa))))) : f ∈ p.fa := fa_3 (List.mem_append.mpr (.inr h))
theorem fa_gi (h : f ∈ p.gi.map (fun q => He.Fa.int q.1 q.2)) : f ∈ p.fa := fa_4 (List.mem_append.mpr (.inl h))
theorem fa_5 (h : f ∈ p.gs.map (fun q => He.Fa.str q.1 q.2) ++ (p.cs.map .glo ++ (p.cs.map .cls ++ (p.ats.map (fun q => .noat q.1 q.2) ++ p.mfa)))) : f ∈ p.fa := fa_4 (List.mem_append.mpr (.inr h))
theorem fa_gs (h : f ∈ p.gs.map (fun q => He.Fa.str q.1 q.2)) : f ∈ p.fa := fa_5 (List.mem_append.mpr (.inl h))
theorem fa_6 (h : f ∈ p.cs.map He.Fa.glo ++ (p.cs.map .cls ++ (p.ats.map (fun q => .noat q.1 q.2) ++ p.mfa))) : f ∈ p.fa := fa_5 (List.mem_append.mpr (.inr h))
theorem fa_cg (h : f ∈ p.cs.map He.Fa.glo) : f ∈ p.fa := fa_6 (List.mem_append.mpr (.inl h))
theorem fa_7 (h : f ∈ p.cs.map He.Fa.cls ++ (p.ats.map (fun q => .noat q.1 q.2) ++ p.mfa)) : f ∈ p.fa := fa_6 (List.mem_append.mpr (.inr h))
theorem fa_cc (h : f ∈ p.cs.map He.Fa.cls) : f ∈ p.fa := fa_7 (List.mem_append.mpr (.inl h))
theorem fa_8 (h : f ∈ p.ats.map (fun q => He.Fa.noat q.1 q.2) ++ p.mfa) : f ∈ p.fa := fa_7 (List.mem_append.mpr (.inr h))
theorem fa_at (h : f ∈ p.ats.map (fun q => He.Fa.noat q.1 q.2)) : f ∈ p.fa := fa_8 (List.mem_append.mpr (.inl h))
theorem fa_mm (h : f ∈ p.ms.map (fun q => He.Fa.meth q.2.1 q.2.2)) : f ∈ p.fa := fa_8 (List.mem_append.mpr (.inr (List.mem_append.mpr (.inl h))))
theorem fa_mk (h : f ∈ (p.ms.filter fun q => decide (q.2.2 = ("__init__" : Str))).map fun q => He.Fa.mkr q.2.1) : f ∈ p.fa := fa_8 (List.mem_append.mpr (.inr (List.mem_append.mpr (.inr h))))
end
theorem Pr.amb {p : Pr} {prog : Program} {w : World} {K : PySem.W.Frag} {h : Heap} {mg : Str → Option Value} (KX : K.In h) (G : h.Ns mainGlobals mg) (c : He.SaysD p.fa p.fn K) (cb : p.clsB K = true) : Amb prog w K mg p.xs p.gl p.cs p.ats where
  blt := fun x hx => He.free_ok KX G (fact_mem c (fa_blt (List.mem_map.mpr ⟨x, hx, rfl⟩)))
  gl := fun x d e => by
    unfold Pr.gl at e
    cases q : p.gi.lookup x with
    | some i =>
      rw [q] at e
      cases e
      obtain ⟨t, e⟩ := He.int_ok KX G (fact_mem c (fa_gi (List.mem_map.mpr ⟨(x, i), lookup_mem q, rfl⟩)))
      exact ⟨_, .int i, e, ⟨t, rfl⟩, fun _ _ => .int i⟩
    | none =>
      rw [q] at e
      cases q2 : p.gs.lookup x with
      | none => rw [q2] at e; cases e
      | some z =>
        rw [q2] at e
        cases e
        obtain ⟨t, e⟩ := He.str_ok KX G (fact_mem c (fa_gs (List.mem_map.mpr ⟨(x, z), lookup_mem q2, rfl⟩)))
        exact ⟨_, .str z, e, ⟨t, rfl⟩, fun _ _ => .str z⟩
  exc := fun x hx => by
    have hx' : x ∈ p.xs := by simpa using hx
    obtain ⟨h1, h2, h3, h4⟩ := He.exc_ok (fact_mem c (fa_xe (List.mem_map.mpr ⟨x, hx', rfl⟩)))
    exact ⟨_, He.glo_ok KX G (fact_mem c (fa_xg (List.mem_map.mpr ⟨x, hx', rfl⟩))), h1, h2, h3, h4⟩
  cs := fun x hx => by
    have hx' : x ∈ p.cs := by simpa using hx
    have hb := List.all_eq_true.mp cb x hx'
    rw [Bool.and_eq_true] at hb
    exact ⟨_, He.glo_ok KX G (fact_mem c (fa_cg (List.mem_map.mpr ⟨x, hx', rfl⟩))), He.cls_ok (fact_mem c (fa_cc (List.mem_map.mpr ⟨x, hx', rfl⟩))), hb.1, hb.2⟩
  ats := fun x f hx hc => by
    have hx' : (x, f) ∈ p.ats := by simpa using hx
    have hc' : x ∈ p.cs := by simpa using hc
    exact ⟨_, He.glo_ok KX G (fact_mem c (fa_cg (List.mem_map.mpr ⟨x, hc', rfl⟩))), He.noat_ok (fact_mem c (fa_at (List.mem_map.mpr ⟨(x, f), hx', rfl⟩)))⟩
/-- a def's promise, its defaults -/
theorem able_of {p : Pr} {prog : Program} {w : World} {K : PySem.W.Frag} {mg : Str → Option Value} {base : Heap} {n : Nat} {r : Rw} {a : Addr} {fd : FuncData} (hrow : Rw.ok p r = true) (hfr : p.row r.d.qual = some r) (hb : BP r.d)
    (F : FunD K r.d.name r.d.qual r.d.params r.d.body r.d.scope (r.d.dvs K) (r.d.kws K) a fd) (ih : FnG prog w K mg base (2 * n) a fd (r.d.params.args.map (·.arg)) (spC K mg (callN p.P p.gl n r.d.qual) (r.d.params.args.map (·.arg)).length)) :
    Able prog w K mg base (callN p.P p.gl n) r.d.qual a (2 * n) (p.ar r.d.qual) := by
  unfold Rw.ok at hrow
  obtain ⟨q, c10⟩ := and2 hrow
  obtain ⟨q, c7⟩ := and2 q
  obtain ⟨q, c6⟩ := and2 q
  obtain ⟨q, c5⟩ := and2 q
  obtain ⟨q, c4⟩ := and2 q
  obtain ⟨q, c3⟩ := and2 q
  obtain ⟨q, c2b⟩ := and2 q
  obtain ⟨c1, c2⟩ := and2 q
  have hps := of_decide_eq_true c6
  have hdl := of_decide_eq_true c2b
  obtain ⟨hlen, hrd⟩ := dvsB_rel (K := K) c2
  have ar1 : p.ar r.d.qual = (r.f.ps - r.f.dfl.length, r.f.ps) := by unfold Pr.ar; rw [hfr]
  refine ⟨fd, _, r.f.dfl, ih, by rw [ar1]; exact hps, fun k hk1 hk2 => ?_, fun ds S h1 h2 => ?_⟩
  · rw [ar1] at hk1
    have hk1 : r.f.ps - r.f.dfl.length ≤ k := hk1
    rw [hps] at hk2 ⊢
    refine ⟨by omega, ?_⟩
    by_cases e : r.d.dfl = []
    · have e2 : r.f.dfl = [] := by
        have : r.f.dfl.length = 0 := by rw [← hlen, e]; rfl
        exact List.eq_nil_of_length_eq_zero this
      have dn : r.d.dvs K = [] := by unfold He.DefD.dvs; rw [e]; rfl
      rw [dn] at F
      refine ⟨[], [], .nil, F.bindsN (hb.none e), fun g H => ?_⟩
      rw [e2, List.drop_nil]; exact .nil
    · have hdn : (r.d.dvs K) ≠ [] := by
        unfold He.DefD.dvs
        intro z
        exact e (List.map_eq_nil_iff.mp z)
      have hdl2 : (r.d.dvs K).length = r.d.dfl.length := by unfold He.DefD.dvs; rw [List.length_map]
      obtain ⟨ds, hv, hbn⟩ := F.binds1 (ps := r.d.params.args.map (·.arg)) k (k + r.f.dfl.length - r.f.ps) hdn (by rw [hdl2, hlen, hps]; omega) (fun T kV doc pm an cdv ct us its hu hi => by
        rw [hdl2] at hi
        exact hb.some e (k + r.f.dfl.length - r.f.ps) (by rw [hlen]; omega) T kV doc pm an cdv ct us its (by rw [hu, hlen, hps]; omega) hi)
      refine ⟨_, ds, hv, hbn, fun g H => ?_⟩
      exact (hrd g H).drop _
  · rw [hps] at h1 h2 ⊢
    cases n with
    | zero => rfl
    | succ n =>
      have eP : p.P r.d.qual = some r.f := by unfold Pr.P; rw [hfr]; rfl
      show (match p.P r.d.qual with | some d => runDf (callN p.P p.gl n) p.gl d ds S | none => .no) = (match p.P r.d.qual with | some d => runDf (callN p.P p.gl n) p.gl d (ds ++ r.f.dfl.drop (ds.length + r.f.dfl.length - r.f.ps)) S | none => .no)
      rw [eP]
      show runDf _ _ r.f ds S = runDf _ _ r.f (r.f.pad ds) S
      have hl : (r.f.pad ds).length = r.f.ps := by
        unfold Df.pad
        rw [List.length_append, List.length_drop]; omega
      have e2 : r.f.pad (r.f.pad ds) = r.f.pad ds := by
        generalize r.f.pad ds = zs at hl
        unfold Df.pad
        rw [List.drop_eq_nil_of_le (by omega)]
        exact List.append_nil _
      unfold runDf
      rw [e2]
theorem row_of {p : Pr} {r : Rw} (h : r ∈ p.defs) : ∃ r1, p.row r.d.qual = some r1 ∧ r1 ∈ p.defs ∧ r1.d.qual = r.d.qual := by
  cases e : p.row r.d.qual with
  | some r1 => exact ⟨r1, rfl, List.mem_of_find?_eq_some e, by simpa using List.find?_some e⟩
  | none => exact absurd (List.find?_eq_none.mp e r h) (by simp)
/-- no two defs of one name -/
def Pr.nd (p : Pr) : Bool := decide (p.defs.map (·.d.qual)).Nodup
theorem qual_inj : ∀ {l : List Rw}, (l.map (·.d.qual)).Nodup → ∀ {r r1 : Rw}, r ∈ l → r1 ∈ l → r1.d.qual = r.d.qual → r1 = r
  | [], _, _, _, h, _, _ => nomatch h
  | a :: l, nd, r, r1, h, h2, h3 => by
    rw [List.map_cons, List.nodup_cons] at nd
    rcases List.mem_cons.mp h with e | h <;> rcases List.mem_cons.mp h2 with e2 | h2
    · rw [e, e2]
    · exact absurd (List.mem_map.mpr ⟨r1, h2, by rw [h3, e]⟩) nd.1
    · exact absurd (List.mem_map.mpr ⟨r, h, by rw [← h3, e2]⟩) nd.1
    · exact qual_inj nd.2 h h2 h3
theorem row_self {p : Pr} (hn : p.nd = true) {r : Rw} (h : r ∈ p.defs) : p.row r.d.qual = some r := by
  obtain ⟨r1, h1, h2, h3⟩ := row_of h
  rw [h1, qual_inj (of_decide_eq_true hn) h h2 h3]
theorem Pr.fn_ok {p : Pr} {prog : Program} {w : World} {K : PySem.W.Frag} {h base : Heap} {mg : Str → Option Value} (hok : p.ok = true) (hnd : p.nd = true) (hb : ∀ r ∈ p.defs, BP r.d) (KX : K.In h) (G : h.Ns mainGlobals mg) (c : He.SaysD p.fa p.fn K) (cb : p.clsB K = true) :
    ∀ (n : Nat) (r : Rw), r ∈ p.defs → ∀ fd, FunD K r.d.name r.d.qual r.d.params r.d.body r.d.scope (r.d.dvs K) (r.d.kws K) (He.fAd K r.d.at_) fd →
      FnG prog w K mg base (2 * n) (He.fAd K r.d.at_) fd (r.d.params.args.map (·.arg)) (spC K mg (callN p.P p.gl n r.d.qual) (r.d.params.args.map (·.arg)).length)
  | 0, r, _, fd, F => ⟨fun vs H Q E h => h.1, fun A outer s H args us vs Q E hq hr e0 b rv h => by
      obtain ⟨_, g, S, ds, _, _, _, z⟩ := h
      exact z.elim⟩
  | n + 1, r, hr, fd, F => by
    have hrow := List.all_eq_true.mp hok r hr
    unfold Rw.ok at hrow
    obtain ⟨q, b10⟩ := and2 hrow
    obtain ⟨q, b7⟩ := and2 q
    obtain ⟨q, b6⟩ := and2 q
    obtain ⟨q, b5⟩ := and2 q
    obtain ⟨q, b4⟩ := and2 q
    have each : ∀ r1 ∈ p.defs, Able prog w K mg base (callN p.P p.gl n) r1.d.qual (He.fAd K r1.d.at_) (2 * n) (p.ar r1.d.qual) ∧ PySem.W.keepIn K (.ref (He.fAd K r1.d.at_)) = true := fun r1 m1 => by
      obtain ⟨i, hi, ei⟩ := List.getElem_of_mem m1
      obtain ⟨fd1, F1⟩ := c.def_ i (d := r1.d) (by unfold Pr.fn; rw [List.getElem?_map, List.getElem?_eq_getElem hi, ei]; rfl)
      exact ⟨able_of (List.all_eq_true.mp hok r1 m1) (row_self hnd m1) (hb r1 m1) F1 (Pr.fn_ok (prog := prog) (w := w) (base := base) hok hnd hb KX G c cb n r1 m1 fd1 F1), F1.kp⟩
    refine def_ok (prog := prog) (w := w) (base := base) (n := 2 * n) (cf := callN p.P p.gl n) (Pr.amb KX G c cb) F b4 (of_decide_eq_true b5) (of_decide_eq_true b6) (of_decide_eq_true b7) b10 (fun ds S => ?_) (fun y hy => ?_) (fun y cl m hy => ?_)
    · show (match p.P r.d.qual with | some d => runDf (callN p.P p.gl n) p.gl d ds S | none => .no) = _
      have : p.P r.d.qual = some r.f := by unfold Pr.P; rw [row_self hnd hr]; rfl
      rw [this]
    · have hy' : y ∈ p.fs := by simpa using hy
      obtain ⟨r1, m1, rfl⟩ := List.mem_map.mp hy'
      obtain ⟨m1, hg⟩ := List.mem_filter.mp m1
      obtain ⟨e1, e2⟩ := each r1 m1
      have hrow1 := List.all_eq_true.mp hok r1 m1
      unfold Rw.ok at hrow1
      have c1 : atB p r1 = true := by
        obtain ⟨q, _⟩ := and2 hrow1
        obtain ⟨q, _⟩ := and2 q
        obtain ⟨q, _⟩ := and2 q
        obtain ⟨q, _⟩ := and2 q
        obtain ⟨q, _⟩ := and2 q
        obtain ⟨q, _⟩ := and2 q
        obtain ⟨q, _⟩ := and2 q
        exact (and2 q).1
      have hat : r1.d.at_ = (r1.d.qual, none) := by
        have hg' : r1.d.at_.2 = none := of_decide_eq_true hg
        unfold atB at c1
        cases ea : r1.d.at_ with
        | mk x o =>
          rw [ea] at hg' c1
          obtain rfl : o = none := hg'
          have : x = r1.d.qual := of_decide_eq_true c1
          rw [this]
      have ga : He.fAd K r1.d.at_ = He.ga K r1.d.qual := by rw [hat]; rfl
      rw [ga] at e1 e2
      exact ⟨_, e1, He.glo_ok KX G (fact_mem c (fa_fs (List.mem_map.mpr ⟨_, hy', rfl⟩))), e2⟩
    · have hy' : (y, cl, m) ∈ p.ms := by simpa using hy
      obtain ⟨r1, m1, he⟩ := List.mem_filterMap.mp hy'
      obtain ⟨e1, e2⟩ := each r1 m1
      have hrow1 := List.all_eq_true.mp hok r1 m1
      unfold Rw.ok at hrow1
      have c1 : atB p r1 = true := by
        obtain ⟨q, _⟩ := and2 hrow1
        obtain ⟨q, _⟩ := and2 q
        obtain ⟨q, _⟩ := and2 q
        obtain ⟨q, _⟩ := and2 q
        obtain ⟨q, _⟩ := and2 q
        obtain ⟨q, _⟩ := and2 q
        obtain ⟨q, _⟩ := and2 q
        exact (and2 q).1
      unfold atB at c1
      cases ea : r1.d.at_ with
      | mk x o =>
        rw [ea] at he c1
        cases o with
        | none => cases he
        | some m' =>
          obtain ⟨rfl, rfl, rfl⟩ : r1.d.qual = y ∧ x = cl ∧ m' = m := by
            have := Option.some.inj he
            exact ⟨congrArg (·.1) this, congrArg (·.2.1) this, congrArg (·.2.2) this⟩
          have hc : p.cs.contains x = true := c1
          have hc' : x ∈ p.cs := by simpa using hc
          have gm : He.fAd K r1.d.at_ = He.ma K (He.ga K x) m' := by rw [ea]; rfl
          rw [gm] at e1 e2
          refine ⟨_, _, e1, He.glo_ok KX G (fact_mem c (fa_cg (List.mem_map.mpr ⟨x, hc', rfl⟩))), He.cls_ok (fact_mem c (fa_cc (List.mem_map.mpr ⟨x, hc', rfl⟩))), He.meth_ok (fact_mem c (fa_mm (List.mem_map.mpr ⟨_, hy', rfl⟩))), fun hi => ?_⟩
          subst hi
          exact He.mkr_ok (fact_mem c (fa_mk (List.mem_map.mpr ⟨_, List.mem_filter.mpr ⟨hy', decide_eq_true rfl⟩, rfl⟩)))
/-- the head's facts -/
def hookP (n : Nat) (p : Pr) : PySem.W.Hook where
  α := He.AlD × Bool
  obs := fun s => (He.obsDG n p.fa p.fn s.heap.get?, p.clsB (He.frG s.heap.get? (He.asD s.heap.get? n)))
  val := fun _ => (He.valD p.fn, true)
  says := fun _ h => ∃ K : PySem.W.Frag, K.In h ∧ He.SaysD p.fa p.fn K ∧ p.clsB K = true
  of := fun _ _ e => ⟨_, He.frG_in, (Prod.mk.inj e).1, (Prod.mk.inj e).2⟩
  keeps := fun _ _ _ ⟨K, hK, c⟩ k => ⟨K, PySem.W.Frag.In.keeps hK k, c⟩
def obsP (n : Nat) (p : Pr) (g : Addr → Option Obj) : He.AlD × Bool := (He.obsDG n p.fa p.fn g, p.clsB (He.frG g (He.asD g n)))
theorem obsP_eq {n : Nat} {p : Pr} {g : Addr → Option Obj} {s : Shared} (h : ∀ a, g a = s.heap.get? a) : obsP n p g = (hookP n p).obs s := by
  have e : g = s.heap.get? := funext h
  rw [e] <;> rfl
/-- what is raised where nothing may be raised -/
theorem cx_never {prog : Program} {w : World} {H : Hp} {s s' : Shared} {u : Value} (z : L2.CX prog w [] H s (fun _ _ _ => False) u s') : False := by
  obtain ⟨a, B, H', cls, dd, _, _, _, _, _, _, _, z⟩ := z
  exact z
/-- the law's def, called at the script -/
theorem law_callG {prog : Program} {w : World} {K : PySem.W.Frag} {mg mb : Str → Option Value} {n : Nat} {fa sa : Addr} {fd : FuncData} {x : Str} {sp : Sp} {st : Shared} {us : List Value} {ns : List Int} (kin : K.In st.heap) (n1 : st.heap.Ns mainGlobals mg)
    (n2 : st.heap.Ns builtinsNs mb) (n3 : ∀ y : Str, y ≠ "__name__" → mb y = bootBuiltins y) (n4 : st.heap.NoLimit) (hg : st.gens = #[]) (hs : st.heap.get? sa = some { cls := .type "list", data := .seq us.toArray }) (hi : IntsAre us ns) (hz : ns.length ≤ sizeLine) (hr : Room n callerA)
    (F : ∀ base : Heap, K.In base → base.Ns mainGlobals mg → FnG prog w K mg base n fa fd [x] sp) (bd : ∀ (s : Shared) (u : Value), BindsTo s fd ⟨[u], []⟩ [(x, u)])
    (hp : ∀ H : Hp, Only H → SqL K H sa (ns.map V.int) → sp [.ref sa] H (fun v _ => v = .bl true) fun _ _ _ => False) :
    codeAny (model prog w) callerA (.call (.ref fa) ⟨[.ref sa], []⟩) (fun r s' => r = .ok (.ret (.bool true)) ∧ OldK st.heap s'.heap ∧ s'.os = st.os ∧ AllBare s'.gens) st := by
  have ri := vals_ints hi
  have main : ∀ H : Hp, Only H → SqL K H sa (ns.map V.int) → HOk prog w H st.heap → (∀ b u, H b = some u → b = sa ∧ K.lookup sa = none) →
      codeAny (model prog w) callerA (.call (.ref fa) ⟨[.ref sa], []⟩) (fun r s' => r = .ok (.ret (.bool true)) ∧ OldK st.heap s'.heap ∧ s'.os = st.os ∧ AllBare s'.gens) st := by
    intro H only sq ok at_
    have dict_free : ∀ {b : Addr} {o : Obj} {es : Array DictEntry} {ep : Nat}, st.heap.get? b = some o → o.data = .dict es ep → H b = none := by
      intro b o es ep z y
      match q : H b with
      | none => rfl
      | some u =>
        rw [(at_ b u q).1, hs] at z
        cases z
        exact nomatch y
    have keepN : ∀ {b : Addr} {m : Str → Option Value}, st.heap.Ns b m → (hidT st.heap H).Ns b m := by
      rintro b m ⟨o, es, ep, z, y, r⟩
      exact ⟨o, es, ep, hidT_get z (dict_free z y), y, r⟩
    have kb : K.In (hidT st.heap H) := by
      intro b o z
      refine hidT_get (kin b o z) ?_
      match q : H b with
      | none => rfl
      | some u =>
        obtain ⟨y1, y2⟩ := at_ b u q
        rw [y1, y2] at z
        exact nomatch z
    have lim : (hidT st.heap H).NoLimit := by
      obtain ⟨mc, y1, y2⟩ := n4
      exact ⟨mc, keepN y1, y2⟩
    have e0 : Env0 prog w K mg (hidT st.heap H) callerA [] st H :=
      { frames := rfl, mod := ⟨kb, keepN n1, ⟨mb, keepN n2, n3⟩, lim⟩, bs := fun b o z => of_hidT z, bsz := Nat.le_of_eq (hidT_size _ _), funs := trivial, frf := (fun b z => nomatch (show b ∈ ([] : List Addr) from z)), hok := ok, bare := .of_eq hg }
    have run := (F _ kb (keepN n1)).go callerA [] st H ⟨[.ref sa], []⟩ [.ref sa] [.ref sa] _ _ rfl hr e0 (bd st (.ref sa)) (.cons rfl .nil) (hp H only sq)
    refine codeAny_mono run fun r s' z => ?_
    match r, z with
    | .error e, z => exact (cx_never z).elim
    | .ok .next, z => exact z.elim
    | .ok .brk, z => exact z.elim
    | .ok .cont, z => exact z.elim
    | .ok (.ret u), ⟨v, H2, y1, y2, y3, y4, y5, y6⟩ =>
      have y6' : v = .bl true := y6
      subst y6'
      obtain rfl : u = Value.bool true := y5
      refine ⟨rfl, OldK.of_keep fun b o z => ?_, y1, y2⟩
      match q : H b with
      | none => exact y3.keep b o z q (fun m => nomatch (show b ∈ ([] : List Addr) from m)) (fun m => nomatch m)
      | some c =>
        obtain q2 | ⟨ob, l, q2⟩ := only b
        · rw [q] at q2; exact nomatch q2
        · have o1 := (ok b _ q2).1
          have o2 := (y4 b _ (y3.frzs b ob _ q2)).1
          rw [z] at o1
          cases o1
          exact o2
  match e : K.lookup sa with
  | some o =>
    have z := kin sa o e
    rw [hs] at z
    cases z
    exact main (fun _ => none) (fun _ => .inl rfl) (.inr ⟨_, us.toArray, _, e, rfl, rfl, rfl, by rw [List.size_toArray, hi.length]; exact hz, by simpa using ri⟩) (fun b u z => nomatch (show (none : Option HO) = some u from z)) (fun b u z => nomatch (show (none : Option HO) = some u from z))
  | none =>
    let o : HO := .frz { cls := .type "list", data := .seq us.toArray } (.lst (ns.map V.int))
    have at1 : ∀ b u, (if b = sa then some o else none) = some u → b = sa ∧ o = u := fun b u z => by
      by_cases y : b = sa
      · rw [if_pos y] at z; exact ⟨y, Option.some.inj z⟩
      · rw [if_neg y] at z; exact nomatch z
    refine main (fun b => if b = sa then some o else none) (fun b => ?_) (.inl (.inr ⟨_, if_pos rfl⟩)) (fun b u z => ?_) (fun b u z => ⟨(at1 b u z).1, e⟩)
    · by_cases y : b = sa
      · exact .inr ⟨_, _, if_pos y⟩
      · exact .inl (if_neg y)
    · obtain ⟨rfl, rfl⟩ := at1 b u z
      exact ⟨hs, by rw [List.length_map]; exact hz, us, _, ri, hs⟩
/-- the end of a law -/
theorem Pr.law {p : Pr} {l : PySem.W.OpenLaw} {q : Program} {loose : List Str} {XP : (Str → Option Value) → Heap → Prop} {d : DefRec} {n : Nat} {x : Str} (hn : l.most = some 63) (hdf : d.params.defaults = []) (hr : Room (2 * n) callerA) (hok : p.ok = true) (hnd : p.nd = true)
    (hb : ∀ r ∈ p.defs, BP r.d) (hnm : d.name = "law") (r : Rw) (hrl : p.row "law" = some r) (hat : r.d.at_ = (("law" : Str), none)) (hx : r.d.params.args.map (·.arg) = [x]) (hdl : r.d.dfl = [])
    (hlaw : ∀ ns : List Int, ns.length ≤ 63 → ∃ S, callN p.P p.gl n "law" [.scr (ns.map D.int)] [] = .ok (.fz (.bl true)) S) :
    PySem.W.WalkO q loose XP (fun w h => ∃ K : PySem.W.Frag, K.In h ∧ He.SaysD p.fa p.fn K ∧ p.clsB K = true) l.row.toRowW d [] (fun f vs => PySem.call f vs) := by
  refine Att.attach_call hn hdf fun w _ st mg mb fa _ _ _ _ sa us ns Gd Y _ _ _ hmg hs hin hl hgn => ?_
  have G := Gd.T.g
  · obtain ⟨K, KX, c, cb⟩ := Y
    have m1 : r ∈ p.defs := List.mem_of_find?_eq_some hrl
    have e1 : r.d.qual = "law" := by simpa using List.find?_some hrl
    obtain ⟨i, hi, ei⟩ := List.getElem_of_mem m1
    obtain ⟨fd1, F1⟩ := c.def_ i (d := r.d) (by unfold Pr.fn; rw [List.getElem?_map, List.getElem?_eq_getElem hi, ei]; rfl)
    have d1 : r.d.dvs K = [] := by unfold He.DefD.dvs; rw [hdl]; rfl
    have hfs : ("law" : Str) ∈ p.fs := List.mem_map.mpr ⟨r, List.mem_filter.mpr ⟨m1, by unfold isGlo; rw [hat]; rfl⟩, e1⟩
    have gl := He.glo_ok KX G (fact_mem c (fa_fs (List.mem_map.mpr ⟨_, hfs, rfl⟩)))
    have efa : fa = He.fAd K r.d.at_ := by
      rw [hat]
      show fa = He.ga K "law"
      rw [hnm, gl] at hmg
      exact (Value.ref.inj (Option.some.inj hmg)).symm
    subst efa
    refine law_callG KX G Gd.T.b Gd.T.builtins Gd.T.nolimit hgn hs hin (Nat.le_trans hl (by decide)) hr (fun base _ _ => ?_) (fun s u => ?_) (fun H _ hS => ?_) (fd := fd1) (x := x) (sp := spC K mg (callN p.P p.gl n r.d.qual) 1)
    · have := Pr.fn_ok (prog := l.prog) (w := w) (base := base) hok hnd hb KX G c cb n r m1 fd1 F1
      rw [hx] at this
      exact this
    · rw [d1] at F1
      have := F1.bindsA ((hb r m1).none hdl) s [u] (by rw [hx]; rfl)
      rw [hx] at this
      exact this
    · refine ⟨rfl, ⟨[], [], []⟩, [], [.scr (ns.map D.int)], rfl, ⟨rfl, List.nodup_nil, fun n c a e => (nomatch e), fun a z => (nomatch z), fun a z => (nomatch z), fun a z => ?_⟩, .one ?_, ?_⟩
      · rcases z with z | z | z <;> exact (nomatch z)
      · have rn : RDs K ⟨[], [], []⟩ H (ns.map D.int) (ns.map V.int) := by
          clear hS hl hin
          induction ns with
          | nil => exact .nil
          | cons k ks ih => exact .cons (.int k) ih
        rcases hS with hS | hS
        · exact .scr (.inl ⟨hS, fun z => by rcases z with z | z | z <;> exact (nomatch z)⟩) rn
        · exact .scr (.inr fun H' => .inr hS) rn
      · rw [e1]
        obtain ⟨S, e⟩ := hlaw ns hl
        rw [e]
        intro g' H' x k _ _ rv
        exact RD.of_bl rv.2
end Eng
end

section
/-! The engine, part S: the functions, one step at a time. The continuations are constants, so that a rewriting does not look under them. -/
namespace Eng
open PySem L2
section
variable {cf : CF} {gl : Str → Option D} {fr : Frame} {S : Store} {a b c : Xp} {es : Xs} {x y z : D}
theorem ev_con (d : D) : ev cf gl (.con d) fr S = .ok (.fz d) fr S := rfl
theorem ev_var (i : Nat) : ev cf gl (.var i) fr S = varX i fr S := rfl
theorem ev_glo (x : Str) : ev cf gl (.glo x) fr S = RX.lift ((gl x).map Val.fz) fr S := rfl
def kBin2 (k : BK) (x y : D) (fr : Frame) (S : Store) : RX Val := RX.lift (binD k (look S x) (look S y)) fr S
def kBin1 (cf : CF) (gl : Str → Option D) (k : BK) (b : Xp) (x : D) (fr : Frame) (S : Store) : RX Val := (frzX (ev cf gl b fr S)).bind (kBin2 k x)
theorem ev_bin (k : BK) : ev cf gl (.bin k a b) fr S = (frzX (ev cf gl a fr S)).bind (kBin1 cf gl k b) := rfl
theorem kBin1_eq (k : BK) : kBin1 cf gl k b x fr S = (frzX (ev cf gl b fr S)).bind (kBin2 k x) := rfl
theorem kBin2_eq (k : BK) : kBin2 k x y fr S = RX.lift (binD k (look S x) (look S y)) fr S := rfl
def blF (r : Bool) : Val := .fz (.bl r)
def kCmp2 (k : CK) (x y : D) (fr : Frame) (S : Store) : RX Val := RX.lift ((cmpD k (look S x) (look S y)).map blF) fr S
def kCmp1 (cf : CF) (gl : Str → Option D) (k : CK) (b : Xp) (x : D) (fr : Frame) (S : Store) : RX Val := (frzX (ev cf gl b fr S)).bind (kCmp2 k x)
theorem ev_cmp (k : CK) : ev cf gl (.cmp k a b) fr S = (frzX (ev cf gl a fr S)).bind (kCmp1 cf gl k b) := rfl
theorem kCmp1_eq (k : CK) : kCmp1 cf gl k b x fr S = (frzX (ev cf gl b fr S)).bind (kCmp2 k x) := rfl
theorem kCmp2_eq (k : CK) : kCmp2 k x y fr S = RX.lift ((cmpD k (look S x) (look S y)).map blF) fr S := rfl
def kCh3 (cf : CF) (gl : Str → Option D) (l : CK) (c : Xp) (y : D) (o : Option Bool) (fr : Frame) (S : Store) : RX Val := match o with
  | some true => (frzX (ev cf gl c fr S)).bind (kCmp2 l y)
  | some false => .ok (.fz (.bl false)) fr S
  | none => .no
def kCh2 (cf : CF) (gl : Str → Option D) (k l : CK) (c : Xp) (x y : D) (fr : Frame) (S : Store) : RX Val := kCh3 cf gl l c y (cmpD k (look S x) (look S y)) fr S
def kCh1 (cf : CF) (gl : Str → Option D) (k l : CK) (b c : Xp) (x : D) (fr : Frame) (S : Store) : RX Val := (frzX (ev cf gl b fr S)).bind (kCh2 cf gl k l c x)
theorem ev_chain (k l : CK) : ev cf gl (.chain k l a b c) fr S = (frzX (ev cf gl a fr S)).bind (kCh1 cf gl k l b c) := by
  show (frzX (ev cf gl a fr S)).bind _ = _
  cases frzX (ev cf gl a fr S) with
  | ok x f s =>
    show (frzX (ev cf gl b f s)).bind _ = (frzX (ev cf gl b f s)).bind _
    cases frzX (ev cf gl b f s) with
    | ok y f2 s2 =>
      show (match cmpD k (look s2 x) (look s2 y) with | some true => _ | some false => _ | none => _) = kCh3 cf gl l c y (cmpD k (look s2 x) (look s2 y)) f2 s2
      cases cmpD k (look s2 x) (look s2 y) with
      | none => rfl
      | some t => cases t <;> rfl
    | ex e f s => rfl
    | no => rfl
  | ex e f s => rfl
  | no => rfl
theorem kCh1_eq (k l : CK) : kCh1 cf gl k l b c x fr S = (frzX (ev cf gl b fr S)).bind (kCh2 cf gl k l c x) := rfl
theorem kCh2_eq (k l : CK) : kCh2 cf gl k l c x y fr S = kCh3 cf gl l c y (cmpD k (look S x) (look S y)) fr S := rfl
theorem kCh3_t (l : CK) : kCh3 cf gl l c y (some true) fr S = (frzX (ev cf gl c fr S)).bind (kCmp2 l y) := rfl
theorem kCh3_f (l : CK) : kCh3 cf gl l c y (some false) fr S = .ok (.fz (.bl false)) fr S := rfl
def kNot (x : D) (fr : Frame) (S : Store) : RX Val := match x with | .bl b => .ok (.fz (.bl (!b))) fr S | _ => .no
theorem ev_not : ev cf gl (.not a) fr S = (frzX (ev cf gl a fr S)).bind kNot := rfl
theorem kNot_eq (t : Bool) : kNot (.bl t) fr S = .ok (.fz (.bl (!t))) fr S := rfl
def kAnd (cf : CF) (gl : Str → Option D) (b : Xp) (x : D) (fr : Frame) (S : Store) : RX Val := match x with | .bl true => ev cf gl b fr S | .bl false => .ok (.fz (.bl false)) fr S | _ => .no
theorem ev_and : ev cf gl (.and a b) fr S = (frzX (ev cf gl a fr S)).bind (kAnd cf gl b) := rfl
theorem kAnd_t : kAnd cf gl b (.bl true) fr S = ev cf gl b fr S := rfl
theorem kAnd_f : kAnd cf gl b (.bl false) fr S = .ok (.fz (.bl false)) fr S := rfl
def kOr (cf : CF) (gl : Str → Option D) (b : Xp) (x : D) (fr : Frame) (S : Store) : RX Val := match x with | .bl true => .ok (.fz (.bl true)) fr S | .bl false => ev cf gl b fr S | _ => .no
theorem ev_or : ev cf gl (.or a b) fr S = (frzX (ev cf gl a fr S)).bind (kOr cf gl b) := rfl
theorem kOr_t : kOr cf gl b (.bl true) fr S = .ok (.fz (.bl true)) fr S := rfl
theorem kOr_f : kOr cf gl b (.bl false) fr S = ev cf gl b fr S := rfl
def kIfe (cf : CF) (gl : Str → Option D) (a b : Xp) (t : Bool) (fr : Frame) (S : Store) : RX Val := match t with | true => ev cf gl a fr S | false => ev cf gl b fr S
theorem ev_ife : ev cf gl (.ife c a b) fr S = (evT cf gl c fr S).bind (kIfe cf gl a b) := rfl
theorem kIfe_t : kIfe cf gl a b true fr S = ev cf gl a fr S := rfl
theorem kIfe_f : kIfe cf gl a b false fr S = ev cf gl b fr S := rfl
def kTup (xs : List D) (fr : Frame) (S : Store) : RX Val := if xs.length ≤ sizeLine then .ok (.fz (.tup xs)) fr S else .no
theorem ev_tup : ev cf gl (.tup es) fr S = (evs cf gl es fr S).bind kTup := rfl
theorem kTup_eq {xs : List D} (h : xs.length ≤ sizeLine) : kTup xs fr S = .ok (.fz (.tup xs)) fr S := if_pos h
theorem kTup_0 : kTup [] fr S = .ok (.fz (.tup [])) fr S := if_pos (by show 0 ≤ sizeLine; decide)
theorem kTup_1 (x0 : D) : kTup [x0] fr S = .ok (.fz (.tup [x0])) fr S := if_pos (by show 1 ≤ sizeLine; decide)
theorem kTup_2 (x0 x1 : D) : kTup [x0, x1] fr S = .ok (.fz (.tup [x0, x1])) fr S := if_pos (by show 2 ≤ sizeLine; decide)
theorem kTup_3 (x0 x1 x2 : D) : kTup [x0, x1, x2] fr S = .ok (.fz (.tup [x0, x1, x2])) fr S := if_pos (by show 3 ≤ sizeLine; decide)
theorem kTup_4 (x0 x1 x2 x3 : D) : kTup [x0, x1, x2, x3] fr S = .ok (.fz (.tup [x0, x1, x2, x3])) fr S := if_pos (by show 4 ≤ sizeLine; decide)
theorem kTup_5 (x0 x1 x2 x3 x4 : D) : kTup [x0, x1, x2, x3, x4] fr S = .ok (.fz (.tup [x0, x1, x2, x3, x4])) fr S := if_pos (by show 5 ≤ sizeLine; decide)
theorem kTup_6 (x0 x1 x2 x3 x4 x5 : D) : kTup [x0, x1, x2, x3, x4, x5] fr S = .ok (.fz (.tup [x0, x1, x2, x3, x4, x5])) fr S := if_pos (by show 6 ≤ sizeLine; decide)
theorem kTup_7 (x0 x1 x2 x3 x4 x5 x6 : D) : kTup [x0, x1, x2, x3, x4, x5, x6] fr S = .ok (.fz (.tup [x0, x1, x2, x3, x4, x5, x6])) fr S := if_pos (by show 7 ≤ sizeLine; decide)
def kLst (xs : List D) (fr : Frame) (S : Store) : RX Val := if xs.length ≤ sizeLine then .ok (.own (.lst xs)) fr S else .no
theorem ev_lst : ev cf gl (.lst es) fr S = (evs cf gl es fr S).bind kLst := rfl
theorem kLst_0 : kLst [] fr S = .ok (.own (.lst [])) fr S := if_pos (by show 0 ≤ sizeLine; decide)
theorem kLst_1 (x0 : D) : kLst [x0] fr S = .ok (.own (.lst [x0])) fr S := if_pos (by show 1 ≤ sizeLine; decide)
theorem kLst_2 (x0 x1 : D) : kLst [x0, x1] fr S = .ok (.own (.lst [x0, x1])) fr S := if_pos (by show 2 ≤ sizeLine; decide)
theorem kLst_3 (x0 x1 x2 : D) : kLst [x0, x1, x2] fr S = .ok (.own (.lst [x0, x1, x2])) fr S := if_pos (by show 3 ≤ sizeLine; decide)
theorem kLst_4 (x0 x1 x2 x3 : D) : kLst [x0, x1, x2, x3] fr S = .ok (.own (.lst [x0, x1, x2, x3])) fr S := if_pos (by show 4 ≤ sizeLine; decide)
theorem kLst_5 (x0 x1 x2 x3 x4 : D) : kLst [x0, x1, x2, x3, x4] fr S = .ok (.own (.lst [x0, x1, x2, x3, x4])) fr S := if_pos (by show 5 ≤ sizeLine; decide)
theorem kLst_6 (x0 x1 x2 x3 x4 x5 : D) : kLst [x0, x1, x2, x3, x4, x5] fr S = .ok (.own (.lst [x0, x1, x2, x3, x4, x5])) fr S := if_pos (by show 6 ≤ sizeLine; decide)
theorem kLst_7 (x0 x1 x2 x3 x4 x5 x6 : D) : kLst [x0, x1, x2, x3, x4, x5, x6] fr S = .ok (.own (.lst [x0, x1, x2, x3, x4, x5, x6])) fr S := if_pos (by show 7 ≤ sizeLine; decide)
theorem kLst_8 (x0 x1 x2 x3 x4 x5 x6 x7 : D) : kLst [x0, x1, x2, x3, x4, x5, x6, x7] fr S = .ok (.own (.lst [x0, x1, x2, x3, x4, x5, x6, x7])) fr S := if_pos (by show 8 ≤ sizeLine; decide)
theorem kLst_9 (x0 x1 x2 x3 x4 x5 x6 x7 x8 : D) : kLst [x0, x1, x2, x3, x4, x5, x6, x7, x8] fr S = .ok (.own (.lst [x0, x1, x2, x3, x4, x5, x6, x7, x8])) fr S := if_pos (by show 9 ≤ sizeLine; decide)
theorem kLst_10 (x0 x1 x2 x3 x4 x5 x6 x7 x8 x9 : D) : kLst [x0, x1, x2, x3, x4, x5, x6, x7, x8, x9] fr S = .ok (.own (.lst [x0, x1, x2, x3, x4, x5, x6, x7, x8, x9])) fr S := if_pos (by show 10 ≤ sizeLine; decide)
theorem kLst_11 (x0 x1 x2 x3 x4 x5 x6 x7 x8 x9 x10 : D) : kLst [x0, x1, x2, x3, x4, x5, x6, x7, x8, x9, x10] fr S = .ok (.own (.lst [x0, x1, x2, x3, x4, x5, x6, x7, x8, x9, x10])) fr S := if_pos (by show 11 ≤ sizeLine; decide)
theorem kLst_12 (x0 x1 x2 x3 x4 x5 x6 x7 x8 x9 x10 x11 : D) : kLst [x0, x1, x2, x3, x4, x5, x6, x7, x8, x9, x10, x11] fr S = .ok (.own (.lst [x0, x1, x2, x3, x4, x5, x6, x7, x8, x9, x10, x11])) fr S := if_pos (by show 12 ≤ sizeLine; decide)
def kSub2 (x y : D) (fr : Frame) (S : Store) : RX Val := RX.lift ((subD (look S x) y).map Val.fz) fr S
def kSub1 (cf : CF) (gl : Str → Option D) (b : Xp) (x : D) (fr : Frame) (S : Store) : RX Val := (frzX (ev cf gl b fr S)).bind (kSub2 x)
theorem ev_sub : ev cf gl (.sub a b) fr S = (frzX (ev cf gl a fr S)).bind (kSub1 cf gl b) := rfl
theorem kSub1_eq : kSub1 cf gl b x fr S = (frzX (ev cf gl b fr S)).bind (kSub2 x) := rfl
theorem kSub2_eq : kSub2 x y fr S = RX.lift ((subD (look S x) y).map Val.fz) fr S := rfl
def kSl3 (x : D) (l h : Option Int) (fr : Frame) (S : Store) : RX Val := RX.lift (sliceD l h (look S x)) fr S
def kSl2 (cf : CF) (gl : Str → Option D) (c : Xp) (x : D) (l : Option Int) (fr : Frame) (S : Store) : RX Val := (evO c (ev cf gl c) fr S).bind (kSl3 x l)
def kSl1 (cf : CF) (gl : Str → Option D) (b c : Xp) (x : D) (fr : Frame) (S : Store) : RX Val := (evO b (ev cf gl b) fr S).bind (kSl2 cf gl c x)
theorem ev_slice : ev cf gl (.slice a b c) fr S = (frzX (ev cf gl a fr S)).bind (kSl1 cf gl b c) := rfl
theorem kSl1_eq : kSl1 cf gl b c x fr S = (evO b (ev cf gl b) fr S).bind (kSl2 cf gl c x) := rfl
theorem kSl2_eq (l : Option Int) : kSl2 cf gl c x l fr S = (evO c (ev cf gl c) fr S).bind (kSl3 x l) := rfl
theorem kSl3_eq (l h : Option Int) : kSl3 x l h fr S = RX.lift (sliceD l h (look S x)) fr S := rfl
def kCall (cf : CF) (f : Str) (xs : List D) (fr : Frame) (S : Store) : RX Val := (cf f xs S).back fr
theorem ev_call (f : Str) : ev cf gl (.call f es) fr S = (evs cf gl es fr S).bind (kCall cf f) := rfl
theorem kCall_eq (f : Str) (xs : List D) : kCall cf f xs fr S = (cf f xs S).back fr := rfl
def kBlt (k : FK) (xs : List D) (fr : Frame) (S : Store) : RX Val := RX.lift (bltD k (xs.map (look S))) fr S
theorem ev_blt (k : FK) : ev cf gl (.blt k es) fr S = (evs cf gl es fr S).bind (kBlt k) := rfl
theorem kBlt_1 (k : FK) : kBlt k [x] fr S = RX.lift (bltD k [look S x]) fr S := rfl
theorem kBlt_2 (k : FK) : kBlt k [x, y] fr S = RX.lift (bltD k [look S x, look S y]) fr S := rfl
def kIsi (t : TK) (x : D) (fr : Frame) (S : Store) : RX Val := RX.lift ((isD t x).map blF) fr S
theorem ev_isi (t : TK) : ev cf gl (.isi t a) fr S = (frzX (ev cf gl a fr S)).bind (kIsi t) := rfl
theorem kIsi_eq (t : TK) : kIsi t x fr S = RX.lift ((isD t x).map blF) fr S := rfl
def oBlt (k : FK) : Option D → Option Val := fun o => o.bind fun d => bltD k [d]
theorem ev_bltv (k : FK) (i : Nat) : ev cf gl (.bltv k i) fr S = RX.lift (oBlt k (peek i fr S)) fr S := rfl
theorem oBlt_some (k : FK) (d : D) : oBlt k (some d) = bltD k [d] := rfl
def oSub (y : D) : Option D → Option Val := fun o => o.bind fun d => (subD d y).map Val.fz
def kSubv2 (i : Nat) (y : D) (fr : Frame) (S : Store) : RX Val := RX.lift (oSub y (peek i fr S)) fr S
def kSubv (cf : CF) (gl : Str → Option D) (i : Nat) (b : Xp) (o : Option D) (fr : Frame) (S : Store) : RX Val := if o.isSome then (frzX (ev cf gl b fr S)).bind (kSubv2 i) else .no
theorem ev_subv (i : Nat) : ev cf gl (.subv i b) fr S = kSubv cf gl i b (peek i fr S) fr S := rfl
theorem kSubv_some (i : Nat) (d : D) : kSubv cf gl i b (some d) fr S = (frzX (ev cf gl b fr S)).bind (kSubv2 i) := rfl
theorem kSubv2_eq (i : Nat) : kSubv2 i y fr S = RX.lift (oSub y (peek i fr S)) fr S := rfl
theorem oSub_some (d : D) : oSub y (some d) = (subD d y).map Val.fz := rfl
def oCmp (k : CK) (x : D) : Option D → Option Val := fun o => o.bind fun d => (cmpD k x d).map blF
def kCmpv (k : CK) (i : Nat) (x : D) (fr : Frame) (S : Store) : RX Val := RX.lift (oCmp k (look S x) (peek i fr S)) fr S
theorem ev_cmpv (k : CK) (i : Nat) : ev cf gl (.cmpv k a i) fr S = (frzX (ev cf gl a fr S)).bind (kCmpv k i) := rfl
theorem kCmpv_eq (k : CK) (i : Nat) : kCmpv k i x fr S = RX.lift (oCmp k (look S x) (peek i fr S)) fr S := rfl
theorem oCmp_some (k : CK) (d : D) : oCmp k x (some d) = (cmpD k x d).map blF := rfl
def kPop (cf : CF) (gl : Str → Option D) (i : Nat) (b : Xp) (t : Bool) (fr : Frame) (S : Store) : RX Val := if t then (frzX (ev cf gl b fr S)).bind (popX i) else .no
theorem ev_popv (i : Nat) : ev cf gl (.popv i b) fr S = kPop cf gl i b (ownL i fr) fr S := rfl
theorem kPop_t (i : Nat) : kPop cf gl i b true fr S = (frzX (ev cf gl b fr S)).bind (popX i) := rfl
/-- a comprehension's element -/
def eltX (cf : CF) (gl : Str → Option D) (m : Xp) (fr : Frame) (S : Store) : RX D := frzX (ev cf gl m fr S)
def compOut (fr : Frame) (vs : List Nat) : RX (List D) → RX Val
  | .ok acc fr' S' => .ok (.own (.lst acc)) (backF fr fr' vs) S'
  | _ => .no
def kComp (cf : CF) (gl : Str → Option D) (a : Xp) (tg : Tg) (es : Xs) (ds : List D) (fr : Frame) (S : Store) : RX Val := if calmF fr tg.slots then compOut fr tg.slots (compGo tg (evC cf gl es) (eltX cf gl a) ds [] (wipeF fr tg.slots) S) else .no
theorem ev_comp (tg : Tg) (it : Wk) : ev cf gl (.comp a tg it es) fr S = (evW cf gl it fr S).bind (kComp cf gl a tg es) := by
  show (evW cf gl it fr S).bind _ = _
  cases evW cf gl it fr S with
  | ok ds f s =>
    show (if calmF f tg.slots then _ else _) = (if calmF f tg.slots then _ else _)
    by_cases h : calmF f tg.slots = true
    · rw [if_pos h, if_pos h]
      show (match compGo tg (evC cf gl es) (eltX cf gl a) ds [] (wipeF f tg.slots) s with | .ok acc fr' S' => _ | _ => _) = compOut f tg.slots (compGo tg (evC cf gl es) (eltX cf gl a) ds [] (wipeF f tg.slots) s)
      cases compGo tg (evC cf gl es) (eltX cf gl a) ds [] (wipeF f tg.slots) s <;> rfl
    · rw [if_neg h, if_neg h]
  | ex e f s => rfl
  | no => rfl
theorem kComp_eq {tg : Tg} {ds : List D} (h : calmF fr tg.slots = true) : kComp cf gl a tg es ds fr S = compOut fr tg.slots (compGo tg (evC cf gl es) (eltX cf gl a) ds [] (wipeF fr tg.slots) S) := if_pos h
theorem compOut_ok (vs : List Nat) (acc : List D) (f : Frame) : compOut fr vs (.ok acc f S) = .ok (.own (.lst acc)) (backF fr f vs) S := rfl
def kShare (v : Val) (fr : Frame) (S : Store) : RX Val := match v with | .own c => .ok (.fz (.ref S.length)) fr (S ++ [c]) | _ => .no
theorem ev_share : ev cf gl (.share a) fr S = (ev cf gl a fr S).bind kShare := rfl
theorem kShare_eq (cl : Cell) : kShare (.own cl) fr S = .ok (.fz (.ref S.length)) fr (S ++ [cl]) := rfl
def kListrg (y : D) (fr : Frame) (S : Store) : RX Val := match y with
  | .int j => if rgOk 0 j = true ∧ j.toNat ≤ 2 ^ 24 then .ok (.own (.lst (rgD 0 j))) fr S else .no
  | _ => .no
theorem ev_listrg : ev cf gl (.listrg b) fr S = (frzX (ev cf gl b fr S)).bind kListrg := rfl
theorem kListrg_eq {j : Int} (h : rgOk 0 j = true ∧ j.toNat ≤ 2 ^ 24) : kListrg (.int j) fr S = .ok (.own (.lst (rgD 0 j))) fr S := if_pos h
def kLenset (x : D) (fr : Frame) (S : Store) : RX Val := RX.lift (lensetD x) fr S
theorem ev_lenset : ev cf gl (.lenset a) fr S = (frzX (ev cf gl a fr S)).bind kLenset := rfl
theorem kLenset_eq : kLenset x fr S = RX.lift (lensetD x) fr S := rfl
def kNeg (x : D) (fr : Frame) (S : Store) : RX Val := match x with | .int i => .ok (.fz (.int (-i))) fr S | _ => .no
theorem ev_neg : ev cf gl (.neg a) fr S = (frzX (ev cf gl a fr S)).bind kNeg := rfl
theorem kNeg_eq (i : Int) : kNeg (.int i) fr S = .ok (.fz (.int (-i))) fr S := rfl
def kRev (x : D) (fr : Frame) (S : Store) : RX Val := RX.lift (revD x) fr S
theorem ev_rev : ev cf gl (.rev a) fr S = (frzX (ev cf gl a fr S)).bind kRev := rfl
theorem kRev_eq : kRev x fr S = RX.lift (revD x) fr S := rfl
theorem rev_lst (xs : List D) : revD (.lst xs) = some (.own (.lst xs.reverse)) := rfl
theorem rev_tup (xs : List D) : revD (.tup xs) = some (.fz (.tup xs.reverse)) := rfl
theorem ev_dicK : ev cf gl (.dic0 false) fr S = .ok (.own (.dK [] [])) fr S := rfl
theorem ev_dicT : ev cf gl (.dic0 true) fr S = .ok (.own (.dT [] [])) fr S := rfl
def kSortset (x : D) (fr : Frame) (S : Store) : RX Val := RX.lift (sortsetD x) fr S
theorem ev_sortset : ev cf gl (.sortset a) fr S = (frzX (ev cf gl a fr S)).bind kSortset := rfl
theorem kSortset_eq : kSortset x fr S = RX.lift (sortsetD x) fr S := rfl
def kMind2 (x y : D) (fr : Frame) (S : Store) : RX Val := RX.lift ((mindD x y).map Val.fz) fr S
def kMind1 (cf : CF) (gl : Str → Option D) (b : Xp) (x : D) (fr : Frame) (S : Store) : RX Val := (frzX (ev cf gl b fr S)).bind (kMind2 x)
theorem ev_mind : ev cf gl (.mind a b) fr S = (frzX (ev cf gl a fr S)).bind (kMind1 cf gl b) := rfl
theorem kMind1_eq : kMind1 cf gl b x fr S = (frzX (ev cf gl b fr S)).bind (kMind2 x) := rfl
theorem kMind2_eq : kMind2 x y fr S = RX.lift ((mindD x y).map Val.fz) fr S := rfl
def kCons2 (x : D) (xs : List D) (fr : Frame) (S : Store) : RX (List D) := .ok (x :: xs) fr S
def kCons1 (cf : CF) (gl : Str → Option D) (es : Xs) (x : D) (fr : Frame) (S : Store) : RX (List D) := (evs cf gl es fr S).bind (kCons2 x)
theorem evs_nil : evs cf gl .nil fr S = .ok [] fr S := rfl
theorem evs_cons : evs cf gl (.cons a es) fr S = (frzX (ev cf gl a fr S)).bind (kCons1 cf gl es) := rfl
theorem kCons1_eq : kCons1 cf gl es x fr S = (evs cf gl es fr S).bind (kCons2 x) := rfl
theorem kCons2_eq (xs : List D) : kCons2 x xs fr S = .ok (x :: xs) fr S := rfl
def kO (x : D) (fr : Frame) (S : Store) : RX (Option Int) := RX.lift ((optI x).map some) fr S
theorem evO_omit (f : Frame → Store → RX Val) : evO .omit f fr S = .ok none fr S := rfl
theorem evO_var (i : Nat) (f : Frame → Store → RX Val) : evO (.var i) f fr S = (frzX (f fr S)).bind kO := rfl
theorem evO_neg (f : Frame → Store → RX Val) : evO (.neg a) f fr S = (frzX (f fr S)).bind kO := rfl
theorem evO_con (d : D) (f : Frame → Store → RX Val) : evO (.con d) f fr S = (frzX (f fr S)).bind kO := rfl
theorem evO_bin (k : BK) (f : Frame → Store → RX Val) : evO (.bin k a b) f fr S = (frzX (f fr S)).bind kO := rfl
theorem evO_bltv (k : FK) (i : Nat) (f : Frame → Store → RX Val) : evO (.bltv k i) f fr S = (frzX (f fr S)).bind kO := rfl
theorem evO_subv (i : Nat) (f : Frame → Store → RX Val) : evO (.subv i b) f fr S = (frzX (f fr S)).bind kO := rfl
theorem kO_int (i : Int) : kO (.int i) fr S = .ok (some i) fr S := rfl
theorem evC_nil : evC cf gl .nil fr S = .ok true fr S := rfl
theorem evC_one : evC cf gl (.cons a .nil) fr S = evT cf gl a fr S := rfl
def kNotT (t : Bool) (fr : Frame) (S : Store) : RX Bool := .ok (!t) fr S
theorem evT_not : evT cf gl (.not a) fr S = (evT cf gl a fr S).bind kNotT := rfl
theorem kNotT_eq (t : Bool) : kNotT t fr S = .ok (!t) fr S := rfl
def kAndT (cf : CF) (gl : Str → Option D) (b : Xp) (t : Bool) (fr : Frame) (S : Store) : RX Bool := match t with | true => evT cf gl b fr S | false => .ok false fr S
theorem evT_and : evT cf gl (.and a b) fr S = (evT cf gl a fr S).bind (kAndT cf gl b) := rfl
theorem kAndT_t : kAndT cf gl b true fr S = evT cf gl b fr S := rfl
theorem kAndT_f : kAndT cf gl b false fr S = .ok false fr S := rfl
def kOrT (cf : CF) (gl : Str → Option D) (b : Xp) (t : Bool) (fr : Frame) (S : Store) : RX Bool := match t with | true => .ok true fr S | false => evT cf gl b fr S
theorem evT_or : evT cf gl (.or a b) fr S = (evT cf gl a fr S).bind (kOrT cf gl b) := rfl
theorem kOrT_t : kOrT cf gl b true fr S = .ok true fr S := rfl
theorem kOrT_f : kOrT cf gl b false fr S = evT cf gl b fr S := rfl
def kTru (x : D) (fr : Frame) (S : Store) : RX Bool := RX.lift (truD (look S x)) fr S
theorem kTru_eq : kTru x fr S = RX.lift (truD (look S x)) fr S := rfl
theorem evT_cmp (k : CK) : evT cf gl (.cmp k a b) fr S = (frzX (ev cf gl (.cmp k a b) fr S)).bind kTru := rfl
theorem evT_chain (k l : CK) : evT cf gl (.chain k l a b c) fr S = (frzX (ev cf gl (.chain k l a b c) fr S)).bind kTru := rfl
theorem evT_cmpv (k : CK) (i : Nat) : evT cf gl (.cmpv k a i) fr S = (frzX (ev cf gl (.cmpv k a i) fr S)).bind kTru := rfl
theorem evT_var (i : Nat) : evT cf gl (.var i) fr S = (frzX (ev cf gl (.var i) fr S)).bind kTru := rfl
theorem evT_call (f : Str) : evT cf gl (.call f es) fr S = (frzX (ev cf gl (.call f es) fr S)).bind kTru := rfl
theorem evT_blt (k : FK) : evT cf gl (.blt k es) fr S = (frzX (ev cf gl (.blt k es) fr S)).bind kTru := rfl
theorem evT_isi (t : TK) : evT cf gl (.isi t a) fr S = (frzX (ev cf gl (.isi t a) fr S)).bind kTru := rfl
theorem evT_bltv (k : FK) (i : Nat) : evT cf gl (.bltv k i) fr S = (frzX (ev cf gl (.bltv k i) fr S)).bind kTru := rfl
theorem evT_subv (i : Nat) : evT cf gl (.subv i b) fr S = (frzX (ev cf gl (.subv i b) fr S)).bind kTru := rfl
theorem evT_sub : evT cf gl (.sub a b) fr S = (frzX (ev cf gl (.sub a b) fr S)).bind kTru := rfl
def kSeq (x : D) (fr : Frame) (S : Store) : RX (List D) := match x with | .lst xs => .ok xs fr S | .tup xs => .ok xs fr S | .str z => .ok (signsD z) fr S | _ => .no
theorem evW_seq : evW cf gl (.seq a) fr S = (frzX (ev cf gl a fr S)).bind kSeq := rfl
theorem kSeq_lst (xs : List D) : kSeq (.lst xs) fr S = .ok xs fr S := rfl
theorem kSeq_tup (xs : List D) : kSeq (.tup xs) fr S = .ok xs fr S := rfl
theorem kSeq_str (z : Str) : kSeq (.str z) fr S = .ok (signsD z) fr S := rfl
def kEnm (x : D) (fr : Frame) (S : Store) : RX (List D) := match x with | .lst xs => .ok (enumD xs) fr S | .tup xs => .ok (enumD xs) fr S | _ => .no
theorem evW_enm : evW cf gl (.enm a) fr S = (frzX (ev cf gl a fr S)).bind kEnm := rfl
theorem kEnm_lst (xs : List D) : kEnm (.lst xs) fr S = .ok (enumD xs) fr S := rfl
theorem kEnm_tup (xs : List D) : kEnm (.tup xs) fr S = .ok (enumD xs) fr S := rfl
def kZip2 (x y : D) (fr : Frame) (S : Store) : RX (List D) := match x, y with
  | .lst xs, .lst ys => .ok (zipD xs ys) fr S | .tup xs, .tup ys => .ok (zipD xs ys) fr S | _, _ => .no
def kZip1 (cf : CF) (gl : Str → Option D) (b : Xp) (x : D) (fr : Frame) (S : Store) : RX (List D) := (frzX (ev cf gl b fr S)).bind (kZip2 x)
theorem evW_zip : evW cf gl (.zip a b) fr S = (frzX (ev cf gl a fr S)).bind (kZip1 cf gl b) := rfl
theorem kZip1_eq : kZip1 cf gl b x fr S = (frzX (ev cf gl b fr S)).bind (kZip2 x) := rfl
theorem kZip2_lst (xs ys : List D) : kZip2 (.lst xs) (.lst ys) fr S = .ok (zipD xs ys) fr S := rfl
theorem kZip2_tup (xs ys : List D) : kZip2 (.tup xs) (.tup ys) fr S = .ok (zipD xs ys) fr S := rfl
def kRng3c (x y z : D) (fr : Frame) (S : Store) : RX (List D) := match x, y, z with
  | .int i, .int j, .int k => if k = -1 ∧ rgOk i j = true then .ok (rgN i j) fr S else .no | _, _, _ => .no
def kRng3b (cf : CF) (gl : Str → Option D) (c : Xp) (x y : D) (fr : Frame) (S : Store) : RX (List D) := (frzX (ev cf gl c fr S)).bind (kRng3c x y)
def kRng3a (cf : CF) (gl : Str → Option D) (b c : Xp) (x : D) (fr : Frame) (S : Store) : RX (List D) := (frzX (ev cf gl b fr S)).bind (kRng3b cf gl c x)
theorem evW_rng3 : evW cf gl (.rng3 a b c) fr S = (frzX (ev cf gl a fr S)).bind (kRng3a cf gl b c) := rfl
theorem kRng3a_eq : kRng3a cf gl b c x fr S = (frzX (ev cf gl b fr S)).bind (kRng3b cf gl c x) := rfl
theorem kRng3b_eq : kRng3b cf gl c x y fr S = (frzX (ev cf gl c fr S)).bind (kRng3c x y) := rfl
theorem kRng3_eq {i j : Int} (h : rgOk i j = true) : kRng3c (.int i) (.int j) (.int (-1)) fr S = .ok (rgN i j) fr S := if_pos ⟨rfl, h⟩
def kRng1 (x : D) (fr : Frame) (S : Store) : RX (List D) := match x with | .int j => if rgOk 0 j then .ok (rgD 0 j) fr S else .no | _ => .no
theorem evW_rng1 : evW cf gl (.rng1 a) fr S = (frzX (ev cf gl a fr S)).bind kRng1 := rfl
theorem kRng1_eq {j : Int} (h : rgOk 0 j = true) : kRng1 (.int j) fr S = .ok (rgD 0 j) fr S := if_pos h
end
theorem frzX_fz (d : D) (fr : Frame) (S : Store) : frzX (.ok (.fz d) fr S) = .ok d fr S := rfl
theorem frzX_own (xs : List D) (fr : Frame) (S : Store) : frzX (.ok (.own (.lst xs)) fr S) = .ok (.lst xs) fr S := rfl
theorem frzX_ex (e : Ex) (fr : Frame) (S : Store) : frzX (.ex e fr S) = .ex e fr S := rfl
theorem frzX_no : frzX .no = .no := rfl
theorem b_ok {α β : Type} (a : α) (fr : Frame) (S : Store) (k : α → Frame → Store → RX β) : (RX.ok a fr S).bind k = k a fr S := rfl
theorem b_ex {α β : Type} (e : Ex) (fr : Frame) (S : Store) (k : α → Frame → Store → RX β) : (RX.ex e fr S).bind k = .ex e fr S := rfl
theorem b_no {α β : Type} (k : α → Frame → Store → RX β) : (RX.no : RX α).bind k = .no := rfl
theorem l_some {α : Type} (a : α) (fr : Frame) (S : Store) : RX.lift (some a) fr S = .ok a fr S := rfl
theorem l_none {α : Type} (fr : Frame) (S : Store) : RX.lift (none : Option α) fr S = .no := rfl
theorem bk_ok (fr : Frame) (v : Val) (S : Store) : (RC.ok v S).back fr = .ok v fr S := rfl
theorem bk_ex (fr : Frame) (e : Ex) (S : Store) : (RC.ex e S).back fr = .ex e fr S := rfl
theorem bk_no (fr : Frame) : (RC.no).back fr = .no := rfl
theorem t_ok {α : Type} (a : α) (fr : Frame) (S : Store) (k : α → Frame → Store → RS) : (RX.ok a fr S).thn k = k a fr S := rfl
theorem t_ex {α : Type} (e : Ex) (fr : Frame) (S : Store) (k : α → Frame → Store → RS) : (RX.ex e fr S).thn k = .ex e fr S := rfl
theorem t_no {α : Type} (k : α → Frame → Store → RS) : (RX.no : RX α).thn k = .no := rfl
theorem s_nx (fr : Frame) (S : Store) (k : Frame → Store → RS) : (RS.nx fr S).seq k = k fr S := rfl
theorem s_rt (v : Val) (fr : Frame) (S : Store) (k : Frame → Store → RS) : (RS.rt v fr S).seq k = .rt v fr S := rfl
theorem s_ex (e : Ex) (fr : Frame) (S : Store) (k : Frame → Store → RS) : (RS.ex e fr S).seq k = .ex e fr S := rfl
theorem s_no (k : Frame → Store → RS) : (RS.no).seq k = .no := rfl
theorem d_nx (fr : Frame) (S : Store) : (RS.nx fr S).done = .ok (.fz .non) S := rfl
theorem d_rt (v : Val) (fr : Frame) (S : Store) : (RS.rt v fr S).done = .ok v S := rfl
theorem d_ex (e : Ex) (fr : Frame) (S : Store) : (RS.ex e fr S).done = .ex e S := rfl
theorem lk_non (S : Store) : look S .non = .non := rfl
theorem lk_bl (S : Store) (b : Bool) : look S (.bl b) = .bl b := rfl
theorem lk_int (S : Store) (i : Int) : look S (.int i) = .int i := rfl
theorem lk_str (S : Store) (x : Str) : look S (.str x) = .str x := rfl
theorem lk_lst (S : Store) (xs : List D) : look S (.lst xs) = .lst xs := rfl
theorem lk_tup (S : Store) (xs : List D) : look S (.tup xs) = .tup xs := rfl
theorem lk_scr (S : Store) (xs : List D) : look S (.scr xs) = .scr xs := rfl
theorem lk_dic (S : Store) (ks : List Key) (xs : List D) : look S (.dic ks xs) = .dic ks xs := rfl
theorem tru_bl (b : Bool) : truD (.bl b) = some b := rfl
theorem tru_lst (xs : List D) : truD (.lst xs) = some (!xs.isEmpty) := rfl
theorem blF_eq (r : Bool) : blF r = .fz (.bl r) := rfl
theorem om_some {α β : Type} (f : α → β) (a : α) : Option.map f (some a) = some (f a) := rfl
theorem om_none {α β : Type} (f : α → β) : Option.map f (none : Option α) = none := rfl
section
variable {cf : CF} {gl : Str → Option D} {fr : Frame} {S : Store} {m m2 m3 : Xp} {tg : Tg} {it : Wk} {ss s2 : Sms} {s : Sm} {d o y : D}
def kNx (_ : D) (fr : Frame) (S : Store) : RS := .nx fr S
theorem ex_exp : ex cf gl (.exp m) fr S = (frzX (ev cf gl m fr S)).thn kNx := rfl
theorem kNx_eq : kNx d fr S = .nx fr S := rfl
def kSet (i : Nat) (v : Val) (fr : Frame) (S : Store) : RS := .nx (fr.set i (some v)) S
theorem ex_set (i : Nat) : ex cf gl (.set i m) fr S = (ev cf gl m fr S).thn (kSet i) := rfl
theorem kSet_eq (i : Nat) (v : Val) : kSet i v fr S = .nx (fr.set i (some v)) S := rfl
def oNx (S : Store) : Option Frame → RS
  | some fr => .nx fr S
  | none => .no
def kAsg (tg : Tg) (d : D) (fr : Frame) (S : Store) : RS := oNx S (asg tg d fr)
theorem ex_asg : ex cf gl (.asg tg m) fr S = (frzX (ev cf gl m fr S)).thn (kAsg tg) := by
  show (frzX (ev cf gl m fr S)).thn _ = _
  cases frzX (ev cf gl m fr S) with
  | ok d f s =>
    show (match asg tg d f with | some fr' => RS.nx fr' s | none => .no) = oNx s (asg tg d f)
    cases asg tg d f <;> rfl
  | ex e f s => rfl
  | no => rfl
theorem kAsg_eq : kAsg tg d fr S = oNx S (asg tg d fr) := rfl
theorem oNx_some (f : Frame) : oNx S (some f) = .nx f S := rfl
def kRt (v : Val) (fr : Frame) (S : Store) : RS := .rt v fr S
theorem ex_ret : ex cf gl (.ret m) fr S = (retX m (ev cf gl m) fr S).thn kRt := rfl
theorem kRt_eq (v : Val) : kRt v fr S = .rt v fr S := rfl
theorem ex_retN : ex cf gl .retN fr S = .rt (.fz .non) fr S := rfl
def kCond (cf : CF) (gl : Str → Option D) (a b : Sms) (t : Bool) (fr : Frame) (S : Store) : RS := match t with | true => exs cf gl a fr S | false => exs cf gl b fr S
theorem ex_cond : ex cf gl (.cond m ss s2) fr S = (evT cf gl m fr S).thn (kCond cf gl ss s2) := rfl
theorem kCond_t : kCond cf gl ss s2 true fr S = exs cf gl ss fr S := rfl
theorem kCond_f : kCond cf gl ss s2 false fr S = exs cf gl s2 fr S := rfl
def kLoop (tg : Tg) (body : Frame → Store → RS) (ds : List D) (fr : Frame) (S : Store) : RS := loopGo tg body ds fr S
theorem ex_loop : ex cf gl (.loop tg it ss) fr S = (evW cf gl it fr S).thn (kLoop tg (exs cf gl ss)) := rfl
theorem kLoop_eq (body : Frame → Store → RS) (ds : List D) : kLoop tg body ds fr S = loopGo tg body ds fr S := rfl
theorem ex_raise (x : Str) : ex cf gl (.raise x) fr S = .ex ⟨x, [], []⟩ fr S := rfl
def kApp (cf : CF) (gl : Str → Option D) (i : Nat) (m : Xp) (t : Bool) (fr : Frame) (S : Store) : RS := if t then (frzX (ev cf gl m fr S)).thn (appX i) else .no
theorem ex_appv (i : Nat) : ex cf gl (.appv i m) fr S = kApp cf gl i m (ownL i fr) fr S := rfl
theorem kApp_t (i : Nat) : kApp cf gl i m true fr S = (frzX (ev cf gl m fr S)).thn (appX i) := rfl
def kExt (cf : CF) (gl : Str → Option D) (i : Nat) (m : Xp) (t : Bool) (fr : Frame) (S : Store) : RS := if t then (frzX (ev cf gl m fr S)).thn (extX i) else .no
theorem ex_extv (i : Nat) : ex cf gl (.extv i m) fr S = kExt cf gl i m (ownL i fr) fr S := rfl
theorem kExt_t (i : Nat) : kExt cf gl i m true fr S = (frzX (ev cf gl m fr S)).thn (extX i) := rfl
def kSetv2 (i : Nat) (d y : D) (fr : Frame) (S : Store) : RS := setX i y d fr S
def kSetv1 (cf : CF) (gl : Str → Option D) (i : Nat) (m2 : Xp) (d : D) (t : Bool) (fr : Frame) (S : Store) : RS := if t then (frzX (ev cf gl m2 fr S)).thn (kSetv2 i d) else .no
def kSetv (cf : CF) (gl : Str → Option D) (i : Nat) (m2 : Xp) (d : D) (fr : Frame) (S : Store) : RS := kSetv1 cf gl i m2 d (ownL i fr) fr S
theorem ex_setv (i : Nat) : ex cf gl (.setv i m2 m) fr S = (frzX (ev cf gl m fr S)).thn (kSetv cf gl i m2) := rfl
theorem kSetv_eq (i : Nat) : kSetv cf gl i m2 d fr S = kSetv1 cf gl i m2 d (ownL i fr) fr S := rfl
theorem kSetv1_t (i : Nat) : kSetv1 cf gl i m2 d true fr S = (frzX (ev cf gl m2 fr S)).thn (kSetv2 i d) := rfl
theorem kSetv2_eq (i : Nat) : kSetv2 i d y fr S = setX i y d fr S := rfl
def kSetr3 (d o y : D) (fr : Frame) (S : Store) : RS := setrX o y d fr S
def kSetr2 (cf : CF) (gl : Str → Option D) (m2 : Xp) (d o : D) (fr : Frame) (S : Store) : RS := (frzX (ev cf gl m2 fr S)).thn (kSetr3 d o)
def kSetr1 (cf : CF) (gl : Str → Option D) (m3 m2 : Xp) (d : D) (fr : Frame) (S : Store) : RS := (frzX (ev cf gl m3 fr S)).thn (kSetr2 cf gl m2 d)
theorem ex_setr : ex cf gl (.setr m3 m2 m) fr S = (frzX (ev cf gl m fr S)).thn (kSetr1 cf gl m3 m2) := rfl
theorem kSetr1_eq : kSetr1 cf gl m3 m2 d fr S = (frzX (ev cf gl m3 fr S)).thn (kSetr2 cf gl m2 d) := rfl
theorem kSetr2_eq : kSetr2 cf gl m2 d o fr S = (frzX (ev cf gl m2 fr S)).thn (kSetr3 d o) := rfl
theorem kSetr3_eq : kSetr3 d o y fr S = setrX o y d fr S := rfl
def kPar2 (i j : Nat) (v w : Val) (fr : Frame) (S : Store) : RS := .nx ((fr.set i (some v)).set j (some w)) S
def kPar1 (cf : CF) (gl : Str → Option D) (i j : Nat) (m : Xp) (v : Val) (fr : Frame) (S : Store) : RS := (ev cf gl m fr S).thn (kPar2 i j v)
theorem ex_par (i j : Nat) : ex cf gl (.par i j m m2) fr S = (ev cf gl m fr S).thn (kPar1 cf gl i j m2) := rfl
theorem kPar1_eq (i j : Nat) (v : Val) : kPar1 cf gl i j m v fr S = (ev cf gl m fr S).thn (kPar2 i j v) := rfl
theorem kPar2_eq (i j : Nat) (v w : Val) : kPar2 i j v w fr S = .nx ((fr.set i (some v)).set j (some w)) S := rfl
def kSetd2 (i : Nat) (d y : D) (fr : Frame) (S : Store) : RS := setdX i y d fr S
def kSetd1 (cf : CF) (gl : Str → Option D) (i : Nat) (m2 : Xp) (d : D) (t : Bool) (fr : Frame) (S : Store) : RS := if t then (frzX (ev cf gl m2 fr S)).thn (kSetd2 i d) else .no
def kSetd (cf : CF) (gl : Str → Option D) (i : Nat) (m2 : Xp) (d : D) (fr : Frame) (S : Store) : RS := kSetd1 cf gl i m2 d (ownT i fr) fr S
theorem ex_setd (i : Nat) : ex cf gl (.setd i m2 m) fr S = (frzX (ev cf gl m fr S)).thn (kSetd cf gl i m2) := rfl
theorem kSetd_eq (i : Nat) : kSetd cf gl i m2 d fr S = kSetd1 cf gl i m2 d (ownT i fr) fr S := rfl
theorem kSetd1_t (i : Nat) : kSetd1 cf gl i m2 d true fr S = (frzX (ev cf gl m2 fr S)).thn (kSetd2 i d) := rfl
theorem kSetd2_eq (i : Nat) : kSetd2 i d y fr S = setdX i y d fr S := rfl
theorem ex_pass : ex cf gl .pass fr S = .nx fr S := rfl
theorem exs_nil : exs cf gl .nil fr S = .nx fr S := rfl
theorem exs_cons : exs cf gl (.cons s ss) fr S = (ex cf gl s fr S).seq (exs cf gl ss) := rfl
theorem ret_con (d : D) (f : Frame → Store → RX Val) : retX (.con d) f = f := rfl
theorem ret_bin (k : BK) (f : Frame → Store → RX Val) : retX (.bin k m m2) f = f := rfl
theorem ret_cmp (k : CK) (f : Frame → Store → RX Val) : retX (.cmp k m m2) f = f := rfl
theorem ret_chain (k l : CK) (f : Frame → Store → RX Val) : retX (.chain k l m m2 m3) f = f := rfl
theorem ret_not (f : Frame → Store → RX Val) : retX (.not m) f = f := rfl
theorem ret_and (f : Frame → Store → RX Val) : retX (.and m m2) f = f := rfl
theorem ret_or (f : Frame → Store → RX Val) : retX (.or m m2) f = f := rfl
theorem ret_ife (f : Frame → Store → RX Val) : retX (.ife m m2 m3) f = f := rfl
theorem ret_tup (es : Xs) (f : Frame → Store → RX Val) : retX (.tup es) f = f := rfl
theorem ret_lst (es : Xs) (f : Frame → Store → RX Val) : retX (.lst es) f = f := rfl
theorem ret_sub (f : Frame → Store → RX Val) : retX (.sub m m2) f = f := rfl
theorem ret_slice (f : Frame → Store → RX Val) : retX (.slice m m2 m3) f = f := rfl
theorem ret_call (f' : Str) (es : Xs) (f : Frame → Store → RX Val) : retX (.call f' es) f = f := rfl
theorem ret_blt (k : FK) (es : Xs) (f : Frame → Store → RX Val) : retX (.blt k es) f = f := rfl
theorem ret_isi (t : TK) (f : Frame → Store → RX Val) : retX (.isi t m) f = f := rfl
theorem ret_bltv (k : FK) (i : Nat) (f : Frame → Store → RX Val) : retX (.bltv k i) f = f := rfl
theorem ret_subv (i : Nat) (f : Frame → Store → RX Val) : retX (.subv i m) f = f := rfl
theorem ret_cmpv (k : CK) (i : Nat) (f : Frame → Store → RX Val) : retX (.cmpv k m i) f = f := rfl
theorem ret_popv (i : Nat) (f : Frame → Store → RX Val) : retX (.popv i m) f = f := rfl
theorem ret_comp (es : Xs) (f : Frame → Store → RX Val) : retX (.comp m tg it es) f = f := rfl
theorem ret_share (f : Frame → Store → RX Val) : retX (.share m) f = f := rfl
theorem ret_glo (x : Str) (f : Frame → Store → RX Val) : retX (.glo x) f = f := rfl
end
/-- a name read, by its slot -/
theorem varX_fz {i : Nat} {fr : Frame} {S : Store} {d : D} (h : fr[i]? = some (some (.fz d))) : varX i fr S = .ok (.fz d) fr S := by
  unfold varX; rw [h]
theorem callN_run {P : Str → Option Df} {gl : Str → Option D} {n : Nat} {f : Str} {d : Df} {xs : List D} {S : Store} (h : P f = some d) (hl : (d.pad xs).length = d.ps) :
    callN P gl (n + 1) f xs S = (exs (callN P gl n) gl d.body (d.start (d.pad xs)) S).done := by
  show (match P f with | some d => runDf (callN P gl n) gl d xs S | none => .no) = _
  rw [h]
  show (if (d.pad xs).length = d.ps then _ else RC.no) = _
  rw [if_pos hl]
section
variable {S : Store} {r : Frame} {d e : D} {xs : List D} {o : Option Val} {i : Nat}
theorem vx0 : varX 0 (some (.fz d) :: r) S = .ok (.fz d) (some (.fz d) :: r) S := rfl
theorem vo0 : varX 0 (some (.own (.lst xs)) :: r) S = .ok (.fz (.lst xs)) (some (.fz (.lst xs)) :: r) S := rfl
theorem pk0 : peek 0 (some (.fz d) :: r) S = some (look S d) := rfl
theorem po0 : peek 0 (some (.own (.lst xs)) :: r) S = some (.lst xs) := rfl
theorem ol0 : ownL 0 (some (.own (.lst xs)) :: r) = true := rfl
theorem rf0 (f : Frame → Store → RX Val) : retX (.var 0) f (some (.fz d) :: r) S = .ok (.fz d) (some (.fz d) :: r) S := rfl
theorem ro0 (f : Frame → Store → RX Val) (c : Cell) : retX (.var 0) f (some (.own c) :: r) S = .ok (.own c) (none :: r) S := rfl
theorem st0 (v : Option Val) : List.set (o :: r) 0 v = v :: r := rfl
theorem vx1 (o0 : Option Val) : varX 1 (o0 :: some (.fz d) :: r) S = .ok (.fz d) (o0 :: some (.fz d) :: r) S := rfl
theorem vo1 (o0 : Option Val) : varX 1 (o0 :: some (.own (.lst xs)) :: r) S = .ok (.fz (.lst xs)) (o0 :: some (.fz (.lst xs)) :: r) S := rfl
theorem pk1 (o0 : Option Val) : peek 1 (o0 :: some (.fz d) :: r) S = some (look S d) := rfl
theorem po1 (o0 : Option Val) : peek 1 (o0 :: some (.own (.lst xs)) :: r) S = some (.lst xs) := rfl
theorem ol1 (o0 : Option Val) : ownL 1 (o0 :: some (.own (.lst xs)) :: r) = true := rfl
theorem rf1 (o0 : Option Val) (f : Frame → Store → RX Val) : retX (.var 1) f (o0 :: some (.fz d) :: r) S = .ok (.fz d) (o0 :: some (.fz d) :: r) S := rfl
theorem ro1 (o0 : Option Val) (f : Frame → Store → RX Val) (c : Cell) : retX (.var 1) f (o0 :: some (.own c) :: r) S = .ok (.own c) (o0 :: none :: r) S := rfl
theorem st1 (o0 : Option Val) (v : Option Val) : List.set (o0 :: o :: r) 1 v = o0 :: v :: r := rfl
theorem vx2 (o0 o1 : Option Val) : varX 2 (o0 :: o1 :: some (.fz d) :: r) S = .ok (.fz d) (o0 :: o1 :: some (.fz d) :: r) S := rfl
theorem vo2 (o0 o1 : Option Val) : varX 2 (o0 :: o1 :: some (.own (.lst xs)) :: r) S = .ok (.fz (.lst xs)) (o0 :: o1 :: some (.fz (.lst xs)) :: r) S := rfl
theorem pk2 (o0 o1 : Option Val) : peek 2 (o0 :: o1 :: some (.fz d) :: r) S = some (look S d) := rfl
theorem po2 (o0 o1 : Option Val) : peek 2 (o0 :: o1 :: some (.own (.lst xs)) :: r) S = some (.lst xs) := rfl
theorem ol2 (o0 o1 : Option Val) : ownL 2 (o0 :: o1 :: some (.own (.lst xs)) :: r) = true := rfl
theorem rf2 (o0 o1 : Option Val) (f : Frame → Store → RX Val) : retX (.var 2) f (o0 :: o1 :: some (.fz d) :: r) S = .ok (.fz d) (o0 :: o1 :: some (.fz d) :: r) S := rfl
theorem ro2 (o0 o1 : Option Val) (f : Frame → Store → RX Val) (c : Cell) : retX (.var 2) f (o0 :: o1 :: some (.own c) :: r) S = .ok (.own c) (o0 :: o1 :: none :: r) S := rfl
theorem st2 (o0 o1 : Option Val) (v : Option Val) : List.set (o0 :: o1 :: o :: r) 2 v = o0 :: o1 :: v :: r := rfl
theorem vx3 (o0 o1 o2 : Option Val) : varX 3 (o0 :: o1 :: o2 :: some (.fz d) :: r) S = .ok (.fz d) (o0 :: o1 :: o2 :: some (.fz d) :: r) S := rfl
theorem vo3 (o0 o1 o2 : Option Val) : varX 3 (o0 :: o1 :: o2 :: some (.own (.lst xs)) :: r) S = .ok (.fz (.lst xs)) (o0 :: o1 :: o2 :: some (.fz (.lst xs)) :: r) S := rfl
theorem pk3 (o0 o1 o2 : Option Val) : peek 3 (o0 :: o1 :: o2 :: some (.fz d) :: r) S = some (look S d) := rfl
theorem po3 (o0 o1 o2 : Option Val) : peek 3 (o0 :: o1 :: o2 :: some (.own (.lst xs)) :: r) S = some (.lst xs) := rfl
theorem ol3 (o0 o1 o2 : Option Val) : ownL 3 (o0 :: o1 :: o2 :: some (.own (.lst xs)) :: r) = true := rfl
theorem rf3 (o0 o1 o2 : Option Val) (f : Frame → Store → RX Val) : retX (.var 3) f (o0 :: o1 :: o2 :: some (.fz d) :: r) S = .ok (.fz d) (o0 :: o1 :: o2 :: some (.fz d) :: r) S := rfl
theorem ro3 (o0 o1 o2 : Option Val) (f : Frame → Store → RX Val) (c : Cell) : retX (.var 3) f (o0 :: o1 :: o2 :: some (.own c) :: r) S = .ok (.own c) (o0 :: o1 :: o2 :: none :: r) S := rfl
theorem st3 (o0 o1 o2 : Option Val) (v : Option Val) : List.set (o0 :: o1 :: o2 :: o :: r) 3 v = o0 :: o1 :: o2 :: v :: r := rfl
theorem vx4 (o0 o1 o2 o3 : Option Val) : varX 4 (o0 :: o1 :: o2 :: o3 :: some (.fz d) :: r) S = .ok (.fz d) (o0 :: o1 :: o2 :: o3 :: some (.fz d) :: r) S := rfl
theorem vo4 (o0 o1 o2 o3 : Option Val) : varX 4 (o0 :: o1 :: o2 :: o3 :: some (.own (.lst xs)) :: r) S = .ok (.fz (.lst xs)) (o0 :: o1 :: o2 :: o3 :: some (.fz (.lst xs)) :: r) S := rfl
theorem pk4 (o0 o1 o2 o3 : Option Val) : peek 4 (o0 :: o1 :: o2 :: o3 :: some (.fz d) :: r) S = some (look S d) := rfl
theorem po4 (o0 o1 o2 o3 : Option Val) : peek 4 (o0 :: o1 :: o2 :: o3 :: some (.own (.lst xs)) :: r) S = some (.lst xs) := rfl
theorem ol4 (o0 o1 o2 o3 : Option Val) : ownL 4 (o0 :: o1 :: o2 :: o3 :: some (.own (.lst xs)) :: r) = true := rfl
theorem rf4 (o0 o1 o2 o3 : Option Val) (f : Frame → Store → RX Val) : retX (.var 4) f (o0 :: o1 :: o2 :: o3 :: some (.fz d) :: r) S = .ok (.fz d) (o0 :: o1 :: o2 :: o3 :: some (.fz d) :: r) S := rfl
theorem ro4 (o0 o1 o2 o3 : Option Val) (f : Frame → Store → RX Val) (c : Cell) : retX (.var 4) f (o0 :: o1 :: o2 :: o3 :: some (.own c) :: r) S = .ok (.own c) (o0 :: o1 :: o2 :: o3 :: none :: r) S := rfl
theorem st4 (o0 o1 o2 o3 : Option Val) (v : Option Val) : List.set (o0 :: o1 :: o2 :: o3 :: o :: r) 4 v = o0 :: o1 :: o2 :: o3 :: v :: r := rfl
theorem vx5 (o0 o1 o2 o3 o4 : Option Val) : varX 5 (o0 :: o1 :: o2 :: o3 :: o4 :: some (.fz d) :: r) S = .ok (.fz d) (o0 :: o1 :: o2 :: o3 :: o4 :: some (.fz d) :: r) S := rfl
theorem vo5 (o0 o1 o2 o3 o4 : Option Val) : varX 5 (o0 :: o1 :: o2 :: o3 :: o4 :: some (.own (.lst xs)) :: r) S = .ok (.fz (.lst xs)) (o0 :: o1 :: o2 :: o3 :: o4 :: some (.fz (.lst xs)) :: r) S := rfl
theorem pk5 (o0 o1 o2 o3 o4 : Option Val) : peek 5 (o0 :: o1 :: o2 :: o3 :: o4 :: some (.fz d) :: r) S = some (look S d) := rfl
theorem po5 (o0 o1 o2 o3 o4 : Option Val) : peek 5 (o0 :: o1 :: o2 :: o3 :: o4 :: some (.own (.lst xs)) :: r) S = some (.lst xs) := rfl
theorem ol5 (o0 o1 o2 o3 o4 : Option Val) : ownL 5 (o0 :: o1 :: o2 :: o3 :: o4 :: some (.own (.lst xs)) :: r) = true := rfl
theorem rf5 (o0 o1 o2 o3 o4 : Option Val) (f : Frame → Store → RX Val) : retX (.var 5) f (o0 :: o1 :: o2 :: o3 :: o4 :: some (.fz d) :: r) S = .ok (.fz d) (o0 :: o1 :: o2 :: o3 :: o4 :: some (.fz d) :: r) S := rfl
theorem ro5 (o0 o1 o2 o3 o4 : Option Val) (f : Frame → Store → RX Val) (c : Cell) : retX (.var 5) f (o0 :: o1 :: o2 :: o3 :: o4 :: some (.own c) :: r) S = .ok (.own c) (o0 :: o1 :: o2 :: o3 :: o4 :: none :: r) S := rfl
theorem st5 (o0 o1 o2 o3 o4 : Option Val) (v : Option Val) : List.set (o0 :: o1 :: o2 :: o3 :: o4 :: o :: r) 5 v = o0 :: o1 :: o2 :: o3 :: o4 :: v :: r := rfl
theorem vx6 (o0 o1 o2 o3 o4 o5 : Option Val) : varX 6 (o0 :: o1 :: o2 :: o3 :: o4 :: o5 :: some (.fz d) :: r) S = .ok (.fz d) (o0 :: o1 :: o2 :: o3 :: o4 :: o5 :: some (.fz d) :: r) S := rfl
theorem vo6 (o0 o1 o2 o3 o4 o5 : Option Val) : varX 6 (o0 :: o1 :: o2 :: o3 :: o4 :: o5 :: some (.own (.lst xs)) :: r) S = .ok (.fz (.lst xs)) (o0 :: o1 :: o2 :: o3 :: o4 :: o5 :: some (.fz (.lst xs)) :: r) S := rfl
theorem pk6 (o0 o1 o2 o3 o4 o5 : Option Val) : peek 6 (o0 :: o1 :: o2 :: o3 :: o4 :: o5 :: some (.fz d) :: r) S = some (look S d) := rfl
theorem po6 (o0 o1 o2 o3 o4 o5 : Option Val) : peek 6 (o0 :: o1 :: o2 :: o3 :: o4 :: o5 :: some (.own (.lst xs)) :: r) S = some (.lst xs) := rfl
theorem ol6 (o0 o1 o2 o3 o4 o5 : Option Val) : ownL 6 (o0 :: o1 :: o2 :: o3 :: o4 :: o5 :: some (.own (.lst xs)) :: r) = true := rfl
theorem rf6 (o0 o1 o2 o3 o4 o5 : Option Val) (f : Frame → Store → RX Val) : retX (.var 6) f (o0 :: o1 :: o2 :: o3 :: o4 :: o5 :: some (.fz d) :: r) S = .ok (.fz d) (o0 :: o1 :: o2 :: o3 :: o4 :: o5 :: some (.fz d) :: r) S := rfl
theorem ro6 (o0 o1 o2 o3 o4 o5 : Option Val) (f : Frame → Store → RX Val) (c : Cell) : retX (.var 6) f (o0 :: o1 :: o2 :: o3 :: o4 :: o5 :: some (.own c) :: r) S = .ok (.own c) (o0 :: o1 :: o2 :: o3 :: o4 :: o5 :: none :: r) S := rfl
theorem st6 (o0 o1 o2 o3 o4 o5 : Option Val) (v : Option Val) : List.set (o0 :: o1 :: o2 :: o3 :: o4 :: o5 :: o :: r) 6 v = o0 :: o1 :: o2 :: o3 :: o4 :: o5 :: v :: r := rfl
theorem vx7 (o0 o1 o2 o3 o4 o5 o6 : Option Val) : varX 7 (o0 :: o1 :: o2 :: o3 :: o4 :: o5 :: o6 :: some (.fz d) :: r) S = .ok (.fz d) (o0 :: o1 :: o2 :: o3 :: o4 :: o5 :: o6 :: some (.fz d) :: r) S := rfl
theorem vo7 (o0 o1 o2 o3 o4 o5 o6 : Option Val) : varX 7 (o0 :: o1 :: o2 :: o3 :: o4 :: o5 :: o6 :: some (.own (.lst xs)) :: r) S = .ok (.fz (.lst xs)) (o0 :: o1 :: o2 :: o3 :: o4 :: o5 :: o6 :: some (.fz (.lst xs)) :: r) S := rfl
theorem pk7 (o0 o1 o2 o3 o4 o5 o6 : Option Val) : peek 7 (o0 :: o1 :: o2 :: o3 :: o4 :: o5 :: o6 :: some (.fz d) :: r) S = some (look S d) := rfl
theorem po7 (o0 o1 o2 o3 o4 o5 o6 : Option Val) : peek 7 (o0 :: o1 :: o2 :: o3 :: o4 :: o5 :: o6 :: some (.own (.lst xs)) :: r) S = some (.lst xs) := rfl
theorem ol7 (o0 o1 o2 o3 o4 o5 o6 : Option Val) : ownL 7 (o0 :: o1 :: o2 :: o3 :: o4 :: o5 :: o6 :: some (.own (.lst xs)) :: r) = true := rfl
theorem rf7 (o0 o1 o2 o3 o4 o5 o6 : Option Val) (f : Frame → Store → RX Val) : retX (.var 7) f (o0 :: o1 :: o2 :: o3 :: o4 :: o5 :: o6 :: some (.fz d) :: r) S = .ok (.fz d) (o0 :: o1 :: o2 :: o3 :: o4 :: o5 :: o6 :: some (.fz d) :: r) S := rfl
theorem ro7 (o0 o1 o2 o3 o4 o5 o6 : Option Val) (f : Frame → Store → RX Val) (c : Cell) : retX (.var 7) f (o0 :: o1 :: o2 :: o3 :: o4 :: o5 :: o6 :: some (.own c) :: r) S = .ok (.own c) (o0 :: o1 :: o2 :: o3 :: o4 :: o5 :: o6 :: none :: r) S := rfl
theorem st7 (o0 o1 o2 o3 o4 o5 o6 : Option Val) (v : Option Val) : List.set (o0 :: o1 :: o2 :: o3 :: o4 :: o5 :: o6 :: o :: r) 7 v = o0 :: o1 :: o2 :: o3 :: o4 :: o5 :: o6 :: v :: r := rfl
theorem vx8 (o0 o1 o2 o3 o4 o5 o6 o7 : Option Val) : varX 8 (o0 :: o1 :: o2 :: o3 :: o4 :: o5 :: o6 :: o7 :: some (.fz d) :: r) S = .ok (.fz d) (o0 :: o1 :: o2 :: o3 :: o4 :: o5 :: o6 :: o7 :: some (.fz d) :: r) S := rfl
theorem vo8 (o0 o1 o2 o3 o4 o5 o6 o7 : Option Val) : varX 8 (o0 :: o1 :: o2 :: o3 :: o4 :: o5 :: o6 :: o7 :: some (.own (.lst xs)) :: r) S = .ok (.fz (.lst xs)) (o0 :: o1 :: o2 :: o3 :: o4 :: o5 :: o6 :: o7 :: some (.fz (.lst xs)) :: r) S := rfl
theorem pk8 (o0 o1 o2 o3 o4 o5 o6 o7 : Option Val) : peek 8 (o0 :: o1 :: o2 :: o3 :: o4 :: o5 :: o6 :: o7 :: some (.fz d) :: r) S = some (look S d) := rfl
theorem po8 (o0 o1 o2 o3 o4 o5 o6 o7 : Option Val) : peek 8 (o0 :: o1 :: o2 :: o3 :: o4 :: o5 :: o6 :: o7 :: some (.own (.lst xs)) :: r) S = some (.lst xs) := rfl
theorem ol8 (o0 o1 o2 o3 o4 o5 o6 o7 : Option Val) : ownL 8 (o0 :: o1 :: o2 :: o3 :: o4 :: o5 :: o6 :: o7 :: some (.own (.lst xs)) :: r) = true := rfl
theorem rf8 (o0 o1 o2 o3 o4 o5 o6 o7 : Option Val) (f : Frame → Store → RX Val) : retX (.var 8) f (o0 :: o1 :: o2 :: o3 :: o4 :: o5 :: o6 :: o7 :: some (.fz d) :: r) S = .ok (.fz d) (o0 :: o1 :: o2 :: o3 :: o4 :: o5 :: o6 :: o7 :: some (.fz d) :: r) S := rfl
theorem ro8 (o0 o1 o2 o3 o4 o5 o6 o7 : Option Val) (f : Frame → Store → RX Val) (c : Cell) : retX (.var 8) f (o0 :: o1 :: o2 :: o3 :: o4 :: o5 :: o6 :: o7 :: some (.own c) :: r) S = .ok (.own c) (o0 :: o1 :: o2 :: o3 :: o4 :: o5 :: o6 :: o7 :: none :: r) S := rfl
theorem st8 (o0 o1 o2 o3 o4 o5 o6 o7 : Option Val) (v : Option Val) : List.set (o0 :: o1 :: o2 :: o3 :: o4 :: o5 :: o6 :: o7 :: o :: r) 8 v = o0 :: o1 :: o2 :: o3 :: o4 :: o5 :: o6 :: o7 :: v :: r := rfl
theorem look_at {n : Nat} (h : S[n]? = some (.lst xs)) : look S (.ref n) = .lst xs := by
  show lookC n S[n]? = _
  rw [h]; rfl
theorem atD_lit {xs : List D} {x : D} (j : Nat) (h : xs[j]? = some x) : atD xs (j : Int) = some x := atI_nat h
theorem bin_mulI {i j : Int} (h : (-(2 ^ 64) < i ∧ i < 2 ^ 64) ∨ (-(2 ^ 64) < j ∧ j < 2 ^ 64)) : binD .mul (.int i) (.int j) = some (.fz (.int (i * j))) := by
  show (if _ then _ else _) = _
  rw [if_pos h]
theorem bin_modI {i j : Int} (h : 0 < j) : binD .mod (.int i) (.int j) = some (.fz (.int (i % j))) := by
  show (if _ then _ else _) = _
  rw [if_pos h]
theorem bin_fdivI {i j : Int} (h : 0 < j ∧ j < 1073741824) : binD .fdiv (.int i) (.int j) = some (.fz (.int (i / j))) := by
  show (if _ then _ else _) = _
  rw [if_pos h]
theorem sub_lst (j : Int) : subD (.lst xs) (.int j) = atD xs j := rfl
theorem sub_tup (j : Int) : subD (.tup xs) (.int j) = atD xs j := rfl
theorem sub_scr (j : Int) : subD (.scr xs) (.int j) = atD xs j := rfl
theorem c_eqI (i j : Int) : cmpD .eq (.int i) (.int j) = some (i == j) := rfl
theorem c_neI (i j : Int) : cmpD .ne (.int i) (.int j) = some (!(i == j)) := rfl
theorem c_ltI (i j : Int) : cmpD .lt (.int i) (.int j) = some (decide (i < j)) := rfl
theorem c_leI (i j : Int) : cmpD .le (.int i) (.int j) = some (decide (i ≤ j)) := rfl
theorem c_gtI (i j : Int) : cmpD .gt (.int i) (.int j) = some (decide (j < i)) := rfl
theorem c_geI (i j : Int) : cmpD .ge (.int i) (.int j) = some (decide (j ≤ i)) := rfl
theorem c_isN (d : D) : cmpD .isN d .non = some d.isNon := rfl
theorem c_isnN (d : D) : cmpD .isnN d .non = some (!d.isNon) := rfl
theorem b_addI (i j : Int) : binD .add (.int i) (.int j) = some (.fz (.int (i + j))) := rfl
theorem b_subI (i j : Int) : binD .sub (.int i) (.int j) = some (.fz (.int (i - j))) := rfl
theorem len_lst : bltD .len [.lst xs] = some (.fz (.int xs.length)) := rfl
theorem len_tup : bltD .len [.tup xs] = some (.fz (.int xs.length)) := rfl
theorem len_scr : bltD .len [.scr xs] = some (.fz (.int xs.length)) := rfl
theorem tuple_lst : bltD .tuple [.lst xs] = some (.fz (.tup xs)) := rfl
theorem tuple_tup : bltD .tuple [.tup xs] = some (.fz (.tup xs)) := rfl
theorem list_lst : bltD .list [.lst xs] = some (.own (.lst xs)) := rfl
theorem list_tup : bltD .list [.tup xs] = some (.own (.lst xs)) := rfl
theorem int_int (i : Int) : bltD .int [.int i] = some (.fz (.int i)) := rfl
theorem int_bl (b : Bool) : bltD .int [.bl b] = some (.fz (.int (if b then 1 else 0))) := rfl
theorem max_I (i j : Int) : bltD .max2 [.int i, .int j] = some (.fz (.int (if j > i then j else i))) := rfl
theorem min_I (i j : Int) : bltD .min2 [.int i, .int j] = some (.fz (.int (if j < i then j else i))) := rfl
theorem slice_tup (l h : Option Int) : sliceD l h (.tup xs) = some (.fz (.tup (cutD xs l h))) := rfl
theorem slice_lst (l h : Option Int) : sliceD l h (.lst xs) = some (.own (.lst (cutD xs l h))) := rfl
theorem at1_0  (x0 : D) : atD [x0] 0 = some x0 := rfl
theorem at2_0  (x0 x1 : D) : atD [x0, x1] 0 = some x0 := rfl
theorem at2_1  (x0 x1 : D) : atD [x0, x1] 1 = some x1 := rfl
theorem at3_0  (x0 x1 x2 : D) : atD [x0, x1, x2] 0 = some x0 := rfl
theorem at3_1  (x0 x1 x2 : D) : atD [x0, x1, x2] 1 = some x1 := rfl
theorem at3_2  (x0 x1 x2 : D) : atD [x0, x1, x2] 2 = some x2 := rfl
theorem at4_0  (x0 x1 x2 x3 : D) : atD [x0, x1, x2, x3] 0 = some x0 := rfl
theorem at4_1  (x0 x1 x2 x3 : D) : atD [x0, x1, x2, x3] 1 = some x1 := rfl
theorem at4_2  (x0 x1 x2 x3 : D) : atD [x0, x1, x2, x3] 2 = some x2 := rfl
theorem at4_3  (x0 x1 x2 x3 : D) : atD [x0, x1, x2, x3] 3 = some x3 := rfl
end
end Eng
end

section
/-! The engine, part S2: more slots (printed by gen_engs2.py). -/
namespace Eng
open PySem L2
section
variable {S : Store} {r : Frame} {d : D} {xs : List D} {o : Option Val} {ks : List Key} {kt : List (List Key)}
theorem pd0 : peek 0 (some (.own (.dK ks xs)) :: r) S = some (.dic ks xs) := rfl
theorem pt0 : peek 0 (some (.own (.dT kt xs)) :: r) S = some (.dit kt xs) := rfl
theorem od0 : ownT 0 (some (.own (.dK ks xs)) :: r) = true := rfl
theorem ot0 : ownT 0 (some (.own (.dT kt xs)) :: r) = true := rfl
theorem vd0 : varX 0 (some (.own (.dK ks xs)) :: r) S = .ok (.fz (.dic ks xs)) (some (.fz (.dic ks xs)) :: r) S := rfl
theorem vt0 : varX 0 (some (.own (.dT kt xs)) :: r) S = .ok (.fz (.dit kt xs)) (some (.fz (.dit kt xs)) :: r) S := rfl
theorem pd1 (o0 : Option Val) : peek 1 (o0 :: some (.own (.dK ks xs)) :: r) S = some (.dic ks xs) := rfl
theorem pt1 (o0 : Option Val) : peek 1 (o0 :: some (.own (.dT kt xs)) :: r) S = some (.dit kt xs) := rfl
theorem od1 (o0 : Option Val) : ownT 1 (o0 :: some (.own (.dK ks xs)) :: r) = true := rfl
theorem ot1 (o0 : Option Val) : ownT 1 (o0 :: some (.own (.dT kt xs)) :: r) = true := rfl
theorem vd1 (o0 : Option Val) : varX 1 (o0 :: some (.own (.dK ks xs)) :: r) S = .ok (.fz (.dic ks xs)) (o0 :: some (.fz (.dic ks xs)) :: r) S := rfl
theorem vt1 (o0 : Option Val) : varX 1 (o0 :: some (.own (.dT kt xs)) :: r) S = .ok (.fz (.dit kt xs)) (o0 :: some (.fz (.dit kt xs)) :: r) S := rfl
theorem pd2 (o0 o1 : Option Val) : peek 2 (o0 :: o1 :: some (.own (.dK ks xs)) :: r) S = some (.dic ks xs) := rfl
theorem pt2 (o0 o1 : Option Val) : peek 2 (o0 :: o1 :: some (.own (.dT kt xs)) :: r) S = some (.dit kt xs) := rfl
theorem od2 (o0 o1 : Option Val) : ownT 2 (o0 :: o1 :: some (.own (.dK ks xs)) :: r) = true := rfl
theorem ot2 (o0 o1 : Option Val) : ownT 2 (o0 :: o1 :: some (.own (.dT kt xs)) :: r) = true := rfl
theorem vd2 (o0 o1 : Option Val) : varX 2 (o0 :: o1 :: some (.own (.dK ks xs)) :: r) S = .ok (.fz (.dic ks xs)) (o0 :: o1 :: some (.fz (.dic ks xs)) :: r) S := rfl
theorem vt2 (o0 o1 : Option Val) : varX 2 (o0 :: o1 :: some (.own (.dT kt xs)) :: r) S = .ok (.fz (.dit kt xs)) (o0 :: o1 :: some (.fz (.dit kt xs)) :: r) S := rfl
theorem pd3 (o0 o1 o2 : Option Val) : peek 3 (o0 :: o1 :: o2 :: some (.own (.dK ks xs)) :: r) S = some (.dic ks xs) := rfl
theorem pt3 (o0 o1 o2 : Option Val) : peek 3 (o0 :: o1 :: o2 :: some (.own (.dT kt xs)) :: r) S = some (.dit kt xs) := rfl
theorem od3 (o0 o1 o2 : Option Val) : ownT 3 (o0 :: o1 :: o2 :: some (.own (.dK ks xs)) :: r) = true := rfl
theorem ot3 (o0 o1 o2 : Option Val) : ownT 3 (o0 :: o1 :: o2 :: some (.own (.dT kt xs)) :: r) = true := rfl
theorem vd3 (o0 o1 o2 : Option Val) : varX 3 (o0 :: o1 :: o2 :: some (.own (.dK ks xs)) :: r) S = .ok (.fz (.dic ks xs)) (o0 :: o1 :: o2 :: some (.fz (.dic ks xs)) :: r) S := rfl
theorem vt3 (o0 o1 o2 : Option Val) : varX 3 (o0 :: o1 :: o2 :: some (.own (.dT kt xs)) :: r) S = .ok (.fz (.dit kt xs)) (o0 :: o1 :: o2 :: some (.fz (.dit kt xs)) :: r) S := rfl
theorem pd4 (o0 o1 o2 o3 : Option Val) : peek 4 (o0 :: o1 :: o2 :: o3 :: some (.own (.dK ks xs)) :: r) S = some (.dic ks xs) := rfl
theorem pt4 (o0 o1 o2 o3 : Option Val) : peek 4 (o0 :: o1 :: o2 :: o3 :: some (.own (.dT kt xs)) :: r) S = some (.dit kt xs) := rfl
theorem od4 (o0 o1 o2 o3 : Option Val) : ownT 4 (o0 :: o1 :: o2 :: o3 :: some (.own (.dK ks xs)) :: r) = true := rfl
theorem ot4 (o0 o1 o2 o3 : Option Val) : ownT 4 (o0 :: o1 :: o2 :: o3 :: some (.own (.dT kt xs)) :: r) = true := rfl
theorem vd4 (o0 o1 o2 o3 : Option Val) : varX 4 (o0 :: o1 :: o2 :: o3 :: some (.own (.dK ks xs)) :: r) S = .ok (.fz (.dic ks xs)) (o0 :: o1 :: o2 :: o3 :: some (.fz (.dic ks xs)) :: r) S := rfl
theorem vt4 (o0 o1 o2 o3 : Option Val) : varX 4 (o0 :: o1 :: o2 :: o3 :: some (.own (.dT kt xs)) :: r) S = .ok (.fz (.dit kt xs)) (o0 :: o1 :: o2 :: o3 :: some (.fz (.dit kt xs)) :: r) S := rfl
theorem pd5 (o0 o1 o2 o3 o4 : Option Val) : peek 5 (o0 :: o1 :: o2 :: o3 :: o4 :: some (.own (.dK ks xs)) :: r) S = some (.dic ks xs) := rfl
theorem pt5 (o0 o1 o2 o3 o4 : Option Val) : peek 5 (o0 :: o1 :: o2 :: o3 :: o4 :: some (.own (.dT kt xs)) :: r) S = some (.dit kt xs) := rfl
theorem od5 (o0 o1 o2 o3 o4 : Option Val) : ownT 5 (o0 :: o1 :: o2 :: o3 :: o4 :: some (.own (.dK ks xs)) :: r) = true := rfl
theorem ot5 (o0 o1 o2 o3 o4 : Option Val) : ownT 5 (o0 :: o1 :: o2 :: o3 :: o4 :: some (.own (.dT kt xs)) :: r) = true := rfl
theorem vd5 (o0 o1 o2 o3 o4 : Option Val) : varX 5 (o0 :: o1 :: o2 :: o3 :: o4 :: some (.own (.dK ks xs)) :: r) S = .ok (.fz (.dic ks xs)) (o0 :: o1 :: o2 :: o3 :: o4 :: some (.fz (.dic ks xs)) :: r) S := rfl
theorem vt5 (o0 o1 o2 o3 o4 : Option Val) : varX 5 (o0 :: o1 :: o2 :: o3 :: o4 :: some (.own (.dT kt xs)) :: r) S = .ok (.fz (.dit kt xs)) (o0 :: o1 :: o2 :: o3 :: o4 :: some (.fz (.dit kt xs)) :: r) S := rfl
theorem pd6 (o0 o1 o2 o3 o4 o5 : Option Val) : peek 6 (o0 :: o1 :: o2 :: o3 :: o4 :: o5 :: some (.own (.dK ks xs)) :: r) S = some (.dic ks xs) := rfl
theorem pt6 (o0 o1 o2 o3 o4 o5 : Option Val) : peek 6 (o0 :: o1 :: o2 :: o3 :: o4 :: o5 :: some (.own (.dT kt xs)) :: r) S = some (.dit kt xs) := rfl
theorem od6 (o0 o1 o2 o3 o4 o5 : Option Val) : ownT 6 (o0 :: o1 :: o2 :: o3 :: o4 :: o5 :: some (.own (.dK ks xs)) :: r) = true := rfl
theorem ot6 (o0 o1 o2 o3 o4 o5 : Option Val) : ownT 6 (o0 :: o1 :: o2 :: o3 :: o4 :: o5 :: some (.own (.dT kt xs)) :: r) = true := rfl
theorem vd6 (o0 o1 o2 o3 o4 o5 : Option Val) : varX 6 (o0 :: o1 :: o2 :: o3 :: o4 :: o5 :: some (.own (.dK ks xs)) :: r) S = .ok (.fz (.dic ks xs)) (o0 :: o1 :: o2 :: o3 :: o4 :: o5 :: some (.fz (.dic ks xs)) :: r) S := rfl
theorem vt6 (o0 o1 o2 o3 o4 o5 : Option Val) : varX 6 (o0 :: o1 :: o2 :: o3 :: o4 :: o5 :: some (.own (.dT kt xs)) :: r) S = .ok (.fz (.dit kt xs)) (o0 :: o1 :: o2 :: o3 :: o4 :: o5 :: some (.fz (.dit kt xs)) :: r) S := rfl
theorem pd7 (o0 o1 o2 o3 o4 o5 o6 : Option Val) : peek 7 (o0 :: o1 :: o2 :: o3 :: o4 :: o5 :: o6 :: some (.own (.dK ks xs)) :: r) S = some (.dic ks xs) := rfl
theorem pt7 (o0 o1 o2 o3 o4 o5 o6 : Option Val) : peek 7 (o0 :: o1 :: o2 :: o3 :: o4 :: o5 :: o6 :: some (.own (.dT kt xs)) :: r) S = some (.dit kt xs) := rfl
theorem od7 (o0 o1 o2 o3 o4 o5 o6 : Option Val) : ownT 7 (o0 :: o1 :: o2 :: o3 :: o4 :: o5 :: o6 :: some (.own (.dK ks xs)) :: r) = true := rfl
theorem ot7 (o0 o1 o2 o3 o4 o5 o6 : Option Val) : ownT 7 (o0 :: o1 :: o2 :: o3 :: o4 :: o5 :: o6 :: some (.own (.dT kt xs)) :: r) = true := rfl
theorem vd7 (o0 o1 o2 o3 o4 o5 o6 : Option Val) : varX 7 (o0 :: o1 :: o2 :: o3 :: o4 :: o5 :: o6 :: some (.own (.dK ks xs)) :: r) S = .ok (.fz (.dic ks xs)) (o0 :: o1 :: o2 :: o3 :: o4 :: o5 :: o6 :: some (.fz (.dic ks xs)) :: r) S := rfl
theorem vt7 (o0 o1 o2 o3 o4 o5 o6 : Option Val) : varX 7 (o0 :: o1 :: o2 :: o3 :: o4 :: o5 :: o6 :: some (.own (.dT kt xs)) :: r) S = .ok (.fz (.dit kt xs)) (o0 :: o1 :: o2 :: o3 :: o4 :: o5 :: o6 :: some (.fz (.dit kt xs)) :: r) S := rfl
theorem pd8 (o0 o1 o2 o3 o4 o5 o6 o7 : Option Val) : peek 8 (o0 :: o1 :: o2 :: o3 :: o4 :: o5 :: o6 :: o7 :: some (.own (.dK ks xs)) :: r) S = some (.dic ks xs) := rfl
theorem pt8 (o0 o1 o2 o3 o4 o5 o6 o7 : Option Val) : peek 8 (o0 :: o1 :: o2 :: o3 :: o4 :: o5 :: o6 :: o7 :: some (.own (.dT kt xs)) :: r) S = some (.dit kt xs) := rfl
theorem od8 (o0 o1 o2 o3 o4 o5 o6 o7 : Option Val) : ownT 8 (o0 :: o1 :: o2 :: o3 :: o4 :: o5 :: o6 :: o7 :: some (.own (.dK ks xs)) :: r) = true := rfl
theorem ot8 (o0 o1 o2 o3 o4 o5 o6 o7 : Option Val) : ownT 8 (o0 :: o1 :: o2 :: o3 :: o4 :: o5 :: o6 :: o7 :: some (.own (.dT kt xs)) :: r) = true := rfl
theorem vd8 (o0 o1 o2 o3 o4 o5 o6 o7 : Option Val) : varX 8 (o0 :: o1 :: o2 :: o3 :: o4 :: o5 :: o6 :: o7 :: some (.own (.dK ks xs)) :: r) S = .ok (.fz (.dic ks xs)) (o0 :: o1 :: o2 :: o3 :: o4 :: o5 :: o6 :: o7 :: some (.fz (.dic ks xs)) :: r) S := rfl
theorem vt8 (o0 o1 o2 o3 o4 o5 o6 o7 : Option Val) : varX 8 (o0 :: o1 :: o2 :: o3 :: o4 :: o5 :: o6 :: o7 :: some (.own (.dT kt xs)) :: r) S = .ok (.fz (.dit kt xs)) (o0 :: o1 :: o2 :: o3 :: o4 :: o5 :: o6 :: o7 :: some (.fz (.dit kt xs)) :: r) S := rfl
theorem vx9 (o0 o1 o2 o3 o4 o5 o6 o7 o8 : Option Val) : varX 9 (o0 :: o1 :: o2 :: o3 :: o4 :: o5 :: o6 :: o7 :: o8 :: some (.fz d) :: r) S = .ok (.fz d) (o0 :: o1 :: o2 :: o3 :: o4 :: o5 :: o6 :: o7 :: o8 :: some (.fz d) :: r) S := rfl
theorem vo9 (o0 o1 o2 o3 o4 o5 o6 o7 o8 : Option Val) : varX 9 (o0 :: o1 :: o2 :: o3 :: o4 :: o5 :: o6 :: o7 :: o8 :: some (.own (.lst xs)) :: r) S = .ok (.fz (.lst xs)) (o0 :: o1 :: o2 :: o3 :: o4 :: o5 :: o6 :: o7 :: o8 :: some (.fz (.lst xs)) :: r) S := rfl
theorem pk9 (o0 o1 o2 o3 o4 o5 o6 o7 o8 : Option Val) : peek 9 (o0 :: o1 :: o2 :: o3 :: o4 :: o5 :: o6 :: o7 :: o8 :: some (.fz d) :: r) S = some (look S d) := rfl
theorem po9 (o0 o1 o2 o3 o4 o5 o6 o7 o8 : Option Val) : peek 9 (o0 :: o1 :: o2 :: o3 :: o4 :: o5 :: o6 :: o7 :: o8 :: some (.own (.lst xs)) :: r) S = some (.lst xs) := rfl
theorem ol9 (o0 o1 o2 o3 o4 o5 o6 o7 o8 : Option Val) : ownL 9 (o0 :: o1 :: o2 :: o3 :: o4 :: o5 :: o6 :: o7 :: o8 :: some (.own (.lst xs)) :: r) = true := rfl
theorem rf9 (o0 o1 o2 o3 o4 o5 o6 o7 o8 : Option Val) (f : Frame → Store → RX Val) : retX (.var 9) f (o0 :: o1 :: o2 :: o3 :: o4 :: o5 :: o6 :: o7 :: o8 :: some (.fz d) :: r) S = .ok (.fz d) (o0 :: o1 :: o2 :: o3 :: o4 :: o5 :: o6 :: o7 :: o8 :: some (.fz d) :: r) S := rfl
theorem ro9 (o0 o1 o2 o3 o4 o5 o6 o7 o8 : Option Val) (f : Frame → Store → RX Val) (c : Cell) : retX (.var 9) f (o0 :: o1 :: o2 :: o3 :: o4 :: o5 :: o6 :: o7 :: o8 :: some (.own c) :: r) S = .ok (.own c) (o0 :: o1 :: o2 :: o3 :: o4 :: o5 :: o6 :: o7 :: o8 :: none :: r) S := rfl
theorem st9 (o0 o1 o2 o3 o4 o5 o6 o7 o8 : Option Val) (v : Option Val) : List.set (o0 :: o1 :: o2 :: o3 :: o4 :: o5 :: o6 :: o7 :: o8 :: o :: r) 9 v = o0 :: o1 :: o2 :: o3 :: o4 :: o5 :: o6 :: o7 :: o8 :: v :: r := rfl
theorem pd9 (o0 o1 o2 o3 o4 o5 o6 o7 o8 : Option Val) : peek 9 (o0 :: o1 :: o2 :: o3 :: o4 :: o5 :: o6 :: o7 :: o8 :: some (.own (.dK ks xs)) :: r) S = some (.dic ks xs) := rfl
theorem pt9 (o0 o1 o2 o3 o4 o5 o6 o7 o8 : Option Val) : peek 9 (o0 :: o1 :: o2 :: o3 :: o4 :: o5 :: o6 :: o7 :: o8 :: some (.own (.dT kt xs)) :: r) S = some (.dit kt xs) := rfl
theorem od9 (o0 o1 o2 o3 o4 o5 o6 o7 o8 : Option Val) : ownT 9 (o0 :: o1 :: o2 :: o3 :: o4 :: o5 :: o6 :: o7 :: o8 :: some (.own (.dK ks xs)) :: r) = true := rfl
theorem ot9 (o0 o1 o2 o3 o4 o5 o6 o7 o8 : Option Val) : ownT 9 (o0 :: o1 :: o2 :: o3 :: o4 :: o5 :: o6 :: o7 :: o8 :: some (.own (.dT kt xs)) :: r) = true := rfl
theorem vd9 (o0 o1 o2 o3 o4 o5 o6 o7 o8 : Option Val) : varX 9 (o0 :: o1 :: o2 :: o3 :: o4 :: o5 :: o6 :: o7 :: o8 :: some (.own (.dK ks xs)) :: r) S = .ok (.fz (.dic ks xs)) (o0 :: o1 :: o2 :: o3 :: o4 :: o5 :: o6 :: o7 :: o8 :: some (.fz (.dic ks xs)) :: r) S := rfl
theorem vt9 (o0 o1 o2 o3 o4 o5 o6 o7 o8 : Option Val) : varX 9 (o0 :: o1 :: o2 :: o3 :: o4 :: o5 :: o6 :: o7 :: o8 :: some (.own (.dT kt xs)) :: r) S = .ok (.fz (.dit kt xs)) (o0 :: o1 :: o2 :: o3 :: o4 :: o5 :: o6 :: o7 :: o8 :: some (.fz (.dit kt xs)) :: r) S := rfl
theorem vx10 (o0 o1 o2 o3 o4 o5 o6 o7 o8 o9 : Option Val) : varX 10 (o0 :: o1 :: o2 :: o3 :: o4 :: o5 :: o6 :: o7 :: o8 :: o9 :: some (.fz d) :: r) S = .ok (.fz d) (o0 :: o1 :: o2 :: o3 :: o4 :: o5 :: o6 :: o7 :: o8 :: o9 :: some (.fz d) :: r) S := rfl
theorem vo10 (o0 o1 o2 o3 o4 o5 o6 o7 o8 o9 : Option Val) : varX 10 (o0 :: o1 :: o2 :: o3 :: o4 :: o5 :: o6 :: o7 :: o8 :: o9 :: some (.own (.lst xs)) :: r) S = .ok (.fz (.lst xs)) (o0 :: o1 :: o2 :: o3 :: o4 :: o5 :: o6 :: o7 :: o8 :: o9 :: some (.fz (.lst xs)) :: r) S := rfl
theorem pk10 (o0 o1 o2 o3 o4 o5 o6 o7 o8 o9 : Option Val) : peek 10 (o0 :: o1 :: o2 :: o3 :: o4 :: o5 :: o6 :: o7 :: o8 :: o9 :: some (.fz d) :: r) S = some (look S d) := rfl
theorem po10 (o0 o1 o2 o3 o4 o5 o6 o7 o8 o9 : Option Val) : peek 10 (o0 :: o1 :: o2 :: o3 :: o4 :: o5 :: o6 :: o7 :: o8 :: o9 :: some (.own (.lst xs)) :: r) S = some (.lst xs) := rfl
theorem ol10 (o0 o1 o2 o3 o4 o5 o6 o7 o8 o9 : Option Val) : ownL 10 (o0 :: o1 :: o2 :: o3 :: o4 :: o5 :: o6 :: o7 :: o8 :: o9 :: some (.own (.lst xs)) :: r) = true := rfl
theorem rf10 (o0 o1 o2 o3 o4 o5 o6 o7 o8 o9 : Option Val) (f : Frame → Store → RX Val) : retX (.var 10) f (o0 :: o1 :: o2 :: o3 :: o4 :: o5 :: o6 :: o7 :: o8 :: o9 :: some (.fz d) :: r) S = .ok (.fz d) (o0 :: o1 :: o2 :: o3 :: o4 :: o5 :: o6 :: o7 :: o8 :: o9 :: some (.fz d) :: r) S := rfl
theorem ro10 (o0 o1 o2 o3 o4 o5 o6 o7 o8 o9 : Option Val) (f : Frame → Store → RX Val) (c : Cell) : retX (.var 10) f (o0 :: o1 :: o2 :: o3 :: o4 :: o5 :: o6 :: o7 :: o8 :: o9 :: some (.own c) :: r) S = .ok (.own c) (o0 :: o1 :: o2 :: o3 :: o4 :: o5 :: o6 :: o7 :: o8 :: o9 :: none :: r) S := rfl
theorem st10 (o0 o1 o2 o3 o4 o5 o6 o7 o8 o9 : Option Val) (v : Option Val) : List.set (o0 :: o1 :: o2 :: o3 :: o4 :: o5 :: o6 :: o7 :: o8 :: o9 :: o :: r) 10 v = o0 :: o1 :: o2 :: o3 :: o4 :: o5 :: o6 :: o7 :: o8 :: o9 :: v :: r := rfl
theorem pd10 (o0 o1 o2 o3 o4 o5 o6 o7 o8 o9 : Option Val) : peek 10 (o0 :: o1 :: o2 :: o3 :: o4 :: o5 :: o6 :: o7 :: o8 :: o9 :: some (.own (.dK ks xs)) :: r) S = some (.dic ks xs) := rfl
theorem pt10 (o0 o1 o2 o3 o4 o5 o6 o7 o8 o9 : Option Val) : peek 10 (o0 :: o1 :: o2 :: o3 :: o4 :: o5 :: o6 :: o7 :: o8 :: o9 :: some (.own (.dT kt xs)) :: r) S = some (.dit kt xs) := rfl
theorem od10 (o0 o1 o2 o3 o4 o5 o6 o7 o8 o9 : Option Val) : ownT 10 (o0 :: o1 :: o2 :: o3 :: o4 :: o5 :: o6 :: o7 :: o8 :: o9 :: some (.own (.dK ks xs)) :: r) = true := rfl
theorem ot10 (o0 o1 o2 o3 o4 o5 o6 o7 o8 o9 : Option Val) : ownT 10 (o0 :: o1 :: o2 :: o3 :: o4 :: o5 :: o6 :: o7 :: o8 :: o9 :: some (.own (.dT kt xs)) :: r) = true := rfl
theorem vd10 (o0 o1 o2 o3 o4 o5 o6 o7 o8 o9 : Option Val) : varX 10 (o0 :: o1 :: o2 :: o3 :: o4 :: o5 :: o6 :: o7 :: o8 :: o9 :: some (.own (.dK ks xs)) :: r) S = .ok (.fz (.dic ks xs)) (o0 :: o1 :: o2 :: o3 :: o4 :: o5 :: o6 :: o7 :: o8 :: o9 :: some (.fz (.dic ks xs)) :: r) S := rfl
theorem vt10 (o0 o1 o2 o3 o4 o5 o6 o7 o8 o9 : Option Val) : varX 10 (o0 :: o1 :: o2 :: o3 :: o4 :: o5 :: o6 :: o7 :: o8 :: o9 :: some (.own (.dT kt xs)) :: r) S = .ok (.fz (.dit kt xs)) (o0 :: o1 :: o2 :: o3 :: o4 :: o5 :: o6 :: o7 :: o8 :: o9 :: some (.fz (.dit kt xs)) :: r) S := rfl
theorem vx11 (o0 o1 o2 o3 o4 o5 o6 o7 o8 o9 o10 : Option Val) : varX 11 (o0 :: o1 :: o2 :: o3 :: o4 :: o5 :: o6 :: o7 :: o8 :: o9 :: o10 :: some (.fz d) :: r) S = .ok (.fz d) (o0 :: o1 :: o2 :: o3 :: o4 :: o5 :: o6 :: o7 :: o8 :: o9 :: o10 :: some (.fz d) :: r) S := rfl
theorem vo11 (o0 o1 o2 o3 o4 o5 o6 o7 o8 o9 o10 : Option Val) : varX 11 (o0 :: o1 :: o2 :: o3 :: o4 :: o5 :: o6 :: o7 :: o8 :: o9 :: o10 :: some (.own (.lst xs)) :: r) S = .ok (.fz (.lst xs)) (o0 :: o1 :: o2 :: o3 :: o4 :: o5 :: o6 :: o7 :: o8 :: o9 :: o10 :: some (.fz (.lst xs)) :: r) S := rfl
theorem pk11 (o0 o1 o2 o3 o4 o5 o6 o7 o8 o9 o10 : Option Val) : peek 11 (o0 :: o1 :: o2 :: o3 :: o4 :: o5 :: o6 :: o7 :: o8 :: o9 :: o10 :: some (.fz d) :: r) S = some (look S d) := rfl
theorem po11 (o0 o1 o2 o3 o4 o5 o6 o7 o8 o9 o10 : Option Val) : peek 11 (o0 :: o1 :: o2 :: o3 :: o4 :: o5 :: o6 :: o7 :: o8 :: o9 :: o10 :: some (.own (.lst xs)) :: r) S = some (.lst xs) := rfl
theorem ol11 (o0 o1 o2 o3 o4 o5 o6 o7 o8 o9 o10 : Option Val) : ownL 11 (o0 :: o1 :: o2 :: o3 :: o4 :: o5 :: o6 :: o7 :: o8 :: o9 :: o10 :: some (.own (.lst xs)) :: r) = true := rfl
theorem rf11 (o0 o1 o2 o3 o4 o5 o6 o7 o8 o9 o10 : Option Val) (f : Frame → Store → RX Val) : retX (.var 11) f (o0 :: o1 :: o2 :: o3 :: o4 :: o5 :: o6 :: o7 :: o8 :: o9 :: o10 :: some (.fz d) :: r) S = .ok (.fz d) (o0 :: o1 :: o2 :: o3 :: o4 :: o5 :: o6 :: o7 :: o8 :: o9 :: o10 :: some (.fz d) :: r) S := rfl
theorem ro11 (o0 o1 o2 o3 o4 o5 o6 o7 o8 o9 o10 : Option Val) (f : Frame → Store → RX Val) (c : Cell) : retX (.var 11) f (o0 :: o1 :: o2 :: o3 :: o4 :: o5 :: o6 :: o7 :: o8 :: o9 :: o10 :: some (.own c) :: r) S = .ok (.own c) (o0 :: o1 :: o2 :: o3 :: o4 :: o5 :: o6 :: o7 :: o8 :: o9 :: o10 :: none :: r) S := rfl
theorem st11 (o0 o1 o2 o3 o4 o5 o6 o7 o8 o9 o10 : Option Val) (v : Option Val) : List.set (o0 :: o1 :: o2 :: o3 :: o4 :: o5 :: o6 :: o7 :: o8 :: o9 :: o10 :: o :: r) 11 v = o0 :: o1 :: o2 :: o3 :: o4 :: o5 :: o6 :: o7 :: o8 :: o9 :: o10 :: v :: r := rfl
theorem pd11 (o0 o1 o2 o3 o4 o5 o6 o7 o8 o9 o10 : Option Val) : peek 11 (o0 :: o1 :: o2 :: o3 :: o4 :: o5 :: o6 :: o7 :: o8 :: o9 :: o10 :: some (.own (.dK ks xs)) :: r) S = some (.dic ks xs) := rfl
theorem pt11 (o0 o1 o2 o3 o4 o5 o6 o7 o8 o9 o10 : Option Val) : peek 11 (o0 :: o1 :: o2 :: o3 :: o4 :: o5 :: o6 :: o7 :: o8 :: o9 :: o10 :: some (.own (.dT kt xs)) :: r) S = some (.dit kt xs) := rfl
theorem od11 (o0 o1 o2 o3 o4 o5 o6 o7 o8 o9 o10 : Option Val) : ownT 11 (o0 :: o1 :: o2 :: o3 :: o4 :: o5 :: o6 :: o7 :: o8 :: o9 :: o10 :: some (.own (.dK ks xs)) :: r) = true := rfl
theorem ot11 (o0 o1 o2 o3 o4 o5 o6 o7 o8 o9 o10 : Option Val) : ownT 11 (o0 :: o1 :: o2 :: o3 :: o4 :: o5 :: o6 :: o7 :: o8 :: o9 :: o10 :: some (.own (.dT kt xs)) :: r) = true := rfl
theorem vd11 (o0 o1 o2 o3 o4 o5 o6 o7 o8 o9 o10 : Option Val) : varX 11 (o0 :: o1 :: o2 :: o3 :: o4 :: o5 :: o6 :: o7 :: o8 :: o9 :: o10 :: some (.own (.dK ks xs)) :: r) S = .ok (.fz (.dic ks xs)) (o0 :: o1 :: o2 :: o3 :: o4 :: o5 :: o6 :: o7 :: o8 :: o9 :: o10 :: some (.fz (.dic ks xs)) :: r) S := rfl
theorem vt11 (o0 o1 o2 o3 o4 o5 o6 o7 o8 o9 o10 : Option Val) : varX 11 (o0 :: o1 :: o2 :: o3 :: o4 :: o5 :: o6 :: o7 :: o8 :: o9 :: o10 :: some (.own (.dT kt xs)) :: r) S = .ok (.fz (.dit kt xs)) (o0 :: o1 :: o2 :: o3 :: o4 :: o5 :: o6 :: o7 :: o8 :: o9 :: o10 :: some (.fz (.dit kt xs)) :: r) S := rfl
theorem vx12 (o0 o1 o2 o3 o4 o5 o6 o7 o8 o9 o10 o11 : Option Val) : varX 12 (o0 :: o1 :: o2 :: o3 :: o4 :: o5 :: o6 :: o7 :: o8 :: o9 :: o10 :: o11 :: some (.fz d) :: r) S = .ok (.fz d) (o0 :: o1 :: o2 :: o3 :: o4 :: o5 :: o6 :: o7 :: o8 :: o9 :: o10 :: o11 :: some (.fz d) :: r) S := rfl
theorem vo12 (o0 o1 o2 o3 o4 o5 o6 o7 o8 o9 o10 o11 : Option Val) : varX 12 (o0 :: o1 :: o2 :: o3 :: o4 :: o5 :: o6 :: o7 :: o8 :: o9 :: o10 :: o11 :: some (.own (.lst xs)) :: r) S = .ok (.fz (.lst xs)) (o0 :: o1 :: o2 :: o3 :: o4 :: o5 :: o6 :: o7 :: o8 :: o9 :: o10 :: o11 :: some (.fz (.lst xs)) :: r) S := rfl
theorem pk12 (o0 o1 o2 o3 o4 o5 o6 o7 o8 o9 o10 o11 : Option Val) : peek 12 (o0 :: o1 :: o2 :: o3 :: o4 :: o5 :: o6 :: o7 :: o8 :: o9 :: o10 :: o11 :: some (.fz d) :: r) S = some (look S d) := rfl
theorem po12 (o0 o1 o2 o3 o4 o5 o6 o7 o8 o9 o10 o11 : Option Val) : peek 12 (o0 :: o1 :: o2 :: o3 :: o4 :: o5 :: o6 :: o7 :: o8 :: o9 :: o10 :: o11 :: some (.own (.lst xs)) :: r) S = some (.lst xs) := rfl
theorem ol12 (o0 o1 o2 o3 o4 o5 o6 o7 o8 o9 o10 o11 : Option Val) : ownL 12 (o0 :: o1 :: o2 :: o3 :: o4 :: o5 :: o6 :: o7 :: o8 :: o9 :: o10 :: o11 :: some (.own (.lst xs)) :: r) = true := rfl
theorem rf12 (o0 o1 o2 o3 o4 o5 o6 o7 o8 o9 o10 o11 : Option Val) (f : Frame → Store → RX Val) : retX (.var 12) f (o0 :: o1 :: o2 :: o3 :: o4 :: o5 :: o6 :: o7 :: o8 :: o9 :: o10 :: o11 :: some (.fz d) :: r) S = .ok (.fz d) (o0 :: o1 :: o2 :: o3 :: o4 :: o5 :: o6 :: o7 :: o8 :: o9 :: o10 :: o11 :: some (.fz d) :: r) S := rfl
theorem ro12 (o0 o1 o2 o3 o4 o5 o6 o7 o8 o9 o10 o11 : Option Val) (f : Frame → Store → RX Val) (c : Cell) : retX (.var 12) f (o0 :: o1 :: o2 :: o3 :: o4 :: o5 :: o6 :: o7 :: o8 :: o9 :: o10 :: o11 :: some (.own c) :: r) S = .ok (.own c) (o0 :: o1 :: o2 :: o3 :: o4 :: o5 :: o6 :: o7 :: o8 :: o9 :: o10 :: o11 :: none :: r) S := rfl
theorem st12 (o0 o1 o2 o3 o4 o5 o6 o7 o8 o9 o10 o11 : Option Val) (v : Option Val) : List.set (o0 :: o1 :: o2 :: o3 :: o4 :: o5 :: o6 :: o7 :: o8 :: o9 :: o10 :: o11 :: o :: r) 12 v = o0 :: o1 :: o2 :: o3 :: o4 :: o5 :: o6 :: o7 :: o8 :: o9 :: o10 :: o11 :: v :: r := rfl
theorem pd12 (o0 o1 o2 o3 o4 o5 o6 o7 o8 o9 o10 o11 : Option Val) : peek 12 (o0 :: o1 :: o2 :: o3 :: o4 :: o5 :: o6 :: o7 :: o8 :: o9 :: o10 :: o11 :: some (.own (.dK ks xs)) :: r) S = some (.dic ks xs) := rfl
theorem pt12 (o0 o1 o2 o3 o4 o5 o6 o7 o8 o9 o10 o11 : Option Val) : peek 12 (o0 :: o1 :: o2 :: o3 :: o4 :: o5 :: o6 :: o7 :: o8 :: o9 :: o10 :: o11 :: some (.own (.dT kt xs)) :: r) S = some (.dit kt xs) := rfl
theorem od12 (o0 o1 o2 o3 o4 o5 o6 o7 o8 o9 o10 o11 : Option Val) : ownT 12 (o0 :: o1 :: o2 :: o3 :: o4 :: o5 :: o6 :: o7 :: o8 :: o9 :: o10 :: o11 :: some (.own (.dK ks xs)) :: r) = true := rfl
theorem ot12 (o0 o1 o2 o3 o4 o5 o6 o7 o8 o9 o10 o11 : Option Val) : ownT 12 (o0 :: o1 :: o2 :: o3 :: o4 :: o5 :: o6 :: o7 :: o8 :: o9 :: o10 :: o11 :: some (.own (.dT kt xs)) :: r) = true := rfl
theorem vd12 (o0 o1 o2 o3 o4 o5 o6 o7 o8 o9 o10 o11 : Option Val) : varX 12 (o0 :: o1 :: o2 :: o3 :: o4 :: o5 :: o6 :: o7 :: o8 :: o9 :: o10 :: o11 :: some (.own (.dK ks xs)) :: r) S = .ok (.fz (.dic ks xs)) (o0 :: o1 :: o2 :: o3 :: o4 :: o5 :: o6 :: o7 :: o8 :: o9 :: o10 :: o11 :: some (.fz (.dic ks xs)) :: r) S := rfl
theorem vt12 (o0 o1 o2 o3 o4 o5 o6 o7 o8 o9 o10 o11 : Option Val) : varX 12 (o0 :: o1 :: o2 :: o3 :: o4 :: o5 :: o6 :: o7 :: o8 :: o9 :: o10 :: o11 :: some (.own (.dT kt xs)) :: r) S = .ok (.fz (.dit kt xs)) (o0 :: o1 :: o2 :: o3 :: o4 :: o5 :: o6 :: o7 :: o8 :: o9 :: o10 :: o11 :: some (.fz (.dit kt xs)) :: r) S := rfl
theorem vx13 (o0 o1 o2 o3 o4 o5 o6 o7 o8 o9 o10 o11 o12 : Option Val) : varX 13 (o0 :: o1 :: o2 :: o3 :: o4 :: o5 :: o6 :: o7 :: o8 :: o9 :: o10 :: o11 :: o12 :: some (.fz d) :: r) S = .ok (.fz d) (o0 :: o1 :: o2 :: o3 :: o4 :: o5 :: o6 :: o7 :: o8 :: o9 :: o10 :: o11 :: o12 :: some (.fz d) :: r) S := rfl
theorem vo13 (o0 o1 o2 o3 o4 o5 o6 o7 o8 o9 o10 o11 o12 : Option Val) : varX 13 (o0 :: o1 :: o2 :: o3 :: o4 :: o5 :: o6 :: o7 :: o8 :: o9 :: o10 :: o11 :: o12 :: some (.own (.lst xs)) :: r) S = .ok (.fz (.lst xs)) (o0 :: o1 :: o2 :: o3 :: o4 :: o5 :: o6 :: o7 :: o8 :: o9 :: o10 :: o11 :: o12 :: some (.fz (.lst xs)) :: r) S := rfl
theorem pk13 (o0 o1 o2 o3 o4 o5 o6 o7 o8 o9 o10 o11 o12 : Option Val) : peek 13 (o0 :: o1 :: o2 :: o3 :: o4 :: o5 :: o6 :: o7 :: o8 :: o9 :: o10 :: o11 :: o12 :: some (.fz d) :: r) S = some (look S d) := rfl
theorem po13 (o0 o1 o2 o3 o4 o5 o6 o7 o8 o9 o10 o11 o12 : Option Val) : peek 13 (o0 :: o1 :: o2 :: o3 :: o4 :: o5 :: o6 :: o7 :: o8 :: o9 :: o10 :: o11 :: o12 :: some (.own (.lst xs)) :: r) S = some (.lst xs) := rfl
theorem ol13 (o0 o1 o2 o3 o4 o5 o6 o7 o8 o9 o10 o11 o12 : Option Val) : ownL 13 (o0 :: o1 :: o2 :: o3 :: o4 :: o5 :: o6 :: o7 :: o8 :: o9 :: o10 :: o11 :: o12 :: some (.own (.lst xs)) :: r) = true := rfl
theorem rf13 (o0 o1 o2 o3 o4 o5 o6 o7 o8 o9 o10 o11 o12 : Option Val) (f : Frame → Store → RX Val) : retX (.var 13) f (o0 :: o1 :: o2 :: o3 :: o4 :: o5 :: o6 :: o7 :: o8 :: o9 :: o10 :: o11 :: o12 :: some (.fz d) :: r) S = .ok (.fz d) (o0 :: o1 :: o2 :: o3 :: o4 :: o5 :: o6 :: o7 :: o8 :: o9 :: o10 :: o11 :: o12 :: some (.fz d) :: r) S := rfl
theorem ro13 (o0 o1 o2 o3 o4 o5 o6 o7 o8 o9 o10 o11 o12 : Option Val) (f : Frame → Store → RX Val) (c : Cell) : retX (.var 13) f (o0 :: o1 :: o2 :: o3 :: o4 :: o5 :: o6 :: o7 :: o8 :: o9 :: o10 :: o11 :: o12 :: some (.own c) :: r) S = .ok (.own c) (o0 :: o1 :: o2 :: o3 :: o4 :: o5 :: o6 :: o7 :: o8 :: o9 :: o10 :: o11 :: o12 :: none :: r) S := rfl
theorem st13 (o0 o1 o2 o3 o4 o5 o6 o7 o8 o9 o10 o11 o12 : Option Val) (v : Option Val) : List.set (o0 :: o1 :: o2 :: o3 :: o4 :: o5 :: o6 :: o7 :: o8 :: o9 :: o10 :: o11 :: o12 :: o :: r) 13 v = o0 :: o1 :: o2 :: o3 :: o4 :: o5 :: o6 :: o7 :: o8 :: o9 :: o10 :: o11 :: o12 :: v :: r := rfl
theorem pd13 (o0 o1 o2 o3 o4 o5 o6 o7 o8 o9 o10 o11 o12 : Option Val) : peek 13 (o0 :: o1 :: o2 :: o3 :: o4 :: o5 :: o6 :: o7 :: o8 :: o9 :: o10 :: o11 :: o12 :: some (.own (.dK ks xs)) :: r) S = some (.dic ks xs) := rfl
theorem pt13 (o0 o1 o2 o3 o4 o5 o6 o7 o8 o9 o10 o11 o12 : Option Val) : peek 13 (o0 :: o1 :: o2 :: o3 :: o4 :: o5 :: o6 :: o7 :: o8 :: o9 :: o10 :: o11 :: o12 :: some (.own (.dT kt xs)) :: r) S = some (.dit kt xs) := rfl
theorem od13 (o0 o1 o2 o3 o4 o5 o6 o7 o8 o9 o10 o11 o12 : Option Val) : ownT 13 (o0 :: o1 :: o2 :: o3 :: o4 :: o5 :: o6 :: o7 :: o8 :: o9 :: o10 :: o11 :: o12 :: some (.own (.dK ks xs)) :: r) = true := rfl
theorem ot13 (o0 o1 o2 o3 o4 o5 o6 o7 o8 o9 o10 o11 o12 : Option Val) : ownT 13 (o0 :: o1 :: o2 :: o3 :: o4 :: o5 :: o6 :: o7 :: o8 :: o9 :: o10 :: o11 :: o12 :: some (.own (.dT kt xs)) :: r) = true := rfl
theorem vd13 (o0 o1 o2 o3 o4 o5 o6 o7 o8 o9 o10 o11 o12 : Option Val) : varX 13 (o0 :: o1 :: o2 :: o3 :: o4 :: o5 :: o6 :: o7 :: o8 :: o9 :: o10 :: o11 :: o12 :: some (.own (.dK ks xs)) :: r) S = .ok (.fz (.dic ks xs)) (o0 :: o1 :: o2 :: o3 :: o4 :: o5 :: o6 :: o7 :: o8 :: o9 :: o10 :: o11 :: o12 :: some (.fz (.dic ks xs)) :: r) S := rfl
theorem vt13 (o0 o1 o2 o3 o4 o5 o6 o7 o8 o9 o10 o11 o12 : Option Val) : varX 13 (o0 :: o1 :: o2 :: o3 :: o4 :: o5 :: o6 :: o7 :: o8 :: o9 :: o10 :: o11 :: o12 :: some (.own (.dT kt xs)) :: r) S = .ok (.fz (.dit kt xs)) (o0 :: o1 :: o2 :: o3 :: o4 :: o5 :: o6 :: o7 :: o8 :: o9 :: o10 :: o11 :: o12 :: some (.fz (.dit kt xs)) :: r) S := rfl
theorem vx14 (o0 o1 o2 o3 o4 o5 o6 o7 o8 o9 o10 o11 o12 o13 : Option Val) : varX 14 (o0 :: o1 :: o2 :: o3 :: o4 :: o5 :: o6 :: o7 :: o8 :: o9 :: o10 :: o11 :: o12 :: o13 :: some (.fz d) :: r) S = .ok (.fz d) (o0 :: o1 :: o2 :: o3 :: o4 :: o5 :: o6 :: o7 :: o8 :: o9 :: o10 :: o11 :: o12 :: o13 :: some (.fz d) :: r) S := rfl
theorem vo14 (o0 o1 o2 o3 o4 o5 o6 o7 o8 o9 o10 o11 o12 o13 : Option Val) : varX 14 (o0 :: o1 :: o2 :: o3 :: o4 :: o5 :: o6 :: o7 :: o8 :: o9 :: o10 :: o11 :: o12 :: o13 :: some (.own (.lst xs)) :: r) S = .ok (.fz (.lst xs)) (o0 :: o1 :: o2 :: o3 :: o4 :: o5 :: o6 :: o7 :: o8 :: o9 :: o10 :: o11 :: o12 :: o13 :: some (.fz (.lst xs)) :: r) S := rfl
theorem pk14 (o0 o1 o2 o3 o4 o5 o6 o7 o8 o9 o10 o11 o12 o13 : Option Val) : peek 14 (o0 :: o1 :: o2 :: o3 :: o4 :: o5 :: o6 :: o7 :: o8 :: o9 :: o10 :: o11 :: o12 :: o13 :: some (.fz d) :: r) S = some (look S d) := rfl
theorem po14 (o0 o1 o2 o3 o4 o5 o6 o7 o8 o9 o10 o11 o12 o13 : Option Val) : peek 14 (o0 :: o1 :: o2 :: o3 :: o4 :: o5 :: o6 :: o7 :: o8 :: o9 :: o10 :: o11 :: o12 :: o13 :: some (.own (.lst xs)) :: r) S = some (.lst xs) := rfl
theorem ol14 (o0 o1 o2 o3 o4 o5 o6 o7 o8 o9 o10 o11 o12 o13 : Option Val) : ownL 14 (o0 :: o1 :: o2 :: o3 :: o4 :: o5 :: o6 :: o7 :: o8 :: o9 :: o10 :: o11 :: o12 :: o13 :: some (.own (.lst xs)) :: r) = true := rfl
theorem rf14 (o0 o1 o2 o3 o4 o5 o6 o7 o8 o9 o10 o11 o12 o13 : Option Val) (f : Frame → Store → RX Val) : retX (.var 14) f (o0 :: o1 :: o2 :: o3 :: o4 :: o5 :: o6 :: o7 :: o8 :: o9 :: o10 :: o11 :: o12 :: o13 :: some (.fz d) :: r) S = .ok (.fz d) (o0 :: o1 :: o2 :: o3 :: o4 :: o5 :: o6 :: o7 :: o8 :: o9 :: o10 :: o11 :: o12 :: o13 :: some (.fz d) :: r) S := rfl
theorem ro14 (o0 o1 o2 o3 o4 o5 o6 o7 o8 o9 o10 o11 o12 o13 : Option Val) (f : Frame → Store → RX Val) (c : Cell) : retX (.var 14) f (o0 :: o1 :: o2 :: o3 :: o4 :: o5 :: o6 :: o7 :: o8 :: o9 :: o10 :: o11 :: o12 :: o13 :: some (.own c) :: r) S = .ok (.own c) (o0 :: o1 :: o2 :: o3 :: o4 :: o5 :: o6 :: o7 :: o8 :: o9 :: o10 :: o11 :: o12 :: o13 :: none :: r) S := rfl
theorem st14 (o0 o1 o2 o3 o4 o5 o6 o7 o8 o9 o10 o11 o12 o13 : Option Val) (v : Option Val) : List.set (o0 :: o1 :: o2 :: o3 :: o4 :: o5 :: o6 :: o7 :: o8 :: o9 :: o10 :: o11 :: o12 :: o13 :: o :: r) 14 v = o0 :: o1 :: o2 :: o3 :: o4 :: o5 :: o6 :: o7 :: o8 :: o9 :: o10 :: o11 :: o12 :: o13 :: v :: r := rfl
theorem pd14 (o0 o1 o2 o3 o4 o5 o6 o7 o8 o9 o10 o11 o12 o13 : Option Val) : peek 14 (o0 :: o1 :: o2 :: o3 :: o4 :: o5 :: o6 :: o7 :: o8 :: o9 :: o10 :: o11 :: o12 :: o13 :: some (.own (.dK ks xs)) :: r) S = some (.dic ks xs) := rfl
theorem pt14 (o0 o1 o2 o3 o4 o5 o6 o7 o8 o9 o10 o11 o12 o13 : Option Val) : peek 14 (o0 :: o1 :: o2 :: o3 :: o4 :: o5 :: o6 :: o7 :: o8 :: o9 :: o10 :: o11 :: o12 :: o13 :: some (.own (.dT kt xs)) :: r) S = some (.dit kt xs) := rfl
theorem od14 (o0 o1 o2 o3 o4 o5 o6 o7 o8 o9 o10 o11 o12 o13 : Option Val) : ownT 14 (o0 :: o1 :: o2 :: o3 :: o4 :: o5 :: o6 :: o7 :: o8 :: o9 :: o10 :: o11 :: o12 :: o13 :: some (.own (.dK ks xs)) :: r) = true := rfl
theorem ot14 (o0 o1 o2 o3 o4 o5 o6 o7 o8 o9 o10 o11 o12 o13 : Option Val) : ownT 14 (o0 :: o1 :: o2 :: o3 :: o4 :: o5 :: o6 :: o7 :: o8 :: o9 :: o10 :: o11 :: o12 :: o13 :: some (.own (.dT kt xs)) :: r) = true := rfl
theorem vd14 (o0 o1 o2 o3 o4 o5 o6 o7 o8 o9 o10 o11 o12 o13 : Option Val) : varX 14 (o0 :: o1 :: o2 :: o3 :: o4 :: o5 :: o6 :: o7 :: o8 :: o9 :: o10 :: o11 :: o12 :: o13 :: some (.own (.dK ks xs)) :: r) S = .ok (.fz (.dic ks xs)) (o0 :: o1 :: o2 :: o3 :: o4 :: o5 :: o6 :: o7 :: o8 :: o9 :: o10 :: o11 :: o12 :: o13 :: some (.fz (.dic ks xs)) :: r) S := rfl
theorem vt14 (o0 o1 o2 o3 o4 o5 o6 o7 o8 o9 o10 o11 o12 o13 : Option Val) : varX 14 (o0 :: o1 :: o2 :: o3 :: o4 :: o5 :: o6 :: o7 :: o8 :: o9 :: o10 :: o11 :: o12 :: o13 :: some (.own (.dT kt xs)) :: r) S = .ok (.fz (.dit kt xs)) (o0 :: o1 :: o2 :: o3 :: o4 :: o5 :: o6 :: o7 :: o8 :: o9 :: o10 :: o11 :: o12 :: o13 :: some (.fz (.dit kt xs)) :: r) S := rfl
theorem vx15 (o0 o1 o2 o3 o4 o5 o6 o7 o8 o9 o10 o11 o12 o13 o14 : Option Val) : varX 15 (o0 :: o1 :: o2 :: o3 :: o4 :: o5 :: o6 :: o7 :: o8 :: o9 :: o10 :: o11 :: o12 :: o13 :: o14 :: some (.fz d) :: r) S = .ok (.fz d) (o0 :: o1 :: o2 :: o3 :: o4 :: o5 :: o6 :: o7 :: o8 :: o9 :: o10 :: o11 :: o12 :: o13 :: o14 :: some (.fz d) :: r) S := rfl
theorem vo15 (o0 o1 o2 o3 o4 o5 o6 o7 o8 o9 o10 o11 o12 o13 o14 : Option Val) : varX 15 (o0 :: o1 :: o2 :: o3 :: o4 :: o5 :: o6 :: o7 :: o8 :: o9 :: o10 :: o11 :: o12 :: o13 :: o14 :: some (.own (.lst xs)) :: r) S = .ok (.fz (.lst xs)) (o0 :: o1 :: o2 :: o3 :: o4 :: o5 :: o6 :: o7 :: o8 :: o9 :: o10 :: o11 :: o12 :: o13 :: o14 :: some (.fz (.lst xs)) :: r) S := rfl
theorem pk15 (o0 o1 o2 o3 o4 o5 o6 o7 o8 o9 o10 o11 o12 o13 o14 : Option Val) : peek 15 (o0 :: o1 :: o2 :: o3 :: o4 :: o5 :: o6 :: o7 :: o8 :: o9 :: o10 :: o11 :: o12 :: o13 :: o14 :: some (.fz d) :: r) S = some (look S d) := rfl
theorem po15 (o0 o1 o2 o3 o4 o5 o6 o7 o8 o9 o10 o11 o12 o13 o14 : Option Val) : peek 15 (o0 :: o1 :: o2 :: o3 :: o4 :: o5 :: o6 :: o7 :: o8 :: o9 :: o10 :: o11 :: o12 :: o13 :: o14 :: some (.own (.lst xs)) :: r) S = some (.lst xs) := rfl
theorem ol15 (o0 o1 o2 o3 o4 o5 o6 o7 o8 o9 o10 o11 o12 o13 o14 : Option Val) : ownL 15 (o0 :: o1 :: o2 :: o3 :: o4 :: o5 :: o6 :: o7 :: o8 :: o9 :: o10 :: o11 :: o12 :: o13 :: o14 :: some (.own (.lst xs)) :: r) = true := rfl
theorem rf15 (o0 o1 o2 o3 o4 o5 o6 o7 o8 o9 o10 o11 o12 o13 o14 : Option Val) (f : Frame → Store → RX Val) : retX (.var 15) f (o0 :: o1 :: o2 :: o3 :: o4 :: o5 :: o6 :: o7 :: o8 :: o9 :: o10 :: o11 :: o12 :: o13 :: o14 :: some (.fz d) :: r) S = .ok (.fz d) (o0 :: o1 :: o2 :: o3 :: o4 :: o5 :: o6 :: o7 :: o8 :: o9 :: o10 :: o11 :: o12 :: o13 :: o14 :: some (.fz d) :: r) S := rfl
theorem ro15 (o0 o1 o2 o3 o4 o5 o6 o7 o8 o9 o10 o11 o12 o13 o14 : Option Val) (f : Frame → Store → RX Val) (c : Cell) : retX (.var 15) f (o0 :: o1 :: o2 :: o3 :: o4 :: o5 :: o6 :: o7 :: o8 :: o9 :: o10 :: o11 :: o12 :: o13 :: o14 :: some (.own c) :: r) S = .ok (.own c) (o0 :: o1 :: o2 :: o3 :: o4 :: o5 :: o6 :: o7 :: o8 :: o9 :: o10 :: o11 :: o12 :: o13 :: o14 :: none :: r) S := rfl
theorem st15 (o0 o1 o2 o3 o4 o5 o6 o7 o8 o9 o10 o11 o12 o13 o14 : Option Val) (v : Option Val) : List.set (o0 :: o1 :: o2 :: o3 :: o4 :: o5 :: o6 :: o7 :: o8 :: o9 :: o10 :: o11 :: o12 :: o13 :: o14 :: o :: r) 15 v = o0 :: o1 :: o2 :: o3 :: o4 :: o5 :: o6 :: o7 :: o8 :: o9 :: o10 :: o11 :: o12 :: o13 :: o14 :: v :: r := rfl
theorem pd15 (o0 o1 o2 o3 o4 o5 o6 o7 o8 o9 o10 o11 o12 o13 o14 : Option Val) : peek 15 (o0 :: o1 :: o2 :: o3 :: o4 :: o5 :: o6 :: o7 :: o8 :: o9 :: o10 :: o11 :: o12 :: o13 :: o14 :: some (.own (.dK ks xs)) :: r) S = some (.dic ks xs) := rfl
theorem pt15 (o0 o1 o2 o3 o4 o5 o6 o7 o8 o9 o10 o11 o12 o13 o14 : Option Val) : peek 15 (o0 :: o1 :: o2 :: o3 :: o4 :: o5 :: o6 :: o7 :: o8 :: o9 :: o10 :: o11 :: o12 :: o13 :: o14 :: some (.own (.dT kt xs)) :: r) S = some (.dit kt xs) := rfl
theorem od15 (o0 o1 o2 o3 o4 o5 o6 o7 o8 o9 o10 o11 o12 o13 o14 : Option Val) : ownT 15 (o0 :: o1 :: o2 :: o3 :: o4 :: o5 :: o6 :: o7 :: o8 :: o9 :: o10 :: o11 :: o12 :: o13 :: o14 :: some (.own (.dK ks xs)) :: r) = true := rfl
theorem ot15 (o0 o1 o2 o3 o4 o5 o6 o7 o8 o9 o10 o11 o12 o13 o14 : Option Val) : ownT 15 (o0 :: o1 :: o2 :: o3 :: o4 :: o5 :: o6 :: o7 :: o8 :: o9 :: o10 :: o11 :: o12 :: o13 :: o14 :: some (.own (.dT kt xs)) :: r) = true := rfl
theorem vd15 (o0 o1 o2 o3 o4 o5 o6 o7 o8 o9 o10 o11 o12 o13 o14 : Option Val) : varX 15 (o0 :: o1 :: o2 :: o3 :: o4 :: o5 :: o6 :: o7 :: o8 :: o9 :: o10 :: o11 :: o12 :: o13 :: o14 :: some (.own (.dK ks xs)) :: r) S = .ok (.fz (.dic ks xs)) (o0 :: o1 :: o2 :: o3 :: o4 :: o5 :: o6 :: o7 :: o8 :: o9 :: o10 :: o11 :: o12 :: o13 :: o14 :: some (.fz (.dic ks xs)) :: r) S := rfl
theorem vt15 (o0 o1 o2 o3 o4 o5 o6 o7 o8 o9 o10 o11 o12 o13 o14 : Option Val) : varX 15 (o0 :: o1 :: o2 :: o3 :: o4 :: o5 :: o6 :: o7 :: o8 :: o9 :: o10 :: o11 :: o12 :: o13 :: o14 :: some (.own (.dT kt xs)) :: r) S = .ok (.fz (.dit kt xs)) (o0 :: o1 :: o2 :: o3 :: o4 :: o5 :: o6 :: o7 :: o8 :: o9 :: o10 :: o11 :: o12 :: o13 :: o14 :: some (.fz (.dit kt xs)) :: r) S := rfl
theorem vx16 (o0 o1 o2 o3 o4 o5 o6 o7 o8 o9 o10 o11 o12 o13 o14 o15 : Option Val) : varX 16 (o0 :: o1 :: o2 :: o3 :: o4 :: o5 :: o6 :: o7 :: o8 :: o9 :: o10 :: o11 :: o12 :: o13 :: o14 :: o15 :: some (.fz d) :: r) S = .ok (.fz d) (o0 :: o1 :: o2 :: o3 :: o4 :: o5 :: o6 :: o7 :: o8 :: o9 :: o10 :: o11 :: o12 :: o13 :: o14 :: o15 :: some (.fz d) :: r) S := rfl
theorem vo16 (o0 o1 o2 o3 o4 o5 o6 o7 o8 o9 o10 o11 o12 o13 o14 o15 : Option Val) : varX 16 (o0 :: o1 :: o2 :: o3 :: o4 :: o5 :: o6 :: o7 :: o8 :: o9 :: o10 :: o11 :: o12 :: o13 :: o14 :: o15 :: some (.own (.lst xs)) :: r) S = .ok (.fz (.lst xs)) (o0 :: o1 :: o2 :: o3 :: o4 :: o5 :: o6 :: o7 :: o8 :: o9 :: o10 :: o11 :: o12 :: o13 :: o14 :: o15 :: some (.fz (.lst xs)) :: r) S := rfl
theorem pk16 (o0 o1 o2 o3 o4 o5 o6 o7 o8 o9 o10 o11 o12 o13 o14 o15 : Option Val) : peek 16 (o0 :: o1 :: o2 :: o3 :: o4 :: o5 :: o6 :: o7 :: o8 :: o9 :: o10 :: o11 :: o12 :: o13 :: o14 :: o15 :: some (.fz d) :: r) S = some (look S d) := rfl
theorem po16 (o0 o1 o2 o3 o4 o5 o6 o7 o8 o9 o10 o11 o12 o13 o14 o15 : Option Val) : peek 16 (o0 :: o1 :: o2 :: o3 :: o4 :: o5 :: o6 :: o7 :: o8 :: o9 :: o10 :: o11 :: o12 :: o13 :: o14 :: o15 :: some (.own (.lst xs)) :: r) S = some (.lst xs) := rfl
theorem ol16 (o0 o1 o2 o3 o4 o5 o6 o7 o8 o9 o10 o11 o12 o13 o14 o15 : Option Val) : ownL 16 (o0 :: o1 :: o2 :: o3 :: o4 :: o5 :: o6 :: o7 :: o8 :: o9 :: o10 :: o11 :: o12 :: o13 :: o14 :: o15 :: some (.own (.lst xs)) :: r) = true := rfl
theorem rf16 (o0 o1 o2 o3 o4 o5 o6 o7 o8 o9 o10 o11 o12 o13 o14 o15 : Option Val) (f : Frame → Store → RX Val) : retX (.var 16) f (o0 :: o1 :: o2 :: o3 :: o4 :: o5 :: o6 :: o7 :: o8 :: o9 :: o10 :: o11 :: o12 :: o13 :: o14 :: o15 :: some (.fz d) :: r) S = .ok (.fz d) (o0 :: o1 :: o2 :: o3 :: o4 :: o5 :: o6 :: o7 :: o8 :: o9 :: o10 :: o11 :: o12 :: o13 :: o14 :: o15 :: some (.fz d) :: r) S := rfl
theorem ro16 (o0 o1 o2 o3 o4 o5 o6 o7 o8 o9 o10 o11 o12 o13 o14 o15 : Option Val) (f : Frame → Store → RX Val) (c : Cell) : retX (.var 16) f (o0 :: o1 :: o2 :: o3 :: o4 :: o5 :: o6 :: o7 :: o8 :: o9 :: o10 :: o11 :: o12 :: o13 :: o14 :: o15 :: some (.own c) :: r) S = .ok (.own c) (o0 :: o1 :: o2 :: o3 :: o4 :: o5 :: o6 :: o7 :: o8 :: o9 :: o10 :: o11 :: o12 :: o13 :: o14 :: o15 :: none :: r) S := rfl
theorem st16 (o0 o1 o2 o3 o4 o5 o6 o7 o8 o9 o10 o11 o12 o13 o14 o15 : Option Val) (v : Option Val) : List.set (o0 :: o1 :: o2 :: o3 :: o4 :: o5 :: o6 :: o7 :: o8 :: o9 :: o10 :: o11 :: o12 :: o13 :: o14 :: o15 :: o :: r) 16 v = o0 :: o1 :: o2 :: o3 :: o4 :: o5 :: o6 :: o7 :: o8 :: o9 :: o10 :: o11 :: o12 :: o13 :: o14 :: o15 :: v :: r := rfl
theorem pd16 (o0 o1 o2 o3 o4 o5 o6 o7 o8 o9 o10 o11 o12 o13 o14 o15 : Option Val) : peek 16 (o0 :: o1 :: o2 :: o3 :: o4 :: o5 :: o6 :: o7 :: o8 :: o9 :: o10 :: o11 :: o12 :: o13 :: o14 :: o15 :: some (.own (.dK ks xs)) :: r) S = some (.dic ks xs) := rfl
theorem pt16 (o0 o1 o2 o3 o4 o5 o6 o7 o8 o9 o10 o11 o12 o13 o14 o15 : Option Val) : peek 16 (o0 :: o1 :: o2 :: o3 :: o4 :: o5 :: o6 :: o7 :: o8 :: o9 :: o10 :: o11 :: o12 :: o13 :: o14 :: o15 :: some (.own (.dT kt xs)) :: r) S = some (.dit kt xs) := rfl
theorem od16 (o0 o1 o2 o3 o4 o5 o6 o7 o8 o9 o10 o11 o12 o13 o14 o15 : Option Val) : ownT 16 (o0 :: o1 :: o2 :: o3 :: o4 :: o5 :: o6 :: o7 :: o8 :: o9 :: o10 :: o11 :: o12 :: o13 :: o14 :: o15 :: some (.own (.dK ks xs)) :: r) = true := rfl
theorem ot16 (o0 o1 o2 o3 o4 o5 o6 o7 o8 o9 o10 o11 o12 o13 o14 o15 : Option Val) : ownT 16 (o0 :: o1 :: o2 :: o3 :: o4 :: o5 :: o6 :: o7 :: o8 :: o9 :: o10 :: o11 :: o12 :: o13 :: o14 :: o15 :: some (.own (.dT kt xs)) :: r) = true := rfl
theorem vd16 (o0 o1 o2 o3 o4 o5 o6 o7 o8 o9 o10 o11 o12 o13 o14 o15 : Option Val) : varX 16 (o0 :: o1 :: o2 :: o3 :: o4 :: o5 :: o6 :: o7 :: o8 :: o9 :: o10 :: o11 :: o12 :: o13 :: o14 :: o15 :: some (.own (.dK ks xs)) :: r) S = .ok (.fz (.dic ks xs)) (o0 :: o1 :: o2 :: o3 :: o4 :: o5 :: o6 :: o7 :: o8 :: o9 :: o10 :: o11 :: o12 :: o13 :: o14 :: o15 :: some (.fz (.dic ks xs)) :: r) S := rfl
theorem vt16 (o0 o1 o2 o3 o4 o5 o6 o7 o8 o9 o10 o11 o12 o13 o14 o15 : Option Val) : varX 16 (o0 :: o1 :: o2 :: o3 :: o4 :: o5 :: o6 :: o7 :: o8 :: o9 :: o10 :: o11 :: o12 :: o13 :: o14 :: o15 :: some (.own (.dT kt xs)) :: r) S = .ok (.fz (.dit kt xs)) (o0 :: o1 :: o2 :: o3 :: o4 :: o5 :: o6 :: o7 :: o8 :: o9 :: o10 :: o11 :: o12 :: o13 :: o14 :: o15 :: some (.fz (.dit kt xs)) :: r) S := rfl
theorem vx17 (o0 o1 o2 o3 o4 o5 o6 o7 o8 o9 o10 o11 o12 o13 o14 o15 o16 : Option Val) : varX 17 (o0 :: o1 :: o2 :: o3 :: o4 :: o5 :: o6 :: o7 :: o8 :: o9 :: o10 :: o11 :: o12 :: o13 :: o14 :: o15 :: o16 :: some (.fz d) :: r) S = .ok (.fz d) (o0 :: o1 :: o2 :: o3 :: o4 :: o5 :: o6 :: o7 :: o8 :: o9 :: o10 :: o11 :: o12 :: o13 :: o14 :: o15 :: o16 :: some (.fz d) :: r) S := rfl
theorem vo17 (o0 o1 o2 o3 o4 o5 o6 o7 o8 o9 o10 o11 o12 o13 o14 o15 o16 : Option Val) : varX 17 (o0 :: o1 :: o2 :: o3 :: o4 :: o5 :: o6 :: o7 :: o8 :: o9 :: o10 :: o11 :: o12 :: o13 :: o14 :: o15 :: o16 :: some (.own (.lst xs)) :: r) S = .ok (.fz (.lst xs)) (o0 :: o1 :: o2 :: o3 :: o4 :: o5 :: o6 :: o7 :: o8 :: o9 :: o10 :: o11 :: o12 :: o13 :: o14 :: o15 :: o16 :: some (.fz (.lst xs)) :: r) S := rfl
theorem pk17 (o0 o1 o2 o3 o4 o5 o6 o7 o8 o9 o10 o11 o12 o13 o14 o15 o16 : Option Val) : peek 17 (o0 :: o1 :: o2 :: o3 :: o4 :: o5 :: o6 :: o7 :: o8 :: o9 :: o10 :: o11 :: o12 :: o13 :: o14 :: o15 :: o16 :: some (.fz d) :: r) S = some (look S d) := rfl
theorem po17 (o0 o1 o2 o3 o4 o5 o6 o7 o8 o9 o10 o11 o12 o13 o14 o15 o16 : Option Val) : peek 17 (o0 :: o1 :: o2 :: o3 :: o4 :: o5 :: o6 :: o7 :: o8 :: o9 :: o10 :: o11 :: o12 :: o13 :: o14 :: o15 :: o16 :: some (.own (.lst xs)) :: r) S = some (.lst xs) := rfl
theorem ol17 (o0 o1 o2 o3 o4 o5 o6 o7 o8 o9 o10 o11 o12 o13 o14 o15 o16 : Option Val) : ownL 17 (o0 :: o1 :: o2 :: o3 :: o4 :: o5 :: o6 :: o7 :: o8 :: o9 :: o10 :: o11 :: o12 :: o13 :: o14 :: o15 :: o16 :: some (.own (.lst xs)) :: r) = true := rfl
theorem rf17 (o0 o1 o2 o3 o4 o5 o6 o7 o8 o9 o10 o11 o12 o13 o14 o15 o16 : Option Val) (f : Frame → Store → RX Val) : retX (.var 17) f (o0 :: o1 :: o2 :: o3 :: o4 :: o5 :: o6 :: o7 :: o8 :: o9 :: o10 :: o11 :: o12 :: o13 :: o14 :: o15 :: o16 :: some (.fz d) :: r) S = .ok (.fz d) (o0 :: o1 :: o2 :: o3 :: o4 :: o5 :: o6 :: o7 :: o8 :: o9 :: o10 :: o11 :: o12 :: o13 :: o14 :: o15 :: o16 :: some (.fz d) :: r) S := rfl
theorem ro17 (o0 o1 o2 o3 o4 o5 o6 o7 o8 o9 o10 o11 o12 o13 o14 o15 o16 : Option Val) (f : Frame → Store → RX Val) (c : Cell) : retX (.var 17) f (o0 :: o1 :: o2 :: o3 :: o4 :: o5 :: o6 :: o7 :: o8 :: o9 :: o10 :: o11 :: o12 :: o13 :: o14 :: o15 :: o16 :: some (.own c) :: r) S = .ok (.own c) (o0 :: o1 :: o2 :: o3 :: o4 :: o5 :: o6 :: o7 :: o8 :: o9 :: o10 :: o11 :: o12 :: o13 :: o14 :: o15 :: o16 :: none :: r) S := rfl
theorem st17 (o0 o1 o2 o3 o4 o5 o6 o7 o8 o9 o10 o11 o12 o13 o14 o15 o16 : Option Val) (v : Option Val) : List.set (o0 :: o1 :: o2 :: o3 :: o4 :: o5 :: o6 :: o7 :: o8 :: o9 :: o10 :: o11 :: o12 :: o13 :: o14 :: o15 :: o16 :: o :: r) 17 v = o0 :: o1 :: o2 :: o3 :: o4 :: o5 :: o6 :: o7 :: o8 :: o9 :: o10 :: o11 :: o12 :: o13 :: o14 :: o15 :: o16 :: v :: r := rfl
theorem pd17 (o0 o1 o2 o3 o4 o5 o6 o7 o8 o9 o10 o11 o12 o13 o14 o15 o16 : Option Val) : peek 17 (o0 :: o1 :: o2 :: o3 :: o4 :: o5 :: o6 :: o7 :: o8 :: o9 :: o10 :: o11 :: o12 :: o13 :: o14 :: o15 :: o16 :: some (.own (.dK ks xs)) :: r) S = some (.dic ks xs) := rfl
theorem pt17 (o0 o1 o2 o3 o4 o5 o6 o7 o8 o9 o10 o11 o12 o13 o14 o15 o16 : Option Val) : peek 17 (o0 :: o1 :: o2 :: o3 :: o4 :: o5 :: o6 :: o7 :: o8 :: o9 :: o10 :: o11 :: o12 :: o13 :: o14 :: o15 :: o16 :: some (.own (.dT kt xs)) :: r) S = some (.dit kt xs) := rfl
theorem od17 (o0 o1 o2 o3 o4 o5 o6 o7 o8 o9 o10 o11 o12 o13 o14 o15 o16 : Option Val) : ownT 17 (o0 :: o1 :: o2 :: o3 :: o4 :: o5 :: o6 :: o7 :: o8 :: o9 :: o10 :: o11 :: o12 :: o13 :: o14 :: o15 :: o16 :: some (.own (.dK ks xs)) :: r) = true := rfl
theorem ot17 (o0 o1 o2 o3 o4 o5 o6 o7 o8 o9 o10 o11 o12 o13 o14 o15 o16 : Option Val) : ownT 17 (o0 :: o1 :: o2 :: o3 :: o4 :: o5 :: o6 :: o7 :: o8 :: o9 :: o10 :: o11 :: o12 :: o13 :: o14 :: o15 :: o16 :: some (.own (.dT kt xs)) :: r) = true := rfl
theorem vd17 (o0 o1 o2 o3 o4 o5 o6 o7 o8 o9 o10 o11 o12 o13 o14 o15 o16 : Option Val) : varX 17 (o0 :: o1 :: o2 :: o3 :: o4 :: o5 :: o6 :: o7 :: o8 :: o9 :: o10 :: o11 :: o12 :: o13 :: o14 :: o15 :: o16 :: some (.own (.dK ks xs)) :: r) S = .ok (.fz (.dic ks xs)) (o0 :: o1 :: o2 :: o3 :: o4 :: o5 :: o6 :: o7 :: o8 :: o9 :: o10 :: o11 :: o12 :: o13 :: o14 :: o15 :: o16 :: some (.fz (.dic ks xs)) :: r) S := rfl
theorem vt17 (o0 o1 o2 o3 o4 o5 o6 o7 o8 o9 o10 o11 o12 o13 o14 o15 o16 : Option Val) : varX 17 (o0 :: o1 :: o2 :: o3 :: o4 :: o5 :: o6 :: o7 :: o8 :: o9 :: o10 :: o11 :: o12 :: o13 :: o14 :: o15 :: o16 :: some (.own (.dT kt xs)) :: r) S = .ok (.fz (.dit kt xs)) (o0 :: o1 :: o2 :: o3 :: o4 :: o5 :: o6 :: o7 :: o8 :: o9 :: o10 :: o11 :: o12 :: o13 :: o14 :: o15 :: o16 :: some (.fz (.dit kt xs)) :: r) S := rfl
theorem vx18 (o0 o1 o2 o3 o4 o5 o6 o7 o8 o9 o10 o11 o12 o13 o14 o15 o16 o17 : Option Val) : varX 18 (o0 :: o1 :: o2 :: o3 :: o4 :: o5 :: o6 :: o7 :: o8 :: o9 :: o10 :: o11 :: o12 :: o13 :: o14 :: o15 :: o16 :: o17 :: some (.fz d) :: r) S = .ok (.fz d) (o0 :: o1 :: o2 :: o3 :: o4 :: o5 :: o6 :: o7 :: o8 :: o9 :: o10 :: o11 :: o12 :: o13 :: o14 :: o15 :: o16 :: o17 :: some (.fz d) :: r) S := rfl
theorem vo18 (o0 o1 o2 o3 o4 o5 o6 o7 o8 o9 o10 o11 o12 o13 o14 o15 o16 o17 : Option Val) : varX 18 (o0 :: o1 :: o2 :: o3 :: o4 :: o5 :: o6 :: o7 :: o8 :: o9 :: o10 :: o11 :: o12 :: o13 :: o14 :: o15 :: o16 :: o17 :: some (.own (.lst xs)) :: r) S = .ok (.fz (.lst xs)) (o0 :: o1 :: o2 :: o3 :: o4 :: o5 :: o6 :: o7 :: o8 :: o9 :: o10 :: o11 :: o12 :: o13 :: o14 :: o15 :: o16 :: o17 :: some (.fz (.lst xs)) :: r) S := rfl
theorem pk18 (o0 o1 o2 o3 o4 o5 o6 o7 o8 o9 o10 o11 o12 o13 o14 o15 o16 o17 : Option Val) : peek 18 (o0 :: o1 :: o2 :: o3 :: o4 :: o5 :: o6 :: o7 :: o8 :: o9 :: o10 :: o11 :: o12 :: o13 :: o14 :: o15 :: o16 :: o17 :: some (.fz d) :: r) S = some (look S d) := rfl
theorem po18 (o0 o1 o2 o3 o4 o5 o6 o7 o8 o9 o10 o11 o12 o13 o14 o15 o16 o17 : Option Val) : peek 18 (o0 :: o1 :: o2 :: o3 :: o4 :: o5 :: o6 :: o7 :: o8 :: o9 :: o10 :: o11 :: o12 :: o13 :: o14 :: o15 :: o16 :: o17 :: some (.own (.lst xs)) :: r) S = some (.lst xs) := rfl
theorem ol18 (o0 o1 o2 o3 o4 o5 o6 o7 o8 o9 o10 o11 o12 o13 o14 o15 o16 o17 : Option Val) : ownL 18 (o0 :: o1 :: o2 :: o3 :: o4 :: o5 :: o6 :: o7 :: o8 :: o9 :: o10 :: o11 :: o12 :: o13 :: o14 :: o15 :: o16 :: o17 :: some (.own (.lst xs)) :: r) = true := rfl
theorem rf18 (o0 o1 o2 o3 o4 o5 o6 o7 o8 o9 o10 o11 o12 o13 o14 o15 o16 o17 : Option Val) (f : Frame → Store → RX Val) : retX (.var 18) f (o0 :: o1 :: o2 :: o3 :: o4 :: o5 :: o6 :: o7 :: o8 :: o9 :: o10 :: o11 :: o12 :: o13 :: o14 :: o15 :: o16 :: o17 :: some (.fz d) :: r) S = .ok (.fz d) (o0 :: o1 :: o2 :: o3 :: o4 :: o5 :: o6 :: o7 :: o8 :: o9 :: o10 :: o11 :: o12 :: o13 :: o14 :: o15 :: o16 :: o17 :: some (.fz d) :: r) S := rfl
theorem ro18 (o0 o1 o2 o3 o4 o5 o6 o7 o8 o9 o10 o11 o12 o13 o14 o15 o16 o17 : Option Val) (f : Frame → Store → RX Val) (c : Cell) : retX (.var 18) f (o0 :: o1 :: o2 :: o3 :: o4 :: o5 :: o6 :: o7 :: o8 :: o9 :: o10 :: o11 :: o12 :: o13 :: o14 :: o15 :: o16 :: o17 :: some (.own c) :: r) S = .ok (.own c) (o0 :: o1 :: o2 :: o3 :: o4 :: o5 :: o6 :: o7 :: o8 :: o9 :: o10 :: o11 :: o12 :: o13 :: o14 :: o15 :: o16 :: o17 :: none :: r) S := rfl
theorem st18 (o0 o1 o2 o3 o4 o5 o6 o7 o8 o9 o10 o11 o12 o13 o14 o15 o16 o17 : Option Val) (v : Option Val) : List.set (o0 :: o1 :: o2 :: o3 :: o4 :: o5 :: o6 :: o7 :: o8 :: o9 :: o10 :: o11 :: o12 :: o13 :: o14 :: o15 :: o16 :: o17 :: o :: r) 18 v = o0 :: o1 :: o2 :: o3 :: o4 :: o5 :: o6 :: o7 :: o8 :: o9 :: o10 :: o11 :: o12 :: o13 :: o14 :: o15 :: o16 :: o17 :: v :: r := rfl
theorem pd18 (o0 o1 o2 o3 o4 o5 o6 o7 o8 o9 o10 o11 o12 o13 o14 o15 o16 o17 : Option Val) : peek 18 (o0 :: o1 :: o2 :: o3 :: o4 :: o5 :: o6 :: o7 :: o8 :: o9 :: o10 :: o11 :: o12 :: o13 :: o14 :: o15 :: o16 :: o17 :: some (.own (.dK ks xs)) :: r) S = some (.dic ks xs) := rfl
theorem pt18 (o0 o1 o2 o3 o4 o5 o6 o7 o8 o9 o10 o11 o12 o13 o14 o15 o16 o17 : Option Val) : peek 18 (o0 :: o1 :: o2 :: o3 :: o4 :: o5 :: o6 :: o7 :: o8 :: o9 :: o10 :: o11 :: o12 :: o13 :: o14 :: o15 :: o16 :: o17 :: some (.own (.dT kt xs)) :: r) S = some (.dit kt xs) := rfl
theorem od18 (o0 o1 o2 o3 o4 o5 o6 o7 o8 o9 o10 o11 o12 o13 o14 o15 o16 o17 : Option Val) : ownT 18 (o0 :: o1 :: o2 :: o3 :: o4 :: o5 :: o6 :: o7 :: o8 :: o9 :: o10 :: o11 :: o12 :: o13 :: o14 :: o15 :: o16 :: o17 :: some (.own (.dK ks xs)) :: r) = true := rfl
theorem ot18 (o0 o1 o2 o3 o4 o5 o6 o7 o8 o9 o10 o11 o12 o13 o14 o15 o16 o17 : Option Val) : ownT 18 (o0 :: o1 :: o2 :: o3 :: o4 :: o5 :: o6 :: o7 :: o8 :: o9 :: o10 :: o11 :: o12 :: o13 :: o14 :: o15 :: o16 :: o17 :: some (.own (.dT kt xs)) :: r) = true := rfl
theorem vd18 (o0 o1 o2 o3 o4 o5 o6 o7 o8 o9 o10 o11 o12 o13 o14 o15 o16 o17 : Option Val) : varX 18 (o0 :: o1 :: o2 :: o3 :: o4 :: o5 :: o6 :: o7 :: o8 :: o9 :: o10 :: o11 :: o12 :: o13 :: o14 :: o15 :: o16 :: o17 :: some (.own (.dK ks xs)) :: r) S = .ok (.fz (.dic ks xs)) (o0 :: o1 :: o2 :: o3 :: o4 :: o5 :: o6 :: o7 :: o8 :: o9 :: o10 :: o11 :: o12 :: o13 :: o14 :: o15 :: o16 :: o17 :: some (.fz (.dic ks xs)) :: r) S := rfl
theorem vt18 (o0 o1 o2 o3 o4 o5 o6 o7 o8 o9 o10 o11 o12 o13 o14 o15 o16 o17 : Option Val) : varX 18 (o0 :: o1 :: o2 :: o3 :: o4 :: o5 :: o6 :: o7 :: o8 :: o9 :: o10 :: o11 :: o12 :: o13 :: o14 :: o15 :: o16 :: o17 :: some (.own (.dT kt xs)) :: r) S = .ok (.fz (.dit kt xs)) (o0 :: o1 :: o2 :: o3 :: o4 :: o5 :: o6 :: o7 :: o8 :: o9 :: o10 :: o11 :: o12 :: o13 :: o14 :: o15 :: o16 :: o17 :: some (.fz (.dit kt xs)) :: r) S := rfl
theorem vx19 (o0 o1 o2 o3 o4 o5 o6 o7 o8 o9 o10 o11 o12 o13 o14 o15 o16 o17 o18 : Option Val) : varX 19 (o0 :: o1 :: o2 :: o3 :: o4 :: o5 :: o6 :: o7 :: o8 :: o9 :: o10 :: o11 :: o12 :: o13 :: o14 :: o15 :: o16 :: o17 :: o18 :: some (.fz d) :: r) S = .ok (.fz d) (o0 :: o1 :: o2 :: o3 :: o4 :: o5 :: o6 :: o7 :: o8 :: o9 :: o10 :: o11 :: o12 :: o13 :: o14 :: o15 :: o16 :: o17 :: o18 :: some (.fz d) :: r) S := rfl
theorem vo19 (o0 o1 o2 o3 o4 o5 o6 o7 o8 o9 o10 o11 o12 o13 o14 o15 o16 o17 o18 : Option Val) : varX 19 (o0 :: o1 :: o2 :: o3 :: o4 :: o5 :: o6 :: o7 :: o8 :: o9 :: o10 :: o11 :: o12 :: o13 :: o14 :: o15 :: o16 :: o17 :: o18 :: some (.own (.lst xs)) :: r) S = .ok (.fz (.lst xs)) (o0 :: o1 :: o2 :: o3 :: o4 :: o5 :: o6 :: o7 :: o8 :: o9 :: o10 :: o11 :: o12 :: o13 :: o14 :: o15 :: o16 :: o17 :: o18 :: some (.fz (.lst xs)) :: r) S := rfl
theorem pk19 (o0 o1 o2 o3 o4 o5 o6 o7 o8 o9 o10 o11 o12 o13 o14 o15 o16 o17 o18 : Option Val) : peek 19 (o0 :: o1 :: o2 :: o3 :: o4 :: o5 :: o6 :: o7 :: o8 :: o9 :: o10 :: o11 :: o12 :: o13 :: o14 :: o15 :: o16 :: o17 :: o18 :: some (.fz d) :: r) S = some (look S d) := rfl
theorem po19 (o0 o1 o2 o3 o4 o5 o6 o7 o8 o9 o10 o11 o12 o13 o14 o15 o16 o17 o18 : Option Val) : peek 19 (o0 :: o1 :: o2 :: o3 :: o4 :: o5 :: o6 :: o7 :: o8 :: o9 :: o10 :: o11 :: o12 :: o13 :: o14 :: o15 :: o16 :: o17 :: o18 :: some (.own (.lst xs)) :: r) S = some (.lst xs) := rfl
theorem ol19 (o0 o1 o2 o3 o4 o5 o6 o7 o8 o9 o10 o11 o12 o13 o14 o15 o16 o17 o18 : Option Val) : ownL 19 (o0 :: o1 :: o2 :: o3 :: o4 :: o5 :: o6 :: o7 :: o8 :: o9 :: o10 :: o11 :: o12 :: o13 :: o14 :: o15 :: o16 :: o17 :: o18 :: some (.own (.lst xs)) :: r) = true := rfl
theorem rf19 (o0 o1 o2 o3 o4 o5 o6 o7 o8 o9 o10 o11 o12 o13 o14 o15 o16 o17 o18 : Option Val) (f : Frame → Store → RX Val) : retX (.var 19) f (o0 :: o1 :: o2 :: o3 :: o4 :: o5 :: o6 :: o7 :: o8 :: o9 :: o10 :: o11 :: o12 :: o13 :: o14 :: o15 :: o16 :: o17 :: o18 :: some (.fz d) :: r) S = .ok (.fz d) (o0 :: o1 :: o2 :: o3 :: o4 :: o5 :: o6 :: o7 :: o8 :: o9 :: o10 :: o11 :: o12 :: o13 :: o14 :: o15 :: o16 :: o17 :: o18 :: some (.fz d) :: r) S := rfl
theorem ro19 (o0 o1 o2 o3 o4 o5 o6 o7 o8 o9 o10 o11 o12 o13 o14 o15 o16 o17 o18 : Option Val) (f : Frame → Store → RX Val) (c : Cell) : retX (.var 19) f (o0 :: o1 :: o2 :: o3 :: o4 :: o5 :: o6 :: o7 :: o8 :: o9 :: o10 :: o11 :: o12 :: o13 :: o14 :: o15 :: o16 :: o17 :: o18 :: some (.own c) :: r) S = .ok (.own c) (o0 :: o1 :: o2 :: o3 :: o4 :: o5 :: o6 :: o7 :: o8 :: o9 :: o10 :: o11 :: o12 :: o13 :: o14 :: o15 :: o16 :: o17 :: o18 :: none :: r) S := rfl
theorem st19 (o0 o1 o2 o3 o4 o5 o6 o7 o8 o9 o10 o11 o12 o13 o14 o15 o16 o17 o18 : Option Val) (v : Option Val) : List.set (o0 :: o1 :: o2 :: o3 :: o4 :: o5 :: o6 :: o7 :: o8 :: o9 :: o10 :: o11 :: o12 :: o13 :: o14 :: o15 :: o16 :: o17 :: o18 :: o :: r) 19 v = o0 :: o1 :: o2 :: o3 :: o4 :: o5 :: o6 :: o7 :: o8 :: o9 :: o10 :: o11 :: o12 :: o13 :: o14 :: o15 :: o16 :: o17 :: o18 :: v :: r := rfl
theorem pd19 (o0 o1 o2 o3 o4 o5 o6 o7 o8 o9 o10 o11 o12 o13 o14 o15 o16 o17 o18 : Option Val) : peek 19 (o0 :: o1 :: o2 :: o3 :: o4 :: o5 :: o6 :: o7 :: o8 :: o9 :: o10 :: o11 :: o12 :: o13 :: o14 :: o15 :: o16 :: o17 :: o18 :: some (.own (.dK ks xs)) :: r) S = some (.dic ks xs) := rfl
theorem pt19 (o0 o1 o2 o3 o4 o5 o6 o7 o8 o9 o10 o11 o12 o13 o14 o15 o16 o17 o18 : Option Val) : peek 19 (o0 :: o1 :: o2 :: o3 :: o4 :: o5 :: o6 :: o7 :: o8 :: o9 :: o10 :: o11 :: o12 :: o13 :: o14 :: o15 :: o16 :: o17 :: o18 :: some (.own (.dT kt xs)) :: r) S = some (.dit kt xs) := rfl
theorem od19 (o0 o1 o2 o3 o4 o5 o6 o7 o8 o9 o10 o11 o12 o13 o14 o15 o16 o17 o18 : Option Val) : ownT 19 (o0 :: o1 :: o2 :: o3 :: o4 :: o5 :: o6 :: o7 :: o8 :: o9 :: o10 :: o11 :: o12 :: o13 :: o14 :: o15 :: o16 :: o17 :: o18 :: some (.own (.dK ks xs)) :: r) = true := rfl
theorem ot19 (o0 o1 o2 o3 o4 o5 o6 o7 o8 o9 o10 o11 o12 o13 o14 o15 o16 o17 o18 : Option Val) : ownT 19 (o0 :: o1 :: o2 :: o3 :: o4 :: o5 :: o6 :: o7 :: o8 :: o9 :: o10 :: o11 :: o12 :: o13 :: o14 :: o15 :: o16 :: o17 :: o18 :: some (.own (.dT kt xs)) :: r) = true := rfl
theorem vd19 (o0 o1 o2 o3 o4 o5 o6 o7 o8 o9 o10 o11 o12 o13 o14 o15 o16 o17 o18 : Option Val) : varX 19 (o0 :: o1 :: o2 :: o3 :: o4 :: o5 :: o6 :: o7 :: o8 :: o9 :: o10 :: o11 :: o12 :: o13 :: o14 :: o15 :: o16 :: o17 :: o18 :: some (.own (.dK ks xs)) :: r) S = .ok (.fz (.dic ks xs)) (o0 :: o1 :: o2 :: o3 :: o4 :: o5 :: o6 :: o7 :: o8 :: o9 :: o10 :: o11 :: o12 :: o13 :: o14 :: o15 :: o16 :: o17 :: o18 :: some (.fz (.dic ks xs)) :: r) S := rfl
theorem vt19 (o0 o1 o2 o3 o4 o5 o6 o7 o8 o9 o10 o11 o12 o13 o14 o15 o16 o17 o18 : Option Val) : varX 19 (o0 :: o1 :: o2 :: o3 :: o4 :: o5 :: o6 :: o7 :: o8 :: o9 :: o10 :: o11 :: o12 :: o13 :: o14 :: o15 :: o16 :: o17 :: o18 :: some (.own (.dT kt xs)) :: r) S = .ok (.fz (.dit kt xs)) (o0 :: o1 :: o2 :: o3 :: o4 :: o5 :: o6 :: o7 :: o8 :: o9 :: o10 :: o11 :: o12 :: o13 :: o14 :: o15 :: o16 :: o17 :: o18 :: some (.fz (.dit kt xs)) :: r) S := rfl
theorem vx20 (o0 o1 o2 o3 o4 o5 o6 o7 o8 o9 o10 o11 o12 o13 o14 o15 o16 o17 o18 o19 : Option Val) : varX 20 (o0 :: o1 :: o2 :: o3 :: o4 :: o5 :: o6 :: o7 :: o8 :: o9 :: o10 :: o11 :: o12 :: o13 :: o14 :: o15 :: o16 :: o17 :: o18 :: o19 :: some (.fz d) :: r) S = .ok (.fz d) (o0 :: o1 :: o2 :: o3 :: o4 :: o5 :: o6 :: o7 :: o8 :: o9 :: o10 :: o11 :: o12 :: o13 :: o14 :: o15 :: o16 :: o17 :: o18 :: o19 :: some (.fz d) :: r) S := rfl
theorem vo20 (o0 o1 o2 o3 o4 o5 o6 o7 o8 o9 o10 o11 o12 o13 o14 o15 o16 o17 o18 o19 : Option Val) : varX 20 (o0 :: o1 :: o2 :: o3 :: o4 :: o5 :: o6 :: o7 :: o8 :: o9 :: o10 :: o11 :: o12 :: o13 :: o14 :: o15 :: o16 :: o17 :: o18 :: o19 :: some (.own (.lst xs)) :: r) S = .ok (.fz (.lst xs)) (o0 :: o1 :: o2 :: o3 :: o4 :: o5 :: o6 :: o7 :: o8 :: o9 :: o10 :: o11 :: o12 :: o13 :: o14 :: o15 :: o16 :: o17 :: o18 :: o19 :: some (.fz (.lst xs)) :: r) S := rfl
theorem pk20 (o0 o1 o2 o3 o4 o5 o6 o7 o8 o9 o10 o11 o12 o13 o14 o15 o16 o17 o18 o19 : Option Val) : peek 20 (o0 :: o1 :: o2 :: o3 :: o4 :: o5 :: o6 :: o7 :: o8 :: o9 :: o10 :: o11 :: o12 :: o13 :: o14 :: o15 :: o16 :: o17 :: o18 :: o19 :: some (.fz d) :: r) S = some (look S d) := rfl
theorem po20 (o0 o1 o2 o3 o4 o5 o6 o7 o8 o9 o10 o11 o12 o13 o14 o15 o16 o17 o18 o19 : Option Val) : peek 20 (o0 :: o1 :: o2 :: o3 :: o4 :: o5 :: o6 :: o7 :: o8 :: o9 :: o10 :: o11 :: o12 :: o13 :: o14 :: o15 :: o16 :: o17 :: o18 :: o19 :: some (.own (.lst xs)) :: r) S = some (.lst xs) := rfl
theorem ol20 (o0 o1 o2 o3 o4 o5 o6 o7 o8 o9 o10 o11 o12 o13 o14 o15 o16 o17 o18 o19 : Option Val) : ownL 20 (o0 :: o1 :: o2 :: o3 :: o4 :: o5 :: o6 :: o7 :: o8 :: o9 :: o10 :: o11 :: o12 :: o13 :: o14 :: o15 :: o16 :: o17 :: o18 :: o19 :: some (.own (.lst xs)) :: r) = true := rfl
theorem rf20 (o0 o1 o2 o3 o4 o5 o6 o7 o8 o9 o10 o11 o12 o13 o14 o15 o16 o17 o18 o19 : Option Val) (f : Frame → Store → RX Val) : retX (.var 20) f (o0 :: o1 :: o2 :: o3 :: o4 :: o5 :: o6 :: o7 :: o8 :: o9 :: o10 :: o11 :: o12 :: o13 :: o14 :: o15 :: o16 :: o17 :: o18 :: o19 :: some (.fz d) :: r) S = .ok (.fz d) (o0 :: o1 :: o2 :: o3 :: o4 :: o5 :: o6 :: o7 :: o8 :: o9 :: o10 :: o11 :: o12 :: o13 :: o14 :: o15 :: o16 :: o17 :: o18 :: o19 :: some (.fz d) :: r) S := rfl
theorem ro20 (o0 o1 o2 o3 o4 o5 o6 o7 o8 o9 o10 o11 o12 o13 o14 o15 o16 o17 o18 o19 : Option Val) (f : Frame → Store → RX Val) (c : Cell) : retX (.var 20) f (o0 :: o1 :: o2 :: o3 :: o4 :: o5 :: o6 :: o7 :: o8 :: o9 :: o10 :: o11 :: o12 :: o13 :: o14 :: o15 :: o16 :: o17 :: o18 :: o19 :: some (.own c) :: r) S = .ok (.own c) (o0 :: o1 :: o2 :: o3 :: o4 :: o5 :: o6 :: o7 :: o8 :: o9 :: o10 :: o11 :: o12 :: o13 :: o14 :: o15 :: o16 :: o17 :: o18 :: o19 :: none :: r) S := rfl
theorem st20 (o0 o1 o2 o3 o4 o5 o6 o7 o8 o9 o10 o11 o12 o13 o14 o15 o16 o17 o18 o19 : Option Val) (v : Option Val) : List.set (o0 :: o1 :: o2 :: o3 :: o4 :: o5 :: o6 :: o7 :: o8 :: o9 :: o10 :: o11 :: o12 :: o13 :: o14 :: o15 :: o16 :: o17 :: o18 :: o19 :: o :: r) 20 v = o0 :: o1 :: o2 :: o3 :: o4 :: o5 :: o6 :: o7 :: o8 :: o9 :: o10 :: o11 :: o12 :: o13 :: o14 :: o15 :: o16 :: o17 :: o18 :: o19 :: v :: r := rfl
theorem pd20 (o0 o1 o2 o3 o4 o5 o6 o7 o8 o9 o10 o11 o12 o13 o14 o15 o16 o17 o18 o19 : Option Val) : peek 20 (o0 :: o1 :: o2 :: o3 :: o4 :: o5 :: o6 :: o7 :: o8 :: o9 :: o10 :: o11 :: o12 :: o13 :: o14 :: o15 :: o16 :: o17 :: o18 :: o19 :: some (.own (.dK ks xs)) :: r) S = some (.dic ks xs) := rfl
theorem pt20 (o0 o1 o2 o3 o4 o5 o6 o7 o8 o9 o10 o11 o12 o13 o14 o15 o16 o17 o18 o19 : Option Val) : peek 20 (o0 :: o1 :: o2 :: o3 :: o4 :: o5 :: o6 :: o7 :: o8 :: o9 :: o10 :: o11 :: o12 :: o13 :: o14 :: o15 :: o16 :: o17 :: o18 :: o19 :: some (.own (.dT kt xs)) :: r) S = some (.dit kt xs) := rfl
theorem od20 (o0 o1 o2 o3 o4 o5 o6 o7 o8 o9 o10 o11 o12 o13 o14 o15 o16 o17 o18 o19 : Option Val) : ownT 20 (o0 :: o1 :: o2 :: o3 :: o4 :: o5 :: o6 :: o7 :: o8 :: o9 :: o10 :: o11 :: o12 :: o13 :: o14 :: o15 :: o16 :: o17 :: o18 :: o19 :: some (.own (.dK ks xs)) :: r) = true := rfl
theorem ot20 (o0 o1 o2 o3 o4 o5 o6 o7 o8 o9 o10 o11 o12 o13 o14 o15 o16 o17 o18 o19 : Option Val) : ownT 20 (o0 :: o1 :: o2 :: o3 :: o4 :: o5 :: o6 :: o7 :: o8 :: o9 :: o10 :: o11 :: o12 :: o13 :: o14 :: o15 :: o16 :: o17 :: o18 :: o19 :: some (.own (.dT kt xs)) :: r) = true := rfl
theorem vd20 (o0 o1 o2 o3 o4 o5 o6 o7 o8 o9 o10 o11 o12 o13 o14 o15 o16 o17 o18 o19 : Option Val) : varX 20 (o0 :: o1 :: o2 :: o3 :: o4 :: o5 :: o6 :: o7 :: o8 :: o9 :: o10 :: o11 :: o12 :: o13 :: o14 :: o15 :: o16 :: o17 :: o18 :: o19 :: some (.own (.dK ks xs)) :: r) S = .ok (.fz (.dic ks xs)) (o0 :: o1 :: o2 :: o3 :: o4 :: o5 :: o6 :: o7 :: o8 :: o9 :: o10 :: o11 :: o12 :: o13 :: o14 :: o15 :: o16 :: o17 :: o18 :: o19 :: some (.fz (.dic ks xs)) :: r) S := rfl
theorem vt20 (o0 o1 o2 o3 o4 o5 o6 o7 o8 o9 o10 o11 o12 o13 o14 o15 o16 o17 o18 o19 : Option Val) : varX 20 (o0 :: o1 :: o2 :: o3 :: o4 :: o5 :: o6 :: o7 :: o8 :: o9 :: o10 :: o11 :: o12 :: o13 :: o14 :: o15 :: o16 :: o17 :: o18 :: o19 :: some (.own (.dT kt xs)) :: r) S = .ok (.fz (.dit kt xs)) (o0 :: o1 :: o2 :: o3 :: o4 :: o5 :: o6 :: o7 :: o8 :: o9 :: o10 :: o11 :: o12 :: o13 :: o14 :: o15 :: o16 :: o17 :: o18 :: o19 :: some (.fz (.dit kt xs)) :: r) S := rfl
theorem vx21 (o0 o1 o2 o3 o4 o5 o6 o7 o8 o9 o10 o11 o12 o13 o14 o15 o16 o17 o18 o19 o20 : Option Val) : varX 21 (o0 :: o1 :: o2 :: o3 :: o4 :: o5 :: o6 :: o7 :: o8 :: o9 :: o10 :: o11 :: o12 :: o13 :: o14 :: o15 :: o16 :: o17 :: o18 :: o19 :: o20 :: some (.fz d) :: r) S = .ok (.fz d) (o0 :: o1 :: o2 :: o3 :: o4 :: o5 :: o6 :: o7 :: o8 :: o9 :: o10 :: o11 :: o12 :: o13 :: o14 :: o15 :: o16 :: o17 :: o18 :: o19 :: o20 :: some (.fz d) :: r) S := rfl
theorem vo21 (o0 o1 o2 o3 o4 o5 o6 o7 o8 o9 o10 o11 o12 o13 o14 o15 o16 o17 o18 o19 o20 : Option Val) : varX 21 (o0 :: o1 :: o2 :: o3 :: o4 :: o5 :: o6 :: o7 :: o8 :: o9 :: o10 :: o11 :: o12 :: o13 :: o14 :: o15 :: o16 :: o17 :: o18 :: o19 :: o20 :: some (.own (.lst xs)) :: r) S = .ok (.fz (.lst xs)) (o0 :: o1 :: o2 :: o3 :: o4 :: o5 :: o6 :: o7 :: o8 :: o9 :: o10 :: o11 :: o12 :: o13 :: o14 :: o15 :: o16 :: o17 :: o18 :: o19 :: o20 :: some (.fz (.lst xs)) :: r) S := rfl
theorem pk21 (o0 o1 o2 o3 o4 o5 o6 o7 o8 o9 o10 o11 o12 o13 o14 o15 o16 o17 o18 o19 o20 : Option Val) : peek 21 (o0 :: o1 :: o2 :: o3 :: o4 :: o5 :: o6 :: o7 :: o8 :: o9 :: o10 :: o11 :: o12 :: o13 :: o14 :: o15 :: o16 :: o17 :: o18 :: o19 :: o20 :: some (.fz d) :: r) S = some (look S d) := rfl
theorem po21 (o0 o1 o2 o3 o4 o5 o6 o7 o8 o9 o10 o11 o12 o13 o14 o15 o16 o17 o18 o19 o20 : Option Val) : peek 21 (o0 :: o1 :: o2 :: o3 :: o4 :: o5 :: o6 :: o7 :: o8 :: o9 :: o10 :: o11 :: o12 :: o13 :: o14 :: o15 :: o16 :: o17 :: o18 :: o19 :: o20 :: some (.own (.lst xs)) :: r) S = some (.lst xs) := rfl
theorem ol21 (o0 o1 o2 o3 o4 o5 o6 o7 o8 o9 o10 o11 o12 o13 o14 o15 o16 o17 o18 o19 o20 : Option Val) : ownL 21 (o0 :: o1 :: o2 :: o3 :: o4 :: o5 :: o6 :: o7 :: o8 :: o9 :: o10 :: o11 :: o12 :: o13 :: o14 :: o15 :: o16 :: o17 :: o18 :: o19 :: o20 :: some (.own (.lst xs)) :: r) = true := rfl
theorem rf21 (o0 o1 o2 o3 o4 o5 o6 o7 o8 o9 o10 o11 o12 o13 o14 o15 o16 o17 o18 o19 o20 : Option Val) (f : Frame → Store → RX Val) : retX (.var 21) f (o0 :: o1 :: o2 :: o3 :: o4 :: o5 :: o6 :: o7 :: o8 :: o9 :: o10 :: o11 :: o12 :: o13 :: o14 :: o15 :: o16 :: o17 :: o18 :: o19 :: o20 :: some (.fz d) :: r) S = .ok (.fz d) (o0 :: o1 :: o2 :: o3 :: o4 :: o5 :: o6 :: o7 :: o8 :: o9 :: o10 :: o11 :: o12 :: o13 :: o14 :: o15 :: o16 :: o17 :: o18 :: o19 :: o20 :: some (.fz d) :: r) S := rfl
theorem ro21 (o0 o1 o2 o3 o4 o5 o6 o7 o8 o9 o10 o11 o12 o13 o14 o15 o16 o17 o18 o19 o20 : Option Val) (f : Frame → Store → RX Val) (c : Cell) : retX (.var 21) f (o0 :: o1 :: o2 :: o3 :: o4 :: o5 :: o6 :: o7 :: o8 :: o9 :: o10 :: o11 :: o12 :: o13 :: o14 :: o15 :: o16 :: o17 :: o18 :: o19 :: o20 :: some (.own c) :: r) S = .ok (.own c) (o0 :: o1 :: o2 :: o3 :: o4 :: o5 :: o6 :: o7 :: o8 :: o9 :: o10 :: o11 :: o12 :: o13 :: o14 :: o15 :: o16 :: o17 :: o18 :: o19 :: o20 :: none :: r) S := rfl
theorem st21 (o0 o1 o2 o3 o4 o5 o6 o7 o8 o9 o10 o11 o12 o13 o14 o15 o16 o17 o18 o19 o20 : Option Val) (v : Option Val) : List.set (o0 :: o1 :: o2 :: o3 :: o4 :: o5 :: o6 :: o7 :: o8 :: o9 :: o10 :: o11 :: o12 :: o13 :: o14 :: o15 :: o16 :: o17 :: o18 :: o19 :: o20 :: o :: r) 21 v = o0 :: o1 :: o2 :: o3 :: o4 :: o5 :: o6 :: o7 :: o8 :: o9 :: o10 :: o11 :: o12 :: o13 :: o14 :: o15 :: o16 :: o17 :: o18 :: o19 :: o20 :: v :: r := rfl
theorem pd21 (o0 o1 o2 o3 o4 o5 o6 o7 o8 o9 o10 o11 o12 o13 o14 o15 o16 o17 o18 o19 o20 : Option Val) : peek 21 (o0 :: o1 :: o2 :: o3 :: o4 :: o5 :: o6 :: o7 :: o8 :: o9 :: o10 :: o11 :: o12 :: o13 :: o14 :: o15 :: o16 :: o17 :: o18 :: o19 :: o20 :: some (.own (.dK ks xs)) :: r) S = some (.dic ks xs) := rfl
theorem pt21 (o0 o1 o2 o3 o4 o5 o6 o7 o8 o9 o10 o11 o12 o13 o14 o15 o16 o17 o18 o19 o20 : Option Val) : peek 21 (o0 :: o1 :: o2 :: o3 :: o4 :: o5 :: o6 :: o7 :: o8 :: o9 :: o10 :: o11 :: o12 :: o13 :: o14 :: o15 :: o16 :: o17 :: o18 :: o19 :: o20 :: some (.own (.dT kt xs)) :: r) S = some (.dit kt xs) := rfl
theorem od21 (o0 o1 o2 o3 o4 o5 o6 o7 o8 o9 o10 o11 o12 o13 o14 o15 o16 o17 o18 o19 o20 : Option Val) : ownT 21 (o0 :: o1 :: o2 :: o3 :: o4 :: o5 :: o6 :: o7 :: o8 :: o9 :: o10 :: o11 :: o12 :: o13 :: o14 :: o15 :: o16 :: o17 :: o18 :: o19 :: o20 :: some (.own (.dK ks xs)) :: r) = true := rfl
theorem ot21 (o0 o1 o2 o3 o4 o5 o6 o7 o8 o9 o10 o11 o12 o13 o14 o15 o16 o17 o18 o19 o20 : Option Val) : ownT 21 (o0 :: o1 :: o2 :: o3 :: o4 :: o5 :: o6 :: o7 :: o8 :: o9 :: o10 :: o11 :: o12 :: o13 :: o14 :: o15 :: o16 :: o17 :: o18 :: o19 :: o20 :: some (.own (.dT kt xs)) :: r) = true := rfl
theorem vd21 (o0 o1 o2 o3 o4 o5 o6 o7 o8 o9 o10 o11 o12 o13 o14 o15 o16 o17 o18 o19 o20 : Option Val) : varX 21 (o0 :: o1 :: o2 :: o3 :: o4 :: o5 :: o6 :: o7 :: o8 :: o9 :: o10 :: o11 :: o12 :: o13 :: o14 :: o15 :: o16 :: o17 :: o18 :: o19 :: o20 :: some (.own (.dK ks xs)) :: r) S = .ok (.fz (.dic ks xs)) (o0 :: o1 :: o2 :: o3 :: o4 :: o5 :: o6 :: o7 :: o8 :: o9 :: o10 :: o11 :: o12 :: o13 :: o14 :: o15 :: o16 :: o17 :: o18 :: o19 :: o20 :: some (.fz (.dic ks xs)) :: r) S := rfl
theorem vt21 (o0 o1 o2 o3 o4 o5 o6 o7 o8 o9 o10 o11 o12 o13 o14 o15 o16 o17 o18 o19 o20 : Option Val) : varX 21 (o0 :: o1 :: o2 :: o3 :: o4 :: o5 :: o6 :: o7 :: o8 :: o9 :: o10 :: o11 :: o12 :: o13 :: o14 :: o15 :: o16 :: o17 :: o18 :: o19 :: o20 :: some (.own (.dT kt xs)) :: r) S = .ok (.fz (.dit kt xs)) (o0 :: o1 :: o2 :: o3 :: o4 :: o5 :: o6 :: o7 :: o8 :: o9 :: o10 :: o11 :: o12 :: o13 :: o14 :: o15 :: o16 :: o17 :: o18 :: o19 :: o20 :: some (.fz (.dit kt xs)) :: r) S := rfl
theorem vx22 (o0 o1 o2 o3 o4 o5 o6 o7 o8 o9 o10 o11 o12 o13 o14 o15 o16 o17 o18 o19 o20 o21 : Option Val) : varX 22 (o0 :: o1 :: o2 :: o3 :: o4 :: o5 :: o6 :: o7 :: o8 :: o9 :: o10 :: o11 :: o12 :: o13 :: o14 :: o15 :: o16 :: o17 :: o18 :: o19 :: o20 :: o21 :: some (.fz d) :: r) S = .ok (.fz d) (o0 :: o1 :: o2 :: o3 :: o4 :: o5 :: o6 :: o7 :: o8 :: o9 :: o10 :: o11 :: o12 :: o13 :: o14 :: o15 :: o16 :: o17 :: o18 :: o19 :: o20 :: o21 :: some (.fz d) :: r) S := rfl
theorem vo22 (o0 o1 o2 o3 o4 o5 o6 o7 o8 o9 o10 o11 o12 o13 o14 o15 o16 o17 o18 o19 o20 o21 : Option Val) : varX 22 (o0 :: o1 :: o2 :: o3 :: o4 :: o5 :: o6 :: o7 :: o8 :: o9 :: o10 :: o11 :: o12 :: o13 :: o14 :: o15 :: o16 :: o17 :: o18 :: o19 :: o20 :: o21 :: some (.own (.lst xs)) :: r) S = .ok (.fz (.lst xs)) (o0 :: o1 :: o2 :: o3 :: o4 :: o5 :: o6 :: o7 :: o8 :: o9 :: o10 :: o11 :: o12 :: o13 :: o14 :: o15 :: o16 :: o17 :: o18 :: o19 :: o20 :: o21 :: some (.fz (.lst xs)) :: r) S := rfl
theorem pk22 (o0 o1 o2 o3 o4 o5 o6 o7 o8 o9 o10 o11 o12 o13 o14 o15 o16 o17 o18 o19 o20 o21 : Option Val) : peek 22 (o0 :: o1 :: o2 :: o3 :: o4 :: o5 :: o6 :: o7 :: o8 :: o9 :: o10 :: o11 :: o12 :: o13 :: o14 :: o15 :: o16 :: o17 :: o18 :: o19 :: o20 :: o21 :: some (.fz d) :: r) S = some (look S d) := rfl
theorem po22 (o0 o1 o2 o3 o4 o5 o6 o7 o8 o9 o10 o11 o12 o13 o14 o15 o16 o17 o18 o19 o20 o21 : Option Val) : peek 22 (o0 :: o1 :: o2 :: o3 :: o4 :: o5 :: o6 :: o7 :: o8 :: o9 :: o10 :: o11 :: o12 :: o13 :: o14 :: o15 :: o16 :: o17 :: o18 :: o19 :: o20 :: o21 :: some (.own (.lst xs)) :: r) S = some (.lst xs) := rfl
theorem ol22 (o0 o1 o2 o3 o4 o5 o6 o7 o8 o9 o10 o11 o12 o13 o14 o15 o16 o17 o18 o19 o20 o21 : Option Val) : ownL 22 (o0 :: o1 :: o2 :: o3 :: o4 :: o5 :: o6 :: o7 :: o8 :: o9 :: o10 :: o11 :: o12 :: o13 :: o14 :: o15 :: o16 :: o17 :: o18 :: o19 :: o20 :: o21 :: some (.own (.lst xs)) :: r) = true := rfl
theorem rf22 (o0 o1 o2 o3 o4 o5 o6 o7 o8 o9 o10 o11 o12 o13 o14 o15 o16 o17 o18 o19 o20 o21 : Option Val) (f : Frame → Store → RX Val) : retX (.var 22) f (o0 :: o1 :: o2 :: o3 :: o4 :: o5 :: o6 :: o7 :: o8 :: o9 :: o10 :: o11 :: o12 :: o13 :: o14 :: o15 :: o16 :: o17 :: o18 :: o19 :: o20 :: o21 :: some (.fz d) :: r) S = .ok (.fz d) (o0 :: o1 :: o2 :: o3 :: o4 :: o5 :: o6 :: o7 :: o8 :: o9 :: o10 :: o11 :: o12 :: o13 :: o14 :: o15 :: o16 :: o17 :: o18 :: o19 :: o20 :: o21 :: some (.fz d) :: r) S := rfl
theorem ro22 (o0 o1 o2 o3 o4 o5 o6 o7 o8 o9 o10 o11 o12 o13 o14 o15 o16 o17 o18 o19 o20 o21 : Option Val) (f : Frame → Store → RX Val) (c : Cell) : retX (.var 22) f (o0 :: o1 :: o2 :: o3 :: o4 :: o5 :: o6 :: o7 :: o8 :: o9 :: o10 :: o11 :: o12 :: o13 :: o14 :: o15 :: o16 :: o17 :: o18 :: o19 :: o20 :: o21 :: some (.own c) :: r) S = .ok (.own c) (o0 :: o1 :: o2 :: o3 :: o4 :: o5 :: o6 :: o7 :: o8 :: o9 :: o10 :: o11 :: o12 :: o13 :: o14 :: o15 :: o16 :: o17 :: o18 :: o19 :: o20 :: o21 :: none :: r) S := rfl
theorem st22 (o0 o1 o2 o3 o4 o5 o6 o7 o8 o9 o10 o11 o12 o13 o14 o15 o16 o17 o18 o19 o20 o21 : Option Val) (v : Option Val) : List.set (o0 :: o1 :: o2 :: o3 :: o4 :: o5 :: o6 :: o7 :: o8 :: o9 :: o10 :: o11 :: o12 :: o13 :: o14 :: o15 :: o16 :: o17 :: o18 :: o19 :: o20 :: o21 :: o :: r) 22 v = o0 :: o1 :: o2 :: o3 :: o4 :: o5 :: o6 :: o7 :: o8 :: o9 :: o10 :: o11 :: o12 :: o13 :: o14 :: o15 :: o16 :: o17 :: o18 :: o19 :: o20 :: o21 :: v :: r := rfl
theorem pd22 (o0 o1 o2 o3 o4 o5 o6 o7 o8 o9 o10 o11 o12 o13 o14 o15 o16 o17 o18 o19 o20 o21 : Option Val) : peek 22 (o0 :: o1 :: o2 :: o3 :: o4 :: o5 :: o6 :: o7 :: o8 :: o9 :: o10 :: o11 :: o12 :: o13 :: o14 :: o15 :: o16 :: o17 :: o18 :: o19 :: o20 :: o21 :: some (.own (.dK ks xs)) :: r) S = some (.dic ks xs) := rfl
theorem pt22 (o0 o1 o2 o3 o4 o5 o6 o7 o8 o9 o10 o11 o12 o13 o14 o15 o16 o17 o18 o19 o20 o21 : Option Val) : peek 22 (o0 :: o1 :: o2 :: o3 :: o4 :: o5 :: o6 :: o7 :: o8 :: o9 :: o10 :: o11 :: o12 :: o13 :: o14 :: o15 :: o16 :: o17 :: o18 :: o19 :: o20 :: o21 :: some (.own (.dT kt xs)) :: r) S = some (.dit kt xs) := rfl
theorem od22 (o0 o1 o2 o3 o4 o5 o6 o7 o8 o9 o10 o11 o12 o13 o14 o15 o16 o17 o18 o19 o20 o21 : Option Val) : ownT 22 (o0 :: o1 :: o2 :: o3 :: o4 :: o5 :: o6 :: o7 :: o8 :: o9 :: o10 :: o11 :: o12 :: o13 :: o14 :: o15 :: o16 :: o17 :: o18 :: o19 :: o20 :: o21 :: some (.own (.dK ks xs)) :: r) = true := rfl
theorem ot22 (o0 o1 o2 o3 o4 o5 o6 o7 o8 o9 o10 o11 o12 o13 o14 o15 o16 o17 o18 o19 o20 o21 : Option Val) : ownT 22 (o0 :: o1 :: o2 :: o3 :: o4 :: o5 :: o6 :: o7 :: o8 :: o9 :: o10 :: o11 :: o12 :: o13 :: o14 :: o15 :: o16 :: o17 :: o18 :: o19 :: o20 :: o21 :: some (.own (.dT kt xs)) :: r) = true := rfl
theorem vd22 (o0 o1 o2 o3 o4 o5 o6 o7 o8 o9 o10 o11 o12 o13 o14 o15 o16 o17 o18 o19 o20 o21 : Option Val) : varX 22 (o0 :: o1 :: o2 :: o3 :: o4 :: o5 :: o6 :: o7 :: o8 :: o9 :: o10 :: o11 :: o12 :: o13 :: o14 :: o15 :: o16 :: o17 :: o18 :: o19 :: o20 :: o21 :: some (.own (.dK ks xs)) :: r) S = .ok (.fz (.dic ks xs)) (o0 :: o1 :: o2 :: o3 :: o4 :: o5 :: o6 :: o7 :: o8 :: o9 :: o10 :: o11 :: o12 :: o13 :: o14 :: o15 :: o16 :: o17 :: o18 :: o19 :: o20 :: o21 :: some (.fz (.dic ks xs)) :: r) S := rfl
theorem vt22 (o0 o1 o2 o3 o4 o5 o6 o7 o8 o9 o10 o11 o12 o13 o14 o15 o16 o17 o18 o19 o20 o21 : Option Val) : varX 22 (o0 :: o1 :: o2 :: o3 :: o4 :: o5 :: o6 :: o7 :: o8 :: o9 :: o10 :: o11 :: o12 :: o13 :: o14 :: o15 :: o16 :: o17 :: o18 :: o19 :: o20 :: o21 :: some (.own (.dT kt xs)) :: r) S = .ok (.fz (.dit kt xs)) (o0 :: o1 :: o2 :: o3 :: o4 :: o5 :: o6 :: o7 :: o8 :: o9 :: o10 :: o11 :: o12 :: o13 :: o14 :: o15 :: o16 :: o17 :: o18 :: o19 :: o20 :: o21 :: some (.fz (.dit kt xs)) :: r) S := rfl
theorem vx23 (o0 o1 o2 o3 o4 o5 o6 o7 o8 o9 o10 o11 o12 o13 o14 o15 o16 o17 o18 o19 o20 o21 o22 : Option Val) : varX 23 (o0 :: o1 :: o2 :: o3 :: o4 :: o5 :: o6 :: o7 :: o8 :: o9 :: o10 :: o11 :: o12 :: o13 :: o14 :: o15 :: o16 :: o17 :: o18 :: o19 :: o20 :: o21 :: o22 :: some (.fz d) :: r) S = .ok (.fz d) (o0 :: o1 :: o2 :: o3 :: o4 :: o5 :: o6 :: o7 :: o8 :: o9 :: o10 :: o11 :: o12 :: o13 :: o14 :: o15 :: o16 :: o17 :: o18 :: o19 :: o20 :: o21 :: o22 :: some (.fz d) :: r) S := rfl
theorem vo23 (o0 o1 o2 o3 o4 o5 o6 o7 o8 o9 o10 o11 o12 o13 o14 o15 o16 o17 o18 o19 o20 o21 o22 : Option Val) : varX 23 (o0 :: o1 :: o2 :: o3 :: o4 :: o5 :: o6 :: o7 :: o8 :: o9 :: o10 :: o11 :: o12 :: o13 :: o14 :: o15 :: o16 :: o17 :: o18 :: o19 :: o20 :: o21 :: o22 :: some (.own (.lst xs)) :: r) S = .ok (.fz (.lst xs)) (o0 :: o1 :: o2 :: o3 :: o4 :: o5 :: o6 :: o7 :: o8 :: o9 :: o10 :: o11 :: o12 :: o13 :: o14 :: o15 :: o16 :: o17 :: o18 :: o19 :: o20 :: o21 :: o22 :: some (.fz (.lst xs)) :: r) S := rfl
theorem pk23 (o0 o1 o2 o3 o4 o5 o6 o7 o8 o9 o10 o11 o12 o13 o14 o15 o16 o17 o18 o19 o20 o21 o22 : Option Val) : peek 23 (o0 :: o1 :: o2 :: o3 :: o4 :: o5 :: o6 :: o7 :: o8 :: o9 :: o10 :: o11 :: o12 :: o13 :: o14 :: o15 :: o16 :: o17 :: o18 :: o19 :: o20 :: o21 :: o22 :: some (.fz d) :: r) S = some (look S d) := rfl
theorem po23 (o0 o1 o2 o3 o4 o5 o6 o7 o8 o9 o10 o11 o12 o13 o14 o15 o16 o17 o18 o19 o20 o21 o22 : Option Val) : peek 23 (o0 :: o1 :: o2 :: o3 :: o4 :: o5 :: o6 :: o7 :: o8 :: o9 :: o10 :: o11 :: o12 :: o13 :: o14 :: o15 :: o16 :: o17 :: o18 :: o19 :: o20 :: o21 :: o22 :: some (.own (.lst xs)) :: r) S = some (.lst xs) := rfl
theorem ol23 (o0 o1 o2 o3 o4 o5 o6 o7 o8 o9 o10 o11 o12 o13 o14 o15 o16 o17 o18 o19 o20 o21 o22 : Option Val) : ownL 23 (o0 :: o1 :: o2 :: o3 :: o4 :: o5 :: o6 :: o7 :: o8 :: o9 :: o10 :: o11 :: o12 :: o13 :: o14 :: o15 :: o16 :: o17 :: o18 :: o19 :: o20 :: o21 :: o22 :: some (.own (.lst xs)) :: r) = true := rfl
theorem rf23 (o0 o1 o2 o3 o4 o5 o6 o7 o8 o9 o10 o11 o12 o13 o14 o15 o16 o17 o18 o19 o20 o21 o22 : Option Val) (f : Frame → Store → RX Val) : retX (.var 23) f (o0 :: o1 :: o2 :: o3 :: o4 :: o5 :: o6 :: o7 :: o8 :: o9 :: o10 :: o11 :: o12 :: o13 :: o14 :: o15 :: o16 :: o17 :: o18 :: o19 :: o20 :: o21 :: o22 :: some (.fz d) :: r) S = .ok (.fz d) (o0 :: o1 :: o2 :: o3 :: o4 :: o5 :: o6 :: o7 :: o8 :: o9 :: o10 :: o11 :: o12 :: o13 :: o14 :: o15 :: o16 :: o17 :: o18 :: o19 :: o20 :: o21 :: o22 :: some (.fz d) :: r) S := rfl
theorem ro23 (o0 o1 o2 o3 o4 o5 o6 o7 o8 o9 o10 o11 o12 o13 o14 o15 o16 o17 o18 o19 o20 o21 o22 : Option Val) (f : Frame → Store → RX Val) (c : Cell) : retX (.var 23) f (o0 :: o1 :: o2 :: o3 :: o4 :: o5 :: o6 :: o7 :: o8 :: o9 :: o10 :: o11 :: o12 :: o13 :: o14 :: o15 :: o16 :: o17 :: o18 :: o19 :: o20 :: o21 :: o22 :: some (.own c) :: r) S = .ok (.own c) (o0 :: o1 :: o2 :: o3 :: o4 :: o5 :: o6 :: o7 :: o8 :: o9 :: o10 :: o11 :: o12 :: o13 :: o14 :: o15 :: o16 :: o17 :: o18 :: o19 :: o20 :: o21 :: o22 :: none :: r) S := rfl
theorem st23 (o0 o1 o2 o3 o4 o5 o6 o7 o8 o9 o10 o11 o12 o13 o14 o15 o16 o17 o18 o19 o20 o21 o22 : Option Val) (v : Option Val) : List.set (o0 :: o1 :: o2 :: o3 :: o4 :: o5 :: o6 :: o7 :: o8 :: o9 :: o10 :: o11 :: o12 :: o13 :: o14 :: o15 :: o16 :: o17 :: o18 :: o19 :: o20 :: o21 :: o22 :: o :: r) 23 v = o0 :: o1 :: o2 :: o3 :: o4 :: o5 :: o6 :: o7 :: o8 :: o9 :: o10 :: o11 :: o12 :: o13 :: o14 :: o15 :: o16 :: o17 :: o18 :: o19 :: o20 :: o21 :: o22 :: v :: r := rfl
theorem pd23 (o0 o1 o2 o3 o4 o5 o6 o7 o8 o9 o10 o11 o12 o13 o14 o15 o16 o17 o18 o19 o20 o21 o22 : Option Val) : peek 23 (o0 :: o1 :: o2 :: o3 :: o4 :: o5 :: o6 :: o7 :: o8 :: o9 :: o10 :: o11 :: o12 :: o13 :: o14 :: o15 :: o16 :: o17 :: o18 :: o19 :: o20 :: o21 :: o22 :: some (.own (.dK ks xs)) :: r) S = some (.dic ks xs) := rfl
theorem pt23 (o0 o1 o2 o3 o4 o5 o6 o7 o8 o9 o10 o11 o12 o13 o14 o15 o16 o17 o18 o19 o20 o21 o22 : Option Val) : peek 23 (o0 :: o1 :: o2 :: o3 :: o4 :: o5 :: o6 :: o7 :: o8 :: o9 :: o10 :: o11 :: o12 :: o13 :: o14 :: o15 :: o16 :: o17 :: o18 :: o19 :: o20 :: o21 :: o22 :: some (.own (.dT kt xs)) :: r) S = some (.dit kt xs) := rfl
theorem od23 (o0 o1 o2 o3 o4 o5 o6 o7 o8 o9 o10 o11 o12 o13 o14 o15 o16 o17 o18 o19 o20 o21 o22 : Option Val) : ownT 23 (o0 :: o1 :: o2 :: o3 :: o4 :: o5 :: o6 :: o7 :: o8 :: o9 :: o10 :: o11 :: o12 :: o13 :: o14 :: o15 :: o16 :: o17 :: o18 :: o19 :: o20 :: o21 :: o22 :: some (.own (.dK ks xs)) :: r) = true := rfl
theorem ot23 (o0 o1 o2 o3 o4 o5 o6 o7 o8 o9 o10 o11 o12 o13 o14 o15 o16 o17 o18 o19 o20 o21 o22 : Option Val) : ownT 23 (o0 :: o1 :: o2 :: o3 :: o4 :: o5 :: o6 :: o7 :: o8 :: o9 :: o10 :: o11 :: o12 :: o13 :: o14 :: o15 :: o16 :: o17 :: o18 :: o19 :: o20 :: o21 :: o22 :: some (.own (.dT kt xs)) :: r) = true := rfl
theorem vd23 (o0 o1 o2 o3 o4 o5 o6 o7 o8 o9 o10 o11 o12 o13 o14 o15 o16 o17 o18 o19 o20 o21 o22 : Option Val) : varX 23 (o0 :: o1 :: o2 :: o3 :: o4 :: o5 :: o6 :: o7 :: o8 :: o9 :: o10 :: o11 :: o12 :: o13 :: o14 :: o15 :: o16 :: o17 :: o18 :: o19 :: o20 :: o21 :: o22 :: some (.own (.dK ks xs)) :: r) S = .ok (.fz (.dic ks xs)) (o0 :: o1 :: o2 :: o3 :: o4 :: o5 :: o6 :: o7 :: o8 :: o9 :: o10 :: o11 :: o12 :: o13 :: o14 :: o15 :: o16 :: o17 :: o18 :: o19 :: o20 :: o21 :: o22 :: some (.fz (.dic ks xs)) :: r) S := rfl
theorem vt23 (o0 o1 o2 o3 o4 o5 o6 o7 o8 o9 o10 o11 o12 o13 o14 o15 o16 o17 o18 o19 o20 o21 o22 : Option Val) : varX 23 (o0 :: o1 :: o2 :: o3 :: o4 :: o5 :: o6 :: o7 :: o8 :: o9 :: o10 :: o11 :: o12 :: o13 :: o14 :: o15 :: o16 :: o17 :: o18 :: o19 :: o20 :: o21 :: o22 :: some (.own (.dT kt xs)) :: r) S = .ok (.fz (.dit kt xs)) (o0 :: o1 :: o2 :: o3 :: o4 :: o5 :: o6 :: o7 :: o8 :: o9 :: o10 :: o11 :: o12 :: o13 :: o14 :: o15 :: o16 :: o17 :: o18 :: o19 :: o20 :: o21 :: o22 :: some (.fz (.dit kt xs)) :: r) S := rfl
theorem vx24 (o0 o1 o2 o3 o4 o5 o6 o7 o8 o9 o10 o11 o12 o13 o14 o15 o16 o17 o18 o19 o20 o21 o22 o23 : Option Val) : varX 24 (o0 :: o1 :: o2 :: o3 :: o4 :: o5 :: o6 :: o7 :: o8 :: o9 :: o10 :: o11 :: o12 :: o13 :: o14 :: o15 :: o16 :: o17 :: o18 :: o19 :: o20 :: o21 :: o22 :: o23 :: some (.fz d) :: r) S = .ok (.fz d) (o0 :: o1 :: o2 :: o3 :: o4 :: o5 :: o6 :: o7 :: o8 :: o9 :: o10 :: o11 :: o12 :: o13 :: o14 :: o15 :: o16 :: o17 :: o18 :: o19 :: o20 :: o21 :: o22 :: o23 :: some (.fz d) :: r) S := rfl
theorem vo24 (o0 o1 o2 o3 o4 o5 o6 o7 o8 o9 o10 o11 o12 o13 o14 o15 o16 o17 o18 o19 o20 o21 o22 o23 : Option Val) : varX 24 (o0 :: o1 :: o2 :: o3 :: o4 :: o5 :: o6 :: o7 :: o8 :: o9 :: o10 :: o11 :: o12 :: o13 :: o14 :: o15 :: o16 :: o17 :: o18 :: o19 :: o20 :: o21 :: o22 :: o23 :: some (.own (.lst xs)) :: r) S = .ok (.fz (.lst xs)) (o0 :: o1 :: o2 :: o3 :: o4 :: o5 :: o6 :: o7 :: o8 :: o9 :: o10 :: o11 :: o12 :: o13 :: o14 :: o15 :: o16 :: o17 :: o18 :: o19 :: o20 :: o21 :: o22 :: o23 :: some (.fz (.lst xs)) :: r) S := rfl
theorem pk24 (o0 o1 o2 o3 o4 o5 o6 o7 o8 o9 o10 o11 o12 o13 o14 o15 o16 o17 o18 o19 o20 o21 o22 o23 : Option Val) : peek 24 (o0 :: o1 :: o2 :: o3 :: o4 :: o5 :: o6 :: o7 :: o8 :: o9 :: o10 :: o11 :: o12 :: o13 :: o14 :: o15 :: o16 :: o17 :: o18 :: o19 :: o20 :: o21 :: o22 :: o23 :: some (.fz d) :: r) S = some (look S d) := rfl
theorem po24 (o0 o1 o2 o3 o4 o5 o6 o7 o8 o9 o10 o11 o12 o13 o14 o15 o16 o17 o18 o19 o20 o21 o22 o23 : Option Val) : peek 24 (o0 :: o1 :: o2 :: o3 :: o4 :: o5 :: o6 :: o7 :: o8 :: o9 :: o10 :: o11 :: o12 :: o13 :: o14 :: o15 :: o16 :: o17 :: o18 :: o19 :: o20 :: o21 :: o22 :: o23 :: some (.own (.lst xs)) :: r) S = some (.lst xs) := rfl
theorem ol24 (o0 o1 o2 o3 o4 o5 o6 o7 o8 o9 o10 o11 o12 o13 o14 o15 o16 o17 o18 o19 o20 o21 o22 o23 : Option Val) : ownL 24 (o0 :: o1 :: o2 :: o3 :: o4 :: o5 :: o6 :: o7 :: o8 :: o9 :: o10 :: o11 :: o12 :: o13 :: o14 :: o15 :: o16 :: o17 :: o18 :: o19 :: o20 :: o21 :: o22 :: o23 :: some (.own (.lst xs)) :: r) = true := rfl
theorem rf24 (o0 o1 o2 o3 o4 o5 o6 o7 o8 o9 o10 o11 o12 o13 o14 o15 o16 o17 o18 o19 o20 o21 o22 o23 : Option Val) (f : Frame → Store → RX Val) : retX (.var 24) f (o0 :: o1 :: o2 :: o3 :: o4 :: o5 :: o6 :: o7 :: o8 :: o9 :: o10 :: o11 :: o12 :: o13 :: o14 :: o15 :: o16 :: o17 :: o18 :: o19 :: o20 :: o21 :: o22 :: o23 :: some (.fz d) :: r) S = .ok (.fz d) (o0 :: o1 :: o2 :: o3 :: o4 :: o5 :: o6 :: o7 :: o8 :: o9 :: o10 :: o11 :: o12 :: o13 :: o14 :: o15 :: o16 :: o17 :: o18 :: o19 :: o20 :: o21 :: o22 :: o23 :: some (.fz d) :: r) S := rfl
theorem ro24 (o0 o1 o2 o3 o4 o5 o6 o7 o8 o9 o10 o11 o12 o13 o14 o15 o16 o17 o18 o19 o20 o21 o22 o23 : Option Val) (f : Frame → Store → RX Val) (c : Cell) : retX (.var 24) f (o0 :: o1 :: o2 :: o3 :: o4 :: o5 :: o6 :: o7 :: o8 :: o9 :: o10 :: o11 :: o12 :: o13 :: o14 :: o15 :: o16 :: o17 :: o18 :: o19 :: o20 :: o21 :: o22 :: o23 :: some (.own c) :: r) S = .ok (.own c) (o0 :: o1 :: o2 :: o3 :: o4 :: o5 :: o6 :: o7 :: o8 :: o9 :: o10 :: o11 :: o12 :: o13 :: o14 :: o15 :: o16 :: o17 :: o18 :: o19 :: o20 :: o21 :: o22 :: o23 :: none :: r) S := rfl
theorem st24 (o0 o1 o2 o3 o4 o5 o6 o7 o8 o9 o10 o11 o12 o13 o14 o15 o16 o17 o18 o19 o20 o21 o22 o23 : Option Val) (v : Option Val) : List.set (o0 :: o1 :: o2 :: o3 :: o4 :: o5 :: o6 :: o7 :: o8 :: o9 :: o10 :: o11 :: o12 :: o13 :: o14 :: o15 :: o16 :: o17 :: o18 :: o19 :: o20 :: o21 :: o22 :: o23 :: o :: r) 24 v = o0 :: o1 :: o2 :: o3 :: o4 :: o5 :: o6 :: o7 :: o8 :: o9 :: o10 :: o11 :: o12 :: o13 :: o14 :: o15 :: o16 :: o17 :: o18 :: o19 :: o20 :: o21 :: o22 :: o23 :: v :: r := rfl
theorem pd24 (o0 o1 o2 o3 o4 o5 o6 o7 o8 o9 o10 o11 o12 o13 o14 o15 o16 o17 o18 o19 o20 o21 o22 o23 : Option Val) : peek 24 (o0 :: o1 :: o2 :: o3 :: o4 :: o5 :: o6 :: o7 :: o8 :: o9 :: o10 :: o11 :: o12 :: o13 :: o14 :: o15 :: o16 :: o17 :: o18 :: o19 :: o20 :: o21 :: o22 :: o23 :: some (.own (.dK ks xs)) :: r) S = some (.dic ks xs) := rfl
theorem pt24 (o0 o1 o2 o3 o4 o5 o6 o7 o8 o9 o10 o11 o12 o13 o14 o15 o16 o17 o18 o19 o20 o21 o22 o23 : Option Val) : peek 24 (o0 :: o1 :: o2 :: o3 :: o4 :: o5 :: o6 :: o7 :: o8 :: o9 :: o10 :: o11 :: o12 :: o13 :: o14 :: o15 :: o16 :: o17 :: o18 :: o19 :: o20 :: o21 :: o22 :: o23 :: some (.own (.dT kt xs)) :: r) S = some (.dit kt xs) := rfl
theorem od24 (o0 o1 o2 o3 o4 o5 o6 o7 o8 o9 o10 o11 o12 o13 o14 o15 o16 o17 o18 o19 o20 o21 o22 o23 : Option Val) : ownT 24 (o0 :: o1 :: o2 :: o3 :: o4 :: o5 :: o6 :: o7 :: o8 :: o9 :: o10 :: o11 :: o12 :: o13 :: o14 :: o15 :: o16 :: o17 :: o18 :: o19 :: o20 :: o21 :: o22 :: o23 :: some (.own (.dK ks xs)) :: r) = true := rfl
theorem ot24 (o0 o1 o2 o3 o4 o5 o6 o7 o8 o9 o10 o11 o12 o13 o14 o15 o16 o17 o18 o19 o20 o21 o22 o23 : Option Val) : ownT 24 (o0 :: o1 :: o2 :: o3 :: o4 :: o5 :: o6 :: o7 :: o8 :: o9 :: o10 :: o11 :: o12 :: o13 :: o14 :: o15 :: o16 :: o17 :: o18 :: o19 :: o20 :: o21 :: o22 :: o23 :: some (.own (.dT kt xs)) :: r) = true := rfl
theorem vd24 (o0 o1 o2 o3 o4 o5 o6 o7 o8 o9 o10 o11 o12 o13 o14 o15 o16 o17 o18 o19 o20 o21 o22 o23 : Option Val) : varX 24 (o0 :: o1 :: o2 :: o3 :: o4 :: o5 :: o6 :: o7 :: o8 :: o9 :: o10 :: o11 :: o12 :: o13 :: o14 :: o15 :: o16 :: o17 :: o18 :: o19 :: o20 :: o21 :: o22 :: o23 :: some (.own (.dK ks xs)) :: r) S = .ok (.fz (.dic ks xs)) (o0 :: o1 :: o2 :: o3 :: o4 :: o5 :: o6 :: o7 :: o8 :: o9 :: o10 :: o11 :: o12 :: o13 :: o14 :: o15 :: o16 :: o17 :: o18 :: o19 :: o20 :: o21 :: o22 :: o23 :: some (.fz (.dic ks xs)) :: r) S := rfl
theorem vt24 (o0 o1 o2 o3 o4 o5 o6 o7 o8 o9 o10 o11 o12 o13 o14 o15 o16 o17 o18 o19 o20 o21 o22 o23 : Option Val) : varX 24 (o0 :: o1 :: o2 :: o3 :: o4 :: o5 :: o6 :: o7 :: o8 :: o9 :: o10 :: o11 :: o12 :: o13 :: o14 :: o15 :: o16 :: o17 :: o18 :: o19 :: o20 :: o21 :: o22 :: o23 :: some (.own (.dT kt xs)) :: r) S = .ok (.fz (.dit kt xs)) (o0 :: o1 :: o2 :: o3 :: o4 :: o5 :: o6 :: o7 :: o8 :: o9 :: o10 :: o11 :: o12 :: o13 :: o14 :: o15 :: o16 :: o17 :: o18 :: o19 :: o20 :: o21 :: o22 :: o23 :: some (.fz (.dit kt xs)) :: r) S := rfl
theorem vx25 (o0 o1 o2 o3 o4 o5 o6 o7 o8 o9 o10 o11 o12 o13 o14 o15 o16 o17 o18 o19 o20 o21 o22 o23 o24 : Option Val) : varX 25 (o0 :: o1 :: o2 :: o3 :: o4 :: o5 :: o6 :: o7 :: o8 :: o9 :: o10 :: o11 :: o12 :: o13 :: o14 :: o15 :: o16 :: o17 :: o18 :: o19 :: o20 :: o21 :: o22 :: o23 :: o24 :: some (.fz d) :: r) S = .ok (.fz d) (o0 :: o1 :: o2 :: o3 :: o4 :: o5 :: o6 :: o7 :: o8 :: o9 :: o10 :: o11 :: o12 :: o13 :: o14 :: o15 :: o16 :: o17 :: o18 :: o19 :: o20 :: o21 :: o22 :: o23 :: o24 :: some (.fz d) :: r) S := rfl
theorem vo25 (o0 o1 o2 o3 o4 o5 o6 o7 o8 o9 o10 o11 o12 o13 o14 o15 o16 o17 o18 o19 o20 o21 o22 o23 o24 : Option Val) : varX 25 (o0 :: o1 :: o2 :: o3 :: o4 :: o5 :: o6 :: o7 :: o8 :: o9 :: o10 :: o11 :: o12 :: o13 :: o14 :: o15 :: o16 :: o17 :: o18 :: o19 :: o20 :: o21 :: o22 :: o23 :: o24 :: some (.own (.lst xs)) :: r) S = .ok (.fz (.lst xs)) (o0 :: o1 :: o2 :: o3 :: o4 :: o5 :: o6 :: o7 :: o8 :: o9 :: o10 :: o11 :: o12 :: o13 :: o14 :: o15 :: o16 :: o17 :: o18 :: o19 :: o20 :: o21 :: o22 :: o23 :: o24 :: some (.fz (.lst xs)) :: r) S := rfl
theorem pk25 (o0 o1 o2 o3 o4 o5 o6 o7 o8 o9 o10 o11 o12 o13 o14 o15 o16 o17 o18 o19 o20 o21 o22 o23 o24 : Option Val) : peek 25 (o0 :: o1 :: o2 :: o3 :: o4 :: o5 :: o6 :: o7 :: o8 :: o9 :: o10 :: o11 :: o12 :: o13 :: o14 :: o15 :: o16 :: o17 :: o18 :: o19 :: o20 :: o21 :: o22 :: o23 :: o24 :: some (.fz d) :: r) S = some (look S d) := rfl
theorem po25 (o0 o1 o2 o3 o4 o5 o6 o7 o8 o9 o10 o11 o12 o13 o14 o15 o16 o17 o18 o19 o20 o21 o22 o23 o24 : Option Val) : peek 25 (o0 :: o1 :: o2 :: o3 :: o4 :: o5 :: o6 :: o7 :: o8 :: o9 :: o10 :: o11 :: o12 :: o13 :: o14 :: o15 :: o16 :: o17 :: o18 :: o19 :: o20 :: o21 :: o22 :: o23 :: o24 :: some (.own (.lst xs)) :: r) S = some (.lst xs) := rfl
theorem ol25 (o0 o1 o2 o3 o4 o5 o6 o7 o8 o9 o10 o11 o12 o13 o14 o15 o16 o17 o18 o19 o20 o21 o22 o23 o24 : Option Val) : ownL 25 (o0 :: o1 :: o2 :: o3 :: o4 :: o5 :: o6 :: o7 :: o8 :: o9 :: o10 :: o11 :: o12 :: o13 :: o14 :: o15 :: o16 :: o17 :: o18 :: o19 :: o20 :: o21 :: o22 :: o23 :: o24 :: some (.own (.lst xs)) :: r) = true := rfl
theorem rf25 (o0 o1 o2 o3 o4 o5 o6 o7 o8 o9 o10 o11 o12 o13 o14 o15 o16 o17 o18 o19 o20 o21 o22 o23 o24 : Option Val) (f : Frame → Store → RX Val) : retX (.var 25) f (o0 :: o1 :: o2 :: o3 :: o4 :: o5 :: o6 :: o7 :: o8 :: o9 :: o10 :: o11 :: o12 :: o13 :: o14 :: o15 :: o16 :: o17 :: o18 :: o19 :: o20 :: o21 :: o22 :: o23 :: o24 :: some (.fz d) :: r) S = .ok (.fz d) (o0 :: o1 :: o2 :: o3 :: o4 :: o5 :: o6 :: o7 :: o8 :: o9 :: o10 :: o11 :: o12 :: o13 :: o14 :: o15 :: o16 :: o17 :: o18 :: o19 :: o20 :: o21 :: o22 :: o23 :: o24 :: some (.fz d) :: r) S := rfl
theorem ro25 (o0 o1 o2 o3 o4 o5 o6 o7 o8 o9 o10 o11 o12 o13 o14 o15 o16 o17 o18 o19 o20 o21 o22 o23 o24 : Option Val) (f : Frame → Store → RX Val) (c : Cell) : retX (.var 25) f (o0 :: o1 :: o2 :: o3 :: o4 :: o5 :: o6 :: o7 :: o8 :: o9 :: o10 :: o11 :: o12 :: o13 :: o14 :: o15 :: o16 :: o17 :: o18 :: o19 :: o20 :: o21 :: o22 :: o23 :: o24 :: some (.own c) :: r) S = .ok (.own c) (o0 :: o1 :: o2 :: o3 :: o4 :: o5 :: o6 :: o7 :: o8 :: o9 :: o10 :: o11 :: o12 :: o13 :: o14 :: o15 :: o16 :: o17 :: o18 :: o19 :: o20 :: o21 :: o22 :: o23 :: o24 :: none :: r) S := rfl
theorem st25 (o0 o1 o2 o3 o4 o5 o6 o7 o8 o9 o10 o11 o12 o13 o14 o15 o16 o17 o18 o19 o20 o21 o22 o23 o24 : Option Val) (v : Option Val) : List.set (o0 :: o1 :: o2 :: o3 :: o4 :: o5 :: o6 :: o7 :: o8 :: o9 :: o10 :: o11 :: o12 :: o13 :: o14 :: o15 :: o16 :: o17 :: o18 :: o19 :: o20 :: o21 :: o22 :: o23 :: o24 :: o :: r) 25 v = o0 :: o1 :: o2 :: o3 :: o4 :: o5 :: o6 :: o7 :: o8 :: o9 :: o10 :: o11 :: o12 :: o13 :: o14 :: o15 :: o16 :: o17 :: o18 :: o19 :: o20 :: o21 :: o22 :: o23 :: o24 :: v :: r := rfl
theorem pd25 (o0 o1 o2 o3 o4 o5 o6 o7 o8 o9 o10 o11 o12 o13 o14 o15 o16 o17 o18 o19 o20 o21 o22 o23 o24 : Option Val) : peek 25 (o0 :: o1 :: o2 :: o3 :: o4 :: o5 :: o6 :: o7 :: o8 :: o9 :: o10 :: o11 :: o12 :: o13 :: o14 :: o15 :: o16 :: o17 :: o18 :: o19 :: o20 :: o21 :: o22 :: o23 :: o24 :: some (.own (.dK ks xs)) :: r) S = some (.dic ks xs) := rfl
theorem pt25 (o0 o1 o2 o3 o4 o5 o6 o7 o8 o9 o10 o11 o12 o13 o14 o15 o16 o17 o18 o19 o20 o21 o22 o23 o24 : Option Val) : peek 25 (o0 :: o1 :: o2 :: o3 :: o4 :: o5 :: o6 :: o7 :: o8 :: o9 :: o10 :: o11 :: o12 :: o13 :: o14 :: o15 :: o16 :: o17 :: o18 :: o19 :: o20 :: o21 :: o22 :: o23 :: o24 :: some (.own (.dT kt xs)) :: r) S = some (.dit kt xs) := rfl
theorem od25 (o0 o1 o2 o3 o4 o5 o6 o7 o8 o9 o10 o11 o12 o13 o14 o15 o16 o17 o18 o19 o20 o21 o22 o23 o24 : Option Val) : ownT 25 (o0 :: o1 :: o2 :: o3 :: o4 :: o5 :: o6 :: o7 :: o8 :: o9 :: o10 :: o11 :: o12 :: o13 :: o14 :: o15 :: o16 :: o17 :: o18 :: o19 :: o20 :: o21 :: o22 :: o23 :: o24 :: some (.own (.dK ks xs)) :: r) = true := rfl
theorem ot25 (o0 o1 o2 o3 o4 o5 o6 o7 o8 o9 o10 o11 o12 o13 o14 o15 o16 o17 o18 o19 o20 o21 o22 o23 o24 : Option Val) : ownT 25 (o0 :: o1 :: o2 :: o3 :: o4 :: o5 :: o6 :: o7 :: o8 :: o9 :: o10 :: o11 :: o12 :: o13 :: o14 :: o15 :: o16 :: o17 :: o18 :: o19 :: o20 :: o21 :: o22 :: o23 :: o24 :: some (.own (.dT kt xs)) :: r) = true := rfl
theorem vd25 (o0 o1 o2 o3 o4 o5 o6 o7 o8 o9 o10 o11 o12 o13 o14 o15 o16 o17 o18 o19 o20 o21 o22 o23 o24 : Option Val) : varX 25 (o0 :: o1 :: o2 :: o3 :: o4 :: o5 :: o6 :: o7 :: o8 :: o9 :: o10 :: o11 :: o12 :: o13 :: o14 :: o15 :: o16 :: o17 :: o18 :: o19 :: o20 :: o21 :: o22 :: o23 :: o24 :: some (.own (.dK ks xs)) :: r) S = .ok (.fz (.dic ks xs)) (o0 :: o1 :: o2 :: o3 :: o4 :: o5 :: o6 :: o7 :: o8 :: o9 :: o10 :: o11 :: o12 :: o13 :: o14 :: o15 :: o16 :: o17 :: o18 :: o19 :: o20 :: o21 :: o22 :: o23 :: o24 :: some (.fz (.dic ks xs)) :: r) S := rfl
theorem vt25 (o0 o1 o2 o3 o4 o5 o6 o7 o8 o9 o10 o11 o12 o13 o14 o15 o16 o17 o18 o19 o20 o21 o22 o23 o24 : Option Val) : varX 25 (o0 :: o1 :: o2 :: o3 :: o4 :: o5 :: o6 :: o7 :: o8 :: o9 :: o10 :: o11 :: o12 :: o13 :: o14 :: o15 :: o16 :: o17 :: o18 :: o19 :: o20 :: o21 :: o22 :: o23 :: o24 :: some (.own (.dT kt xs)) :: r) S = .ok (.fz (.dit kt xs)) (o0 :: o1 :: o2 :: o3 :: o4 :: o5 :: o6 :: o7 :: o8 :: o9 :: o10 :: o11 :: o12 :: o13 :: o14 :: o15 :: o16 :: o17 :: o18 :: o19 :: o20 :: o21 :: o22 :: o23 :: o24 :: some (.fz (.dit kt xs)) :: r) S := rfl
theorem vx26 (o0 o1 o2 o3 o4 o5 o6 o7 o8 o9 o10 o11 o12 o13 o14 o15 o16 o17 o18 o19 o20 o21 o22 o23 o24 o25 : Option Val) : varX 26 (o0 :: o1 :: o2 :: o3 :: o4 :: o5 :: o6 :: o7 :: o8 :: o9 :: o10 :: o11 :: o12 :: o13 :: o14 :: o15 :: o16 :: o17 :: o18 :: o19 :: o20 :: o21 :: o22 :: o23 :: o24 :: o25 :: some (.fz d) :: r) S = .ok (.fz d) (o0 :: o1 :: o2 :: o3 :: o4 :: o5 :: o6 :: o7 :: o8 :: o9 :: o10 :: o11 :: o12 :: o13 :: o14 :: o15 :: o16 :: o17 :: o18 :: o19 :: o20 :: o21 :: o22 :: o23 :: o24 :: o25 :: some (.fz d) :: r) S := rfl
theorem vo26 (o0 o1 o2 o3 o4 o5 o6 o7 o8 o9 o10 o11 o12 o13 o14 o15 o16 o17 o18 o19 o20 o21 o22 o23 o24 o25 : Option Val) : varX 26 (o0 :: o1 :: o2 :: o3 :: o4 :: o5 :: o6 :: o7 :: o8 :: o9 :: o10 :: o11 :: o12 :: o13 :: o14 :: o15 :: o16 :: o17 :: o18 :: o19 :: o20 :: o21 :: o22 :: o23 :: o24 :: o25 :: some (.own (.lst xs)) :: r) S = .ok (.fz (.lst xs)) (o0 :: o1 :: o2 :: o3 :: o4 :: o5 :: o6 :: o7 :: o8 :: o9 :: o10 :: o11 :: o12 :: o13 :: o14 :: o15 :: o16 :: o17 :: o18 :: o19 :: o20 :: o21 :: o22 :: o23 :: o24 :: o25 :: some (.fz (.lst xs)) :: r) S := rfl
theorem pk26 (o0 o1 o2 o3 o4 o5 o6 o7 o8 o9 o10 o11 o12 o13 o14 o15 o16 o17 o18 o19 o20 o21 o22 o23 o24 o25 : Option Val) : peek 26 (o0 :: o1 :: o2 :: o3 :: o4 :: o5 :: o6 :: o7 :: o8 :: o9 :: o10 :: o11 :: o12 :: o13 :: o14 :: o15 :: o16 :: o17 :: o18 :: o19 :: o20 :: o21 :: o22 :: o23 :: o24 :: o25 :: some (.fz d) :: r) S = some (look S d) := rfl
theorem po26 (o0 o1 o2 o3 o4 o5 o6 o7 o8 o9 o10 o11 o12 o13 o14 o15 o16 o17 o18 o19 o20 o21 o22 o23 o24 o25 : Option Val) : peek 26 (o0 :: o1 :: o2 :: o3 :: o4 :: o5 :: o6 :: o7 :: o8 :: o9 :: o10 :: o11 :: o12 :: o13 :: o14 :: o15 :: o16 :: o17 :: o18 :: o19 :: o20 :: o21 :: o22 :: o23 :: o24 :: o25 :: some (.own (.lst xs)) :: r) S = some (.lst xs) := rfl
theorem ol26 (o0 o1 o2 o3 o4 o5 o6 o7 o8 o9 o10 o11 o12 o13 o14 o15 o16 o17 o18 o19 o20 o21 o22 o23 o24 o25 : Option Val) : ownL 26 (o0 :: o1 :: o2 :: o3 :: o4 :: o5 :: o6 :: o7 :: o8 :: o9 :: o10 :: o11 :: o12 :: o13 :: o14 :: o15 :: o16 :: o17 :: o18 :: o19 :: o20 :: o21 :: o22 :: o23 :: o24 :: o25 :: some (.own (.lst xs)) :: r) = true := rfl
theorem rf26 (o0 o1 o2 o3 o4 o5 o6 o7 o8 o9 o10 o11 o12 o13 o14 o15 o16 o17 o18 o19 o20 o21 o22 o23 o24 o25 : Option Val) (f : Frame → Store → RX Val) : retX (.var 26) f (o0 :: o1 :: o2 :: o3 :: o4 :: o5 :: o6 :: o7 :: o8 :: o9 :: o10 :: o11 :: o12 :: o13 :: o14 :: o15 :: o16 :: o17 :: o18 :: o19 :: o20 :: o21 :: o22 :: o23 :: o24 :: o25 :: some (.fz d) :: r) S = .ok (.fz d) (o0 :: o1 :: o2 :: o3 :: o4 :: o5 :: o6 :: o7 :: o8 :: o9 :: o10 :: o11 :: o12 :: o13 :: o14 :: o15 :: o16 :: o17 :: o18 :: o19 :: o20 :: o21 :: o22 :: o23 :: o24 :: o25 :: some (.fz d) :: r) S := rfl
theorem ro26 (o0 o1 o2 o3 o4 o5 o6 o7 o8 o9 o10 o11 o12 o13 o14 o15 o16 o17 o18 o19 o20 o21 o22 o23 o24 o25 : Option Val) (f : Frame → Store → RX Val) (c : Cell) : retX (.var 26) f (o0 :: o1 :: o2 :: o3 :: o4 :: o5 :: o6 :: o7 :: o8 :: o9 :: o10 :: o11 :: o12 :: o13 :: o14 :: o15 :: o16 :: o17 :: o18 :: o19 :: o20 :: o21 :: o22 :: o23 :: o24 :: o25 :: some (.own c) :: r) S = .ok (.own c) (o0 :: o1 :: o2 :: o3 :: o4 :: o5 :: o6 :: o7 :: o8 :: o9 :: o10 :: o11 :: o12 :: o13 :: o14 :: o15 :: o16 :: o17 :: o18 :: o19 :: o20 :: o21 :: o22 :: o23 :: o24 :: o25 :: none :: r) S := rfl
theorem st26 (o0 o1 o2 o3 o4 o5 o6 o7 o8 o9 o10 o11 o12 o13 o14 o15 o16 o17 o18 o19 o20 o21 o22 o23 o24 o25 : Option Val) (v : Option Val) : List.set (o0 :: o1 :: o2 :: o3 :: o4 :: o5 :: o6 :: o7 :: o8 :: o9 :: o10 :: o11 :: o12 :: o13 :: o14 :: o15 :: o16 :: o17 :: o18 :: o19 :: o20 :: o21 :: o22 :: o23 :: o24 :: o25 :: o :: r) 26 v = o0 :: o1 :: o2 :: o3 :: o4 :: o5 :: o6 :: o7 :: o8 :: o9 :: o10 :: o11 :: o12 :: o13 :: o14 :: o15 :: o16 :: o17 :: o18 :: o19 :: o20 :: o21 :: o22 :: o23 :: o24 :: o25 :: v :: r := rfl
theorem pd26 (o0 o1 o2 o3 o4 o5 o6 o7 o8 o9 o10 o11 o12 o13 o14 o15 o16 o17 o18 o19 o20 o21 o22 o23 o24 o25 : Option Val) : peek 26 (o0 :: o1 :: o2 :: o3 :: o4 :: o5 :: o6 :: o7 :: o8 :: o9 :: o10 :: o11 :: o12 :: o13 :: o14 :: o15 :: o16 :: o17 :: o18 :: o19 :: o20 :: o21 :: o22 :: o23 :: o24 :: o25 :: some (.own (.dK ks xs)) :: r) S = some (.dic ks xs) := rfl
theorem pt26 (o0 o1 o2 o3 o4 o5 o6 o7 o8 o9 o10 o11 o12 o13 o14 o15 o16 o17 o18 o19 o20 o21 o22 o23 o24 o25 : Option Val) : peek 26 (o0 :: o1 :: o2 :: o3 :: o4 :: o5 :: o6 :: o7 :: o8 :: o9 :: o10 :: o11 :: o12 :: o13 :: o14 :: o15 :: o16 :: o17 :: o18 :: o19 :: o20 :: o21 :: o22 :: o23 :: o24 :: o25 :: some (.own (.dT kt xs)) :: r) S = some (.dit kt xs) := rfl
theorem od26 (o0 o1 o2 o3 o4 o5 o6 o7 o8 o9 o10 o11 o12 o13 o14 o15 o16 o17 o18 o19 o20 o21 o22 o23 o24 o25 : Option Val) : ownT 26 (o0 :: o1 :: o2 :: o3 :: o4 :: o5 :: o6 :: o7 :: o8 :: o9 :: o10 :: o11 :: o12 :: o13 :: o14 :: o15 :: o16 :: o17 :: o18 :: o19 :: o20 :: o21 :: o22 :: o23 :: o24 :: o25 :: some (.own (.dK ks xs)) :: r) = true := rfl
theorem ot26 (o0 o1 o2 o3 o4 o5 o6 o7 o8 o9 o10 o11 o12 o13 o14 o15 o16 o17 o18 o19 o20 o21 o22 o23 o24 o25 : Option Val) : ownT 26 (o0 :: o1 :: o2 :: o3 :: o4 :: o5 :: o6 :: o7 :: o8 :: o9 :: o10 :: o11 :: o12 :: o13 :: o14 :: o15 :: o16 :: o17 :: o18 :: o19 :: o20 :: o21 :: o22 :: o23 :: o24 :: o25 :: some (.own (.dT kt xs)) :: r) = true := rfl
theorem vd26 (o0 o1 o2 o3 o4 o5 o6 o7 o8 o9 o10 o11 o12 o13 o14 o15 o16 o17 o18 o19 o20 o21 o22 o23 o24 o25 : Option Val) : varX 26 (o0 :: o1 :: o2 :: o3 :: o4 :: o5 :: o6 :: o7 :: o8 :: o9 :: o10 :: o11 :: o12 :: o13 :: o14 :: o15 :: o16 :: o17 :: o18 :: o19 :: o20 :: o21 :: o22 :: o23 :: o24 :: o25 :: some (.own (.dK ks xs)) :: r) S = .ok (.fz (.dic ks xs)) (o0 :: o1 :: o2 :: o3 :: o4 :: o5 :: o6 :: o7 :: o8 :: o9 :: o10 :: o11 :: o12 :: o13 :: o14 :: o15 :: o16 :: o17 :: o18 :: o19 :: o20 :: o21 :: o22 :: o23 :: o24 :: o25 :: some (.fz (.dic ks xs)) :: r) S := rfl
theorem vt26 (o0 o1 o2 o3 o4 o5 o6 o7 o8 o9 o10 o11 o12 o13 o14 o15 o16 o17 o18 o19 o20 o21 o22 o23 o24 o25 : Option Val) : varX 26 (o0 :: o1 :: o2 :: o3 :: o4 :: o5 :: o6 :: o7 :: o8 :: o9 :: o10 :: o11 :: o12 :: o13 :: o14 :: o15 :: o16 :: o17 :: o18 :: o19 :: o20 :: o21 :: o22 :: o23 :: o24 :: o25 :: some (.own (.dT kt xs)) :: r) S = .ok (.fz (.dit kt xs)) (o0 :: o1 :: o2 :: o3 :: o4 :: o5 :: o6 :: o7 :: o8 :: o9 :: o10 :: o11 :: o12 :: o13 :: o14 :: o15 :: o16 :: o17 :: o18 :: o19 :: o20 :: o21 :: o22 :: o23 :: o24 :: o25 :: some (.fz (.dit kt xs)) :: r) S := rfl
theorem vx27 (o0 o1 o2 o3 o4 o5 o6 o7 o8 o9 o10 o11 o12 o13 o14 o15 o16 o17 o18 o19 o20 o21 o22 o23 o24 o25 o26 : Option Val) : varX 27 (o0 :: o1 :: o2 :: o3 :: o4 :: o5 :: o6 :: o7 :: o8 :: o9 :: o10 :: o11 :: o12 :: o13 :: o14 :: o15 :: o16 :: o17 :: o18 :: o19 :: o20 :: o21 :: o22 :: o23 :: o24 :: o25 :: o26 :: some (.fz d) :: r) S = .ok (.fz d) (o0 :: o1 :: o2 :: o3 :: o4 :: o5 :: o6 :: o7 :: o8 :: o9 :: o10 :: o11 :: o12 :: o13 :: o14 :: o15 :: o16 :: o17 :: o18 :: o19 :: o20 :: o21 :: o22 :: o23 :: o24 :: o25 :: o26 :: some (.fz d) :: r) S := rfl
theorem vo27 (o0 o1 o2 o3 o4 o5 o6 o7 o8 o9 o10 o11 o12 o13 o14 o15 o16 o17 o18 o19 o20 o21 o22 o23 o24 o25 o26 : Option Val) : varX 27 (o0 :: o1 :: o2 :: o3 :: o4 :: o5 :: o6 :: o7 :: o8 :: o9 :: o10 :: o11 :: o12 :: o13 :: o14 :: o15 :: o16 :: o17 :: o18 :: o19 :: o20 :: o21 :: o22 :: o23 :: o24 :: o25 :: o26 :: some (.own (.lst xs)) :: r) S = .ok (.fz (.lst xs)) (o0 :: o1 :: o2 :: o3 :: o4 :: o5 :: o6 :: o7 :: o8 :: o9 :: o10 :: o11 :: o12 :: o13 :: o14 :: o15 :: o16 :: o17 :: o18 :: o19 :: o20 :: o21 :: o22 :: o23 :: o24 :: o25 :: o26 :: some (.fz (.lst xs)) :: r) S := rfl
theorem pk27 (o0 o1 o2 o3 o4 o5 o6 o7 o8 o9 o10 o11 o12 o13 o14 o15 o16 o17 o18 o19 o20 o21 o22 o23 o24 o25 o26 : Option Val) : peek 27 (o0 :: o1 :: o2 :: o3 :: o4 :: o5 :: o6 :: o7 :: o8 :: o9 :: o10 :: o11 :: o12 :: o13 :: o14 :: o15 :: o16 :: o17 :: o18 :: o19 :: o20 :: o21 :: o22 :: o23 :: o24 :: o25 :: o26 :: some (.fz d) :: r) S = some (look S d) := rfl
theorem po27 (o0 o1 o2 o3 o4 o5 o6 o7 o8 o9 o10 o11 o12 o13 o14 o15 o16 o17 o18 o19 o20 o21 o22 o23 o24 o25 o26 : Option Val) : peek 27 (o0 :: o1 :: o2 :: o3 :: o4 :: o5 :: o6 :: o7 :: o8 :: o9 :: o10 :: o11 :: o12 :: o13 :: o14 :: o15 :: o16 :: o17 :: o18 :: o19 :: o20 :: o21 :: o22 :: o23 :: o24 :: o25 :: o26 :: some (.own (.lst xs)) :: r) S = some (.lst xs) := rfl
theorem ol27 (o0 o1 o2 o3 o4 o5 o6 o7 o8 o9 o10 o11 o12 o13 o14 o15 o16 o17 o18 o19 o20 o21 o22 o23 o24 o25 o26 : Option Val) : ownL 27 (o0 :: o1 :: o2 :: o3 :: o4 :: o5 :: o6 :: o7 :: o8 :: o9 :: o10 :: o11 :: o12 :: o13 :: o14 :: o15 :: o16 :: o17 :: o18 :: o19 :: o20 :: o21 :: o22 :: o23 :: o24 :: o25 :: o26 :: some (.own (.lst xs)) :: r) = true := rfl
theorem rf27 (o0 o1 o2 o3 o4 o5 o6 o7 o8 o9 o10 o11 o12 o13 o14 o15 o16 o17 o18 o19 o20 o21 o22 o23 o24 o25 o26 : Option Val) (f : Frame → Store → RX Val) : retX (.var 27) f (o0 :: o1 :: o2 :: o3 :: o4 :: o5 :: o6 :: o7 :: o8 :: o9 :: o10 :: o11 :: o12 :: o13 :: o14 :: o15 :: o16 :: o17 :: o18 :: o19 :: o20 :: o21 :: o22 :: o23 :: o24 :: o25 :: o26 :: some (.fz d) :: r) S = .ok (.fz d) (o0 :: o1 :: o2 :: o3 :: o4 :: o5 :: o6 :: o7 :: o8 :: o9 :: o10 :: o11 :: o12 :: o13 :: o14 :: o15 :: o16 :: o17 :: o18 :: o19 :: o20 :: o21 :: o22 :: o23 :: o24 :: o25 :: o26 :: some (.fz d) :: r) S := rfl
theorem ro27 (o0 o1 o2 o3 o4 o5 o6 o7 o8 o9 o10 o11 o12 o13 o14 o15 o16 o17 o18 o19 o20 o21 o22 o23 o24 o25 o26 : Option Val) (f : Frame → Store → RX Val) (c : Cell) : retX (.var 27) f (o0 :: o1 :: o2 :: o3 :: o4 :: o5 :: o6 :: o7 :: o8 :: o9 :: o10 :: o11 :: o12 :: o13 :: o14 :: o15 :: o16 :: o17 :: o18 :: o19 :: o20 :: o21 :: o22 :: o23 :: o24 :: o25 :: o26 :: some (.own c) :: r) S = .ok (.own c) (o0 :: o1 :: o2 :: o3 :: o4 :: o5 :: o6 :: o7 :: o8 :: o9 :: o10 :: o11 :: o12 :: o13 :: o14 :: o15 :: o16 :: o17 :: o18 :: o19 :: o20 :: o21 :: o22 :: o23 :: o24 :: o25 :: o26 :: none :: r) S := rfl
theorem st27 (o0 o1 o2 o3 o4 o5 o6 o7 o8 o9 o10 o11 o12 o13 o14 o15 o16 o17 o18 o19 o20 o21 o22 o23 o24 o25 o26 : Option Val) (v : Option Val) : List.set (o0 :: o1 :: o2 :: o3 :: o4 :: o5 :: o6 :: o7 :: o8 :: o9 :: o10 :: o11 :: o12 :: o13 :: o14 :: o15 :: o16 :: o17 :: o18 :: o19 :: o20 :: o21 :: o22 :: o23 :: o24 :: o25 :: o26 :: o :: r) 27 v = o0 :: o1 :: o2 :: o3 :: o4 :: o5 :: o6 :: o7 :: o8 :: o9 :: o10 :: o11 :: o12 :: o13 :: o14 :: o15 :: o16 :: o17 :: o18 :: o19 :: o20 :: o21 :: o22 :: o23 :: o24 :: o25 :: o26 :: v :: r := rfl
theorem pd27 (o0 o1 o2 o3 o4 o5 o6 o7 o8 o9 o10 o11 o12 o13 o14 o15 o16 o17 o18 o19 o20 o21 o22 o23 o24 o25 o26 : Option Val) : peek 27 (o0 :: o1 :: o2 :: o3 :: o4 :: o5 :: o6 :: o7 :: o8 :: o9 :: o10 :: o11 :: o12 :: o13 :: o14 :: o15 :: o16 :: o17 :: o18 :: o19 :: o20 :: o21 :: o22 :: o23 :: o24 :: o25 :: o26 :: some (.own (.dK ks xs)) :: r) S = some (.dic ks xs) := rfl
theorem pt27 (o0 o1 o2 o3 o4 o5 o6 o7 o8 o9 o10 o11 o12 o13 o14 o15 o16 o17 o18 o19 o20 o21 o22 o23 o24 o25 o26 : Option Val) : peek 27 (o0 :: o1 :: o2 :: o3 :: o4 :: o5 :: o6 :: o7 :: o8 :: o9 :: o10 :: o11 :: o12 :: o13 :: o14 :: o15 :: o16 :: o17 :: o18 :: o19 :: o20 :: o21 :: o22 :: o23 :: o24 :: o25 :: o26 :: some (.own (.dT kt xs)) :: r) S = some (.dit kt xs) := rfl
theorem od27 (o0 o1 o2 o3 o4 o5 o6 o7 o8 o9 o10 o11 o12 o13 o14 o15 o16 o17 o18 o19 o20 o21 o22 o23 o24 o25 o26 : Option Val) : ownT 27 (o0 :: o1 :: o2 :: o3 :: o4 :: o5 :: o6 :: o7 :: o8 :: o9 :: o10 :: o11 :: o12 :: o13 :: o14 :: o15 :: o16 :: o17 :: o18 :: o19 :: o20 :: o21 :: o22 :: o23 :: o24 :: o25 :: o26 :: some (.own (.dK ks xs)) :: r) = true := rfl
theorem ot27 (o0 o1 o2 o3 o4 o5 o6 o7 o8 o9 o10 o11 o12 o13 o14 o15 o16 o17 o18 o19 o20 o21 o22 o23 o24 o25 o26 : Option Val) : ownT 27 (o0 :: o1 :: o2 :: o3 :: o4 :: o5 :: o6 :: o7 :: o8 :: o9 :: o10 :: o11 :: o12 :: o13 :: o14 :: o15 :: o16 :: o17 :: o18 :: o19 :: o20 :: o21 :: o22 :: o23 :: o24 :: o25 :: o26 :: some (.own (.dT kt xs)) :: r) = true := rfl
theorem vd27 (o0 o1 o2 o3 o4 o5 o6 o7 o8 o9 o10 o11 o12 o13 o14 o15 o16 o17 o18 o19 o20 o21 o22 o23 o24 o25 o26 : Option Val) : varX 27 (o0 :: o1 :: o2 :: o3 :: o4 :: o5 :: o6 :: o7 :: o8 :: o9 :: o10 :: o11 :: o12 :: o13 :: o14 :: o15 :: o16 :: o17 :: o18 :: o19 :: o20 :: o21 :: o22 :: o23 :: o24 :: o25 :: o26 :: some (.own (.dK ks xs)) :: r) S = .ok (.fz (.dic ks xs)) (o0 :: o1 :: o2 :: o3 :: o4 :: o5 :: o6 :: o7 :: o8 :: o9 :: o10 :: o11 :: o12 :: o13 :: o14 :: o15 :: o16 :: o17 :: o18 :: o19 :: o20 :: o21 :: o22 :: o23 :: o24 :: o25 :: o26 :: some (.fz (.dic ks xs)) :: r) S := rfl
theorem vt27 (o0 o1 o2 o3 o4 o5 o6 o7 o8 o9 o10 o11 o12 o13 o14 o15 o16 o17 o18 o19 o20 o21 o22 o23 o24 o25 o26 : Option Val) : varX 27 (o0 :: o1 :: o2 :: o3 :: o4 :: o5 :: o6 :: o7 :: o8 :: o9 :: o10 :: o11 :: o12 :: o13 :: o14 :: o15 :: o16 :: o17 :: o18 :: o19 :: o20 :: o21 :: o22 :: o23 :: o24 :: o25 :: o26 :: some (.own (.dT kt xs)) :: r) S = .ok (.fz (.dit kt xs)) (o0 :: o1 :: o2 :: o3 :: o4 :: o5 :: o6 :: o7 :: o8 :: o9 :: o10 :: o11 :: o12 :: o13 :: o14 :: o15 :: o16 :: o17 :: o18 :: o19 :: o20 :: o21 :: o22 :: o23 :: o24 :: o25 :: o26 :: some (.fz (.dit kt xs)) :: r) S := rfl
end
end Eng
end

section
/-! The engine, part S3: more steps. -/
namespace Eng
open PySem L2
section
variable {cf : CF} {gl : Str → Option D} {fr : Frame} {S : Store} {a b c : Xp} {es : Xs} {x y z : D}
def oCmpl (k : CK) (y : D) : Option D → Option Val := fun o => o.bind fun d => (cmpD k d y).map blF
def kMth2 (k : MK) (x : D) (ys : List D) (fr : Frame) (S : Store) : RX Val := if mkOk k (look S x) then RX.lift (mthD S k (look S x) ys) fr S else .no
def kMth1 (cf : CF) (gl : Str → Option D) (k : MK) (es : Xs) (x : D) (t : Bool) (fr : Frame) (S : Store) : RX Val := if t then (evs cf gl es fr S).bind (kMth2 k x) else .no
def kMth (cf : CF) (gl : Str → Option D) (k : MK) (es : Xs) (x : D) (fr : Frame) (S : Store) : RX Val := kMth1 cf gl k es x (mkOk k (look S x)) fr S
theorem ev_mth (k : MK) : ev cf gl (.mth k a es) fr S = (frzX (ev cf gl a fr S)).bind (kMth cf gl k es) := rfl
theorem kMth_eq (k : MK) : kMth cf gl k es x fr S = kMth1 cf gl k es x (mkOk k (look S x)) fr S := rfl
theorem kMth1_t (k : MK) : kMth1 cf gl k es x true fr S = (evs cf gl es fr S).bind (kMth2 k x) := rfl
def kMth3 (k : MK) (d : D) (ys : List D) (t : Bool) (fr : Frame) (S : Store) : RX Val := if t then RX.lift (mthD S k d ys) fr S else .no
theorem kMth2_eq (k : MK) (ys : List D) : kMth2 k x ys fr S = kMth3 k (look S x) ys (mkOk k (look S x)) fr S := rfl
theorem kMth3_t (k : MK) (d : D) (ys : List D) : kMth3 k d ys true fr S = RX.lift (mthD S k d ys) fr S := rfl
theorem mk_up (s : Str) : mkOk .upper (.str s) = true := rfl
theorem mk_jn (s : Str) : mkOk .join (.str s) = true := rfl
theorem mk_sp (s : Str) : mkOk .split (.str s) = true := rfl
theorem mk_dg (s : Str) : mkOk .isdigit (.str s) = true := rfl
theorem mk_g1 (ks : List Key) (vs : List D) : mkOk .get1 (.dic ks vs) = true := rfl
theorem mk_g1t (ks : List (List Key)) (vs : List D) : mkOk .get1 (.dit ks vs) = true := rfl
theorem mk_g2 (ks : List Key) (vs : List D) : mkOk .get2 (.dic ks vs) = true := rfl
theorem mk_g2t (ks : List (List Key)) (vs : List D) : mkOk .get2 (.dit ks vs) = true := rfl
theorem mt_g2t (ks : List (List Key)) (vs : List D) : mthD S .get2 (.dit ks vs) [x, y] = (dgetD (.dit ks vs) x).map fun o => Val.fz (o.getD y) := rfl
theorem mt_g2 (ks : List Key) (vs : List D) : mthD S .get2 (.dic ks vs) [x, y] = (dgetD (.dic ks vs) x).map fun o => Val.fz (o.getD y) := rfl
def oMth (S : Store) (k : MK) (ys : List D) : Option D → Option Val := fun o => o.bind fun d => if mkOk k d then mthD S k d ys else none
def kMthv2 (k : MK) (i : Nat) (ys : List D) (fr : Frame) (S : Store) : RX Val := RX.lift (oMth S k ys (peek i fr S)) fr S
def pOk (k : MK) : Option D → Bool
  | some d => mkOk k d
  | none => false
def kMthv (cf : CF) (gl : Str → Option D) (k : MK) (i : Nat) (es : Xs) (t : Bool) (fr : Frame) (S : Store) : RX Val := if t then (evs cf gl es fr S).bind (kMthv2 k i) else .no
theorem ev_mthv (k : MK) (i : Nat) : ev cf gl (.mthv k i es) fr S = kMthv cf gl k i es (pOk k (peek i fr S)) fr S := by
  show (if peekOk k i fr S then _ else RX.no) = _
  have e : peekOk k i fr S = pOk k (peek i fr S) := by unfold peekOk pOk; cases peek i fr S <;> rfl
  rw [e]; rfl
theorem pOk_some (k : MK) (d : D) : pOk k (some d) = mkOk k d := rfl
theorem kMthv_t (k : MK) (i : Nat) : kMthv cf gl k i es true fr S = (evs cf gl es fr S).bind (kMthv2 k i) := rfl
theorem kMthv2_eq (k : MK) (i : Nat) (ys : List D) : kMthv2 k i ys fr S = RX.lift (oMth S k ys (peek i fr S)) fr S := rfl
theorem oMth_t (ks : List (List Key)) (vs : List D) : oMth S .get2 [x, y] (some (.dit ks vs)) = (dgetD (.dit ks vs) x).map fun o => Val.fz (o.getD y) := rfl
theorem oMth_k (ks : List Key) (vs : List D) : oMth S .get2 [x, y] (some (.dic ks vs)) = (dgetD (.dic ks vs) x).map fun o => Val.fz (o.getD y) := rfl
def kFld (c f : Str) (x : D) (fr : Frame) (S : Store) : RX Val := RX.lift ((fldD S c f x).map Val.fz) fr S
theorem ev_fld (c f : Str) : ev cf gl (.fld c f a) fr S = (frzX (ev cf gl a fr S)).bind (kFld c f) := rfl
theorem kFld_eq (c f : Str) : kFld c f x fr S = RX.lift ((fldD S c f x).map Val.fz) fr S := rfl
def kMeth2 (cf : CF) (f : Str) (x : D) (ys : List D) (fr : Frame) (S : Store) : RX Val := (cf f (x :: ys) S).back fr
def kMeth1 (cf : CF) (gl : Str → Option D) (f : Str) (es : Xs) (x : D) (t : Bool) (fr : Frame) (S : Store) : RX Val := if t then (evs cf gl es fr S).bind (kMeth2 cf f x) else .no
def kMeth (cf : CF) (gl : Str → Option D) (c m f : Str) (es : Xs) (x : D) (fr : Frame) (S : Store) : RX Val := kMeth1 cf gl f es x (insOk S c m x) fr S
theorem ev_meth (c m f : Str) : ev cf gl (.meth c m f a es) fr S = (frzX (ev cf gl a fr S)).bind (kMeth cf gl c m f es) := rfl
theorem kMeth_eq (c m f : Str) : kMeth cf gl c m f es x fr S = kMeth1 cf gl f es x (insOk S c m x) fr S := rfl
theorem kMeth1_t (f : Str) : kMeth1 cf gl f es x true fr S = (evs cf gl es fr S).bind (kMeth2 cf f x) := rfl
theorem kMeth2_eq (f : Str) (ys : List D) : kMeth2 cf f x ys fr S = (cf f (x :: ys) S).back fr := rfl
def kMake (cf : CF) (c f : Str) (ys : List D) (fr : Frame) (S : Store) : RX Val := (cf f (.ref S.length :: ys) (S ++ [.ins c [] []])).made S.length fr
theorem ev_make (c f : Str) : ev cf gl (.make c f es) fr S = (evs cf gl es fr S).bind (kMake cf c f) := rfl
theorem kMake_eq (c f : Str) (ys : List D) : kMake cf c f ys fr S = (cf f (.ref S.length :: ys) (S ++ [.ins c [] []])).made S.length fr := rfl
theorem md_ok (n : Nat) : (RC.ok (.fz .non) S).made n fr = .ok (.fz (.ref n)) fr S := rfl
theorem md_ex (n : Nat) (e : Ex) : (RC.ex e S).made n fr = .ex e fr S := rfl
def kOrv2 (cf : CF) (gl : Str → Option D) (b : Xp) (x : D) (o : Option Bool) (fr : Frame) (S : Store) : RX Val := match o with | some true => .ok (.fz x) fr S | some false => ev cf gl b fr S | none => .no
def kOrv (cf : CF) (gl : Str → Option D) (b : Xp) (x : D) (fr : Frame) (S : Store) : RX Val := kOrv2 cf gl b x (truD (look S x)) fr S
theorem ev_orv : ev cf gl (.orv a b) fr S = (frzX (ev cf gl a fr S)).bind (kOrv cf gl b) := by
  show (frzX (ev cf gl a fr S)).bind _ = _
  cases frzX (ev cf gl a fr S) with
  | ok x f s =>
    show (match truD (look s x) with | some true => _ | some false => _ | none => _) = kOrv2 cf gl b x (truD (look s x)) f s
    cases truD (look s x) with
    | none => rfl
    | some t => cases t <;> rfl
  | ex e f s => rfl
  | no => rfl
theorem kOrv_eq : kOrv cf gl b x fr S = kOrv2 cf gl b x (truD (look S x)) fr S := rfl
theorem kOrv2_t : kOrv2 cf gl b x (some true) fr S = .ok (.fz x) fr S := rfl
theorem kOrv2_f : kOrv2 cf gl b x (some false) fr S = ev cf gl b fr S := rfl
def kIsc (c : Str) (x : D) (fr : Frame) (S : Store) : RX Val := RX.lift ((isC S c x).map blF) fr S
theorem ev_isc (c : Str) : ev cf gl (.isc c a) fr S = (frzX (ev cf gl a fr S)).bind (kIsc c) := rfl
theorem kIsc_eq (c : Str) : kIsc c x fr S = RX.lift ((isC S c x).map blF) fr S := rfl
def kCmpl2 (k : CK) (i : Nat) (y : D) (fr : Frame) (S : Store) : RX Val := RX.lift (oCmpl k (look S y) (peek i fr S)) fr S
def kCmpl (cf : CF) (gl : Str → Option D) (k : CK) (i : Nat) (b : Xp) (o : Option D) (fr : Frame) (S : Store) : RX Val := if o.isSome then (frzX (ev cf gl b fr S)).bind (kCmpl2 k i) else .no
theorem ev_cmpl (k : CK) (i : Nat) : ev cf gl (.cmpl k i b) fr S = kCmpl cf gl k i b (peek i fr S) fr S := rfl
theorem kCmpl_some (k : CK) (i : Nat) (d : D) : kCmpl cf gl k i b (some d) fr S = (frzX (ev cf gl b fr S)).bind (kCmpl2 k i) := rfl
theorem kCmpl2_eq (k : CK) (i : Nat) : kCmpl2 k i y fr S = RX.lift (oCmpl k (look S y) (peek i fr S)) fr S := rfl
theorem oCmpl_some (k : CK) (d : D) : oCmpl k y (some d) = (cmpD k d y).map blF := rfl
theorem evT_cmpl (k : CK) (i : Nat) : evT cf gl (.cmpl k i b) fr S = (frzX (ev cf gl (.cmpl k i b) fr S)).bind kTru := rfl
def kTuprg (y : D) (fr : Frame) (S : Store) : RX Val := match y with
    | .int j => if rgOk 0 j = true ∧ j.toNat ≤ 2 ^ 24 then .ok (.fz (.tup (rgD 0 j))) fr S else .no
    | _ => .no
theorem ev_tuprg : ev cf gl (.tuprg b) fr S = (frzX (ev cf gl b fr S)).bind kTuprg := rfl
theorem kTuprg_eq {j : Int} (h : rgOk 0 j = true ∧ j.toNat ≤ 2 ^ 24) : kTuprg (.int j) fr S = .ok (.fz (.tup (rgD 0 j))) fr S := if_pos h
theorem ret_cmpl (k : CK) (i : Nat) (f : Frame → Store → RX Val) : retX (.cmpl k i a) f = f := rfl
theorem ret_tuprg (f : Frame → Store → RX Val) : retX (.tuprg a) f = f := rfl
def oDisp (y : D) : Option Key → Option Val := fun o => o.map fun q => Val.own (.dK [q] [y])
def kDisp2 (x y : D) (fr : Frame) (S : Store) : RX Val := RX.lift (oDisp y (toKey x)) fr S
def kDisp1 (cf : CF) (gl : Str → Option D) (b : Xp) (x : D) (fr : Frame) (S : Store) : RX Val := (frzX (ev cf gl b fr S)).bind (kDisp2 x)
theorem ev_disp : ev cf gl (.disp a b) fr S = (frzX (ev cf gl a fr S)).bind (kDisp1 cf gl b) := rfl
theorem kDisp1_eq : kDisp1 cf gl b x fr S = (frzX (ev cf gl b fr S)).bind (kDisp2 x) := rfl
theorem kDisp2_eq : kDisp2 x y fr S = RX.lift (oDisp y (toKey x)) fr S := rfl
theorem oDisp_s (s : Str) : oDisp y (toKey (.str s)) = some (.own (.dK [.inr s] [y])) := rfl
theorem oDisp_i (i : Int) : oDisp y (toKey (.int i)) = some (.own (.dK [.inl i] [y])) := rfl
theorem evT_meth (c m f : Str) : evT cf gl (.meth c m f a es) fr S = (frzX (ev cf gl (.meth c m f a es) fr S)).bind kTru := rfl
theorem evT_mth (k : MK) : evT cf gl (.mth k a es) fr S = (frzX (ev cf gl (.mth k a es) fr S)).bind kTru := rfl
theorem evT_fld (c f : Str) : evT cf gl (.fld c f a) fr S = (frzX (ev cf gl (.fld c f a) fr S)).bind kTru := rfl
theorem evT_isc (c : Str) : evT cf gl (.isc c a) fr S = (frzX (ev cf gl (.isc c a) fr S)).bind kTru := rfl
end
section
variable {cf : CF} {gl : Str → Option D} {fr : Frame} {S : Store} {m m2 m3 : Xp} {es : Xs} {d o y : D}
def kSetf2 (c f : Str) (d o : D) (fr : Frame) (S : Store) : RS := setfX c f o d fr S
def kSetf1 (cf : CF) (gl : Str → Option D) (c f : Str) (a : Xp) (w : D × Store) (fr : Frame) : RS := (frzX (ev cf gl a fr w.2)).thn (kSetf2 c f w.1)
def kSetf (cf : CF) (gl : Str → Option D) (c f : Str) (a : Xp) (v : Val) (fr : Frame) (S : Store) : RS := kSetf1 cf gl c f a (shareV v S) fr
theorem ex_setf (c f : Str) : ex cf gl (.setf c f m2 m) fr S = (ev cf gl m fr S).thn (kSetf cf gl c f m2) := rfl
theorem kSetf_fz (c f : Str) : kSetf cf gl c f m (.fz d) fr S = (frzX (ev cf gl m fr S)).thn (kSetf2 c f d) := rfl
theorem kSetf_own (c f : Str) (ce : Cell) : kSetf cf gl c f m (.own ce) fr S = (frzX (ev cf gl m fr (S ++ [ce]))).thn (kSetf2 c f (.ref S.length)) := rfl
theorem kSetf2_eq (c f : Str) : kSetf2 c f d o fr S = setfX c f o d fr S := rfl
def kSetrd3 (d o y : D) (fr : Frame) (S : Store) : RS := setrdX o y d fr S
def kSetrd2 (cf : CF) (gl : Str → Option D) (m2 : Xp) (d o : D) (fr : Frame) (S : Store) : RS := (frzX (ev cf gl m2 fr S)).thn (kSetrd3 d o)
def kSetrd1 (cf : CF) (gl : Str → Option D) (m3 m2 : Xp) (d : D) (fr : Frame) (S : Store) : RS := (frzX (ev cf gl m3 fr S)).thn (kSetrd2 cf gl m2 d)
theorem ex_setrd : ex cf gl (.setrd m3 m2 m) fr S = (frzX (ev cf gl m fr S)).thn (kSetrd1 cf gl m3 m2) := rfl
theorem kSetrd1_eq : kSetrd1 cf gl m3 m2 d fr S = (frzX (ev cf gl m3 fr S)).thn (kSetrd2 cf gl m2 d) := rfl
theorem kSetrd2_eq : kSetrd2 cf gl m2 d o fr S = (frzX (ev cf gl m2 fr S)).thn (kSetrd3 d o) := rfl
theorem kSetrd3_eq : kSetrd3 d o y fr S = setrdX o y d fr S := rfl
theorem ret_mth (k : MK) (f : Frame → Store → RX Val) : retX (.mth k m es) f = f := rfl
theorem ret_mthv (k : MK) (i : Nat) (f : Frame → Store → RX Val) : retX (.mthv k i es) f = f := rfl
theorem ret_fld (c g : Str) (f : Frame → Store → RX Val) : retX (.fld c g m) f = f := rfl
theorem ret_meth (c g h : Str) (f : Frame → Store → RX Val) : retX (.meth c g h m es) f = f := rfl
theorem ret_make (c g : Str) (f : Frame → Store → RX Val) : retX (.make c g es) f = f := rfl
theorem ret_orv (f : Frame → Store → RX Val) : retX (.orv m m2) f = f := rfl
theorem ret_isc (c : Str) (f : Frame → Store → RX Val) : retX (.isc c m) f = f := rfl
theorem ret_disp (f : Frame → Store → RX Val) : retX (.disp m m2) f = f := rfl
theorem ret_rev (f : Frame → Store → RX Val) : retX (.rev m) f = f := rfl
theorem ret_neg (f : Frame → Store → RX Val) : retX (.neg m) f = f := rfl
theorem ret_sortset (f : Frame → Store → RX Val) : retX (.sortset m) f = f := rfl
theorem ret_lenset (f : Frame → Store → RX Val) : retX (.lenset m) f = f := rfl
theorem ret_dic0 (t : Bool) (f : Frame → Store → RX Val) : retX (.dic0 t) f = f := rfl
theorem evO_meth (c g h : Str) (f : Frame → Store → RX Val) : evO (.meth c g h m es) f = evO (.con .non) f := rfl
end
theorem lk_dit (S : Store) (ks : List (List Key)) (vs : List D) : look S (.dit ks vs) = .dit ks vs := rfl
/-! ### wishes -/
section
variable {α β : Type} {fr : Frame} {S : Store}
abbrev EK := Ex → Frame → Store → Prop
def RX.wp (r : RX α) (Q : α → Frame → Store → Prop) (E : EK) : Prop := match r with
  | .ok a fr S => Q a fr S
  | .ex e fr S => E e fr S
  | .no => False
def RS.wp (r : RS) (N : Frame → Store → Prop) (R : Val → Frame → Store → Prop) (E : EK) : Prop := match r with
  | .nx fr S => N fr S
  | .rt v fr S => R v fr S
  | .ex e fr S => E e fr S
  | _ => False
def RC.wp (r : RC) (Q : Val → Store → Prop) (E : Ex → Store → Prop) : Prop := match r with
  | .ok v S => Q v S
  | .ex e S => E e S
  | .no => False
variable {Q : α → Frame → Store → Prop} {Q' : β → Frame → Store → Prop} {N : Frame → Store → Prop} {R : Val → Frame → Store → Prop} {E : EK} {C : Val → Store → Prop} {X : Ex → Store → Prop}
def qB (k : α → Frame → Store → RX β) (Q : β → Frame → Store → Prop) (E : EK) (a : α) (fr : Frame) (S : Store) : Prop := (k a fr S).wp Q E
def qT (k : α → Frame → Store → RS) (N : Frame → Store → Prop) (R : Val → Frame → Store → Prop) (E : EK) (a : α) (fr : Frame) (S : Store) : Prop := (k a fr S).wp N R E
def qS (k : Frame → Store → RS) (N : Frame → Store → Prop) (R : Val → Frame → Store → Prop) (E : EK) (fr : Frame) (S : Store) : Prop := (k fr S).wp N R E
def qF (Q : D → Frame → Store → Prop) (v : Val) (fr : Frame) (S : Store) : Prop := (RX.lift v.frz fr S).wp Q fun _ _ _ => False
def qN (C : Val → Store → Prop) (fr : Frame) (S : Store) : Prop := C (.fz .non) S
def qR (C : Val → Store → Prop) (v : Val) (fr : Frame) (S : Store) : Prop := C v S
def qE (X : Ex → Store → Prop) (e : Ex) (fr : Frame) (S : Store) : Prop := X e S
def qK (fr : Frame) (Q : Val → Frame → Store → Prop) (v : Val) (S : Store) : Prop := Q v fr S
def qX (fr : Frame) (E : EK) (e : Ex) (S : Store) : Prop := E e fr S
def qM (n : Nat) (fr : Frame) (Q : Val → Frame → Store → Prop) (v : Val) (S : Store) : Prop := match v with
  | .fz .non => Q (.fz (.ref n)) fr S
  | _ => False
theorem w_ok (a : α) : (RX.ok a fr S).wp Q E = Q a fr S := rfl
theorem w_ex (e : Ex) : (RX.ex e fr S : RX α).wp Q E = E e fr S := rfl
theorem w_bind (r : RX α) (k : α → Frame → Store → RX β) : (r.bind k).wp Q' E = r.wp (qB k Q' E) E := by cases r <;> rfl
theorem w_thn (r : RX α) (k : α → Frame → Store → RS) : (r.thn k).wp N R E = r.wp (qT k N R E) E := by cases r <;> rfl
theorem w_nx : (RS.nx fr S).wp N R E = N fr S := rfl
theorem w_rt (v : Val) : (RS.rt v fr S).wp N R E = R v fr S := rfl
theorem w_exs (e : Ex) : (RS.ex e fr S).wp N R E = E e fr S := rfl
theorem w_seq (r : RS) (k : Frame → Store → RS) : (r.seq k).wp N R E = r.wp (qS k N R E) R E := by cases r <;> rfl
theorem w_done (r : RS) : r.done.wp C X = r.wp (qN C) (qR C) (qE X) := by cases r <;> rfl
theorem w_okC (v : Val) : (RC.ok v S).wp C X = C v S := rfl
theorem w_exC (e : Ex) : (RC.ex e S).wp C X = X e S := rfl
theorem w_back (r : RC) {Q : Val → Frame → Store → Prop} : (r.back fr).wp Q E = r.wp (qK fr Q) (qX fr E) := by cases r <;> rfl
theorem w_made (r : RC) (n : Nat) {Q : Val → Frame → Store → Prop} : (r.made n fr).wp Q E = r.wp (qM n fr Q) (qX fr E) := by
  cases r with
  | ok v S => cases v with
    | fz d => cases d <;> rfl
    | own _ => rfl
  | ex e S => rfl
  | no => rfl
theorem w_frz (r : RX Val) {Q : D → Frame → Store → Prop} : (frzX r).wp Q E = r.wp (qF Q) E := by
  cases r with
  | ok v f s => cases v with
    | fz d => rfl
    | own ce => cases ce <;> rfl
  | ex e f s => rfl
  | no => rfl
theorem qB_eq (k : α → Frame → Store → RX β) (a : α) : qB k Q' E a fr S = (k a fr S).wp Q' E := rfl
theorem qT_eq (k : α → Frame → Store → RS) (a : α) : qT k N R E a fr S = (k a fr S).wp N R E := rfl
theorem qS_eq (k : Frame → Store → RS) : qS k N R E fr S = (k fr S).wp N R E := rfl
theorem qF_fz {Q : D → Frame → Store → Prop} (d : D) : qF Q (.fz d) fr S = Q d fr S := rfl
theorem qF_lst {Q : D → Frame → Store → Prop} (xs : List D) : qF Q (.own (.lst xs)) fr S = Q (.lst xs) fr S := rfl
theorem qF_dT {Q : D → Frame → Store → Prop} (ks : List (List Key)) (xs : List D) : qF Q (.own (.dT ks xs)) fr S = Q (.dit ks xs) fr S := rfl
theorem qF_dK {Q : D → Frame → Store → Prop} (ks : List Key) (xs : List D) : qF Q (.own (.dK ks xs)) fr S = Q (.dic ks xs) fr S := rfl
theorem qN_eq : qN C fr S = C (.fz .non) S := rfl
theorem qR_eq (v : Val) : qR C v fr S = C v S := rfl
theorem qE_eq (e : Ex) : qE X e fr S = X e S := rfl
theorem qK_eq {Q : Val → Frame → Store → Prop} (v : Val) : qK fr Q v S = Q v fr S := rfl
theorem qX_eq (e : Ex) : qX fr E e S = E e fr S := rfl
theorem qM_eq (n : Nat) {Q : Val → Frame → Store → Prop} : qM n fr Q (.fz .non) S = Q (.fz (.ref n)) fr S := rfl
theorem RX.wp.imp {r : RX α} {Q2 : α → Frame → Store → Prop} {E2 : EK} (h : r.wp Q E) (i : ∀ a fr S, Q a fr S → Q2 a fr S) (j : ∀ e fr S, E e fr S → E2 e fr S) : r.wp Q2 E2 := by
  cases r with
  | ok a f s => exact i _ _ _ h
  | ex e f s => exact j _ _ _ h
  | no => exact h
theorem RC.wp.imp {r : RC} {C2 : Val → Store → Prop} {X2 : Ex → Store → Prop} (h : r.wp C X) (i : ∀ a S, C a S → C2 a S) (j : ∀ e S, X e S → X2 e S) : r.wp C2 X2 := by
  cases r with
  | ok a s => exact i _ _ h
  | ex e s => exact j _ _ h
  | no => exact h
theorem RS.wp.imp {r : RS} {N2 : Frame → Store → Prop} {R2 : Val → Frame → Store → Prop} {E2 : EK} (h : r.wp N R E) (i : ∀ fr S, N fr S → N2 fr S) (k : ∀ v fr S, R v fr S → R2 v fr S) (j : ∀ e fr S, E e fr S → E2 e fr S) : r.wp N2 R2 E2 := by
  cases r with
  | nx f s => exact i _ _ h
  | rt v f s => exact k _ _ _ h
  | ex e f s => exact j _ _ _ h
  | bk _ _ => exact h
  | ct _ _ => exact h
  | no => exact h
def noE : EK := fun _ _ _ => False
def noX : Ex → Store → Prop := fun _ _ => False
/-- from a wish to an equation -/
theorem RC.eq_of {r : RC} {v : Val} (h : r.wp (fun w T => w = v ∧ T = S) noX) : r = .ok v S := by
  cases r with
  | ok a s => obtain ⟨rfl, rfl⟩ := h; rfl
  | ex e s => exact h.elim
  | no => exact h.elim
theorem RC.ex_of {r : RC} {e : Ex} (h : r.wp (fun _ _ => False) (fun w T => w = e ∧ T = S)) : r = .ex e S := by
  cases r with
  | ok a s => exact h.elim
  | ex e s => obtain ⟨rfl, rfl⟩ := h; rfl
  | no => exact h.elim
theorem RX.eq_of {r : RX α} {v : α} (h : r.wp (fun w f T => w = v ∧ f = fr ∧ T = S) noE) : r = .ok v fr S := by
  cases r with
  | ok a f s => obtain ⟨rfl, rfl, rfl⟩ := h; rfl
  | ex e s => exact h.elim
  | no => exact h.elim
theorem RC.some_of {r : RC} {v : Val} (h : r.wp (fun w _ => w = v) noX) : ∃ T, r = .ok v T := by
  cases r with
  | ok a s => obtain rfl := h; exact ⟨s, rfl⟩
  | ex e s => exact h.elim
  | no => exact h.elim
/-- a loop, by what stays true -/
theorem wp_loop {tg : Tg} {body : Frame → Store → RS} (I : Nat → Frame → Store → Prop) : ∀ {ds : List D} {fr : Frame} {S : Store}, I 0 fr S → (∀ i d fr S, ds[i]? = some d → I i fr S → ∃ fr1, asg tg d fr = some fr1 ∧ (body fr1 S).wp (I (i + 1)) R E) →
    (∀ fr S, I ds.length fr S → N fr S) → (loopGo tg body ds fr S).wp N R E := by
  intro ds
  induction ds generalizing I with
  | nil => exact fun {fr S} h0 _ hN => hN fr S h0
  | cons d ds ih =>
    intro fr S h0 hs hN
    obtain ⟨fr1, e1, e2⟩ := hs 0 d fr S rfl h0
    show (match asg tg d fr with | none => RS.no | some fr1 => match body fr1 S with | .nx fr2 S2 => loopGo tg body ds fr2 S2 | .ct fr2 S2 => loopGo tg body ds fr2 S2 | .bk fr2 S2 => .nx fr2 S2 | r => r).wp N R E
    rw [e1]
    dsimp only
    cases q : body fr1 S with
    | nx f s =>
      rw [q] at e2
      exact ih (fun i => I (i + 1)) e2 (fun i d fr S h => hs (i + 1) d fr S h) hN
    | rt v f s => rw [q] at e2; exact e2
    | ex e f s => rw [q] at e2; exact e2
    | bk f s => rw [q] at e2; exact e2.elim
    | ct f s => rw [q] at e2; exact e2.elim
    | no => rw [q] at e2; exact e2
/-- the same over a typed list -/
theorem wp_loopM {γ : Type} {tg : Tg} {body : Frame → Store → RS} (f : γ → D) {xs : List γ} {fr : Frame} {S : Store} (I : Nat → Frame → Store → Prop) (h0 : I 0 fr S) (hs : ∀ i x fr S, xs[i]? = some x → I i fr S → ∃ fr1, asg tg (f x) fr = some fr1 ∧ (body fr1 S).wp (I (i + 1)) R E)
    (hN : ∀ fr S, I xs.length fr S → N fr S) : (loopGo tg body (xs.map f) fr S).wp N R E := by
  refine wp_loop I h0 (fun i d fr S h hi => ?_) (fun fr S h => hN fr S (by rw [List.length_map] at h; exact h))
  rw [List.getElem?_map] at h
  obtain ⟨x, hx, rfl⟩ := Option.map_eq_some_iff.mp h
  exact hs i x fr S hx hi
/-- a comprehension that changes nothing -/
theorem wp_compM {γ : Type} {cf : CF} {gl : Str → Option D} {a : Xp} {tg : Tg} {es : Xs} {fr : Frame} {S : Store} {Q : Val → Frame → Store → Prop} (f g : γ → D) (p : γ → Bool) (xs : List γ) (frw : Frame) (hc : calmF fr tg.slots = true) (hw : wipeF fr tg.slots = frw) (hb : backF fr frw tg.slots = fr) (hl : xs.length ≤ sizeLine)
    (h : ∀ x ∈ xs, ∃ fr1, asg tg (f x) frw = some fr1 ∧ (evC cf gl es fr1 S).wp (fun t f s => t = p x ∧ f = fr1 ∧ s = S) noE ∧ (p x = true → (ev cf gl a fr1 S).wp (qF fun d f s => d = g x ∧ f = fr1 ∧ s = S) noE) ∧ wipeF fr1 tg.slots = frw)
    (hQ : Q (.own (.lst ((xs.filter p).map g))) fr S) : (kComp cf gl a tg es (xs.map f) fr S).wp Q E := by
  have key : ∀ (xs : List γ) (acc : List D), acc.length + xs.length ≤ sizeLine → (∀ x ∈ xs, ∃ fr1, asg tg (f x) frw = some fr1 ∧ (evC cf gl es fr1 S).wp (fun t f s => t = p x ∧ f = fr1 ∧ s = S) noE ∧ (p x = true → (ev cf gl a fr1 S).wp (qF fun d f s => d = g x ∧ f = fr1 ∧ s = S) noE) ∧ wipeF fr1 tg.slots = frw) →
      compGo tg (evC cf gl es) (eltX cf gl a) (xs.map f) acc frw S = .ok (acc ++ (xs.filter p).map g) frw S := by
    intro xs
    induction xs with
    | nil => intro acc _ _; simp only [List.filter_nil, List.map_nil, List.append_nil]; rfl
    | cons x xs ih =>
      intro acc hl h
      obtain ⟨fr1, h1, h2, h3, h4⟩ := h x (List.mem_cons_self ..)
      have h2 := RX.eq_of h2
      have hl' : acc.length + xs.length + 1 ≤ sizeLine := hl
      have ih2 := fun acc hl => ih acc hl (fun y hy => h y (List.mem_cons_of_mem _ hy))
      rw [List.map_cons]
      show (match asg tg (f x) frw with | none => RX.no | some fr1 => match evC cf gl es fr1 S with
        | .ok true fr2 S2 => match eltX cf gl a fr2 S2 with
          | .ok y fr3 S3 => if acc.length < sizeLine then compGo tg (evC cf gl es) (eltX cf gl a) (xs.map f) (acc ++ [y]) (wipeF fr3 tg.slots) S3 else .no
          | _ => .no
        | .ok false fr2 S2 => compGo tg (evC cf gl es) (eltX cf gl a) (xs.map f) acc (wipeF fr2 tg.slots) S2
        | _ => .no) = _
      rw [h1]
      dsimp only
      rw [h2]
      cases e : p x with
      | true =>
        dsimp only
        have h3 := h3 e
        rw [← w_frz] at h3
        have h3 : eltX cf gl a fr1 S = .ok (g x) fr1 S := RX.eq_of h3
        rw [h3]
        dsimp only
        rw [if_pos (by omega), h4, ih2 _ (by simp; omega), List.filter_cons, e]
        simp
      | false =>
        dsimp only
        rw [h4, ih2 _ (by omega), List.filter_cons, e]
        simp
  have e := key xs [] (by simpa using hl) h
  rw [List.nil_append] at e
  unfold kComp
  rw [if_pos hc, hw, e]
  show Q (.own (.lst ((xs.filter p).map g))) (backF fr frw tg.slots) S
  rw [hb]; exact hQ
/-- a comprehension by what stays true -/
theorem wp_comp {cf : CF} {gl : Str → Option D} {a : Xp} {tg : Tg} {es : Xs} {ds : List D} {fr frw : Frame} {S : Store} {Q : Val → Frame → Store → Prop} (I : Nat → List D → Frame → Store → Prop) (hc : calmF fr tg.slots = true) (hw : wipeF fr tg.slots = frw) (hl : ds.length ≤ sizeLine) (h0 : I 0 [] frw S)
    (hs : ∀ i d acc fr S, ds[i]? = some d → I i acc fr S → ∃ fr1, asg tg d fr = some fr1 ∧ (evC cf gl es fr1 S).wp (fun t f s => (t = true → (ev cf gl a f s).wp (qF fun y f2 s2 => I (i + 1) (acc ++ [y]) (wipeF f2 tg.slots) s2) noE) ∧ (t = false → I (i + 1) acc (wipeF f tg.slots) s)) noE)
    (hQ : ∀ acc fr' S', I ds.length acc fr' S' → acc.length ≤ ds.length → Q (.own (.lst acc)) (backF fr fr' tg.slots) S') : (kComp cf gl a tg es ds fr S).wp Q E := by
  have key : ∀ (ds : List D) (j : Nat) (acc : List D) (fr : Frame) (S : Store), acc.length ≤ j → j + ds.length ≤ sizeLine → I j acc fr S → (∀ i d acc fr S, ds[i]? = some d → I (j + i) acc fr S → ∃ fr1, asg tg d fr = some fr1 ∧ (evC cf gl es fr1 S).wp (fun t f s => (t = true → (ev cf gl a f s).wp (qF fun y f2 s2 => I (j + i + 1) (acc ++ [y]) (wipeF f2 tg.slots) s2) noE) ∧ (t = false → I (j + i + 1) acc (wipeF f tg.slots) s)) noE) →
      ∃ acc' fr' S', compGo tg (evC cf gl es) (eltX cf gl a) ds acc fr S = .ok acc' fr' S' ∧ I (j + ds.length) acc' fr' S' ∧ acc'.length ≤ j + ds.length := by
    intro ds
    induction ds with
    | nil => exact fun j acc fr S ha _ h _ => ⟨acc, fr, S, rfl, h, ha⟩
    | cons d ds ih =>
      intro j acc fr S ha hl h hs
      obtain ⟨fr1, h1, h2⟩ := hs 0 d acc fr S rfl h
      have hl' : j + ds.length + 1 ≤ sizeLine := hl
      have rec' : ∀ acc2 fr2 S2, acc2.length ≤ j + 1 → I (j + 1) acc2 fr2 S2 → ∃ acc' fr' S', compGo tg (evC cf gl es) (eltX cf gl a) ds acc2 fr2 S2 = .ok acc' fr' S' ∧ I (j + (ds.length + 1)) acc' fr' S' ∧ acc'.length ≤ j + (ds.length + 1) := fun acc2 fr2 S2 ha2 h2 => by
        have := ih (j + 1) acc2 fr2 S2 ha2 (by omega) h2 (fun i d acc fr S hd hi => by
          have e : j + 1 + i = j + (i + 1) := by omega
          rw [e] at hi
          have := hs (i + 1) d acc fr S hd hi
          rw [show j + 1 + i + 1 = j + (i + 1) + 1 by omega]
          exact this)
        rw [show j + 1 + ds.length = j + (ds.length + 1) by omega] at this
        exact this
      show ∃ acc' fr' S', (match asg tg d fr with | none => RX.no | some fr1 => match evC cf gl es fr1 S with
        | .ok true fr2 S2 => match eltX cf gl a fr2 S2 with
          | .ok y fr3 S3 => if acc.length < sizeLine then compGo tg (evC cf gl es) (eltX cf gl a) ds (acc ++ [y]) (wipeF fr3 tg.slots) S3 else .no
          | _ => .no
        | .ok false fr2 S2 => compGo tg (evC cf gl es) (eltX cf gl a) ds acc (wipeF fr2 tg.slots) S2
        | _ => .no) = _ ∧ _
      rw [h1]
      dsimp only
      cases q : evC cf gl es fr1 S with
      | no => rw [q] at h2; exact h2.elim
      | ex e f s => rw [q] at h2; exact h2.elim
      | ok t f s =>
        rw [q] at h2
        obtain ⟨h3, h4⟩ := h2
        cases t with
        | false => exact rec' acc _ s (by omega) (h4 rfl)
        | true =>
          have h3 := h3 rfl
          rw [← w_frz] at h3
          dsimp only
          have q2 : eltX cf gl a f s = frzX (ev cf gl a f s) := rfl
          rw [q2]
          cases q3 : frzX (ev cf gl a f s) with
          | no => rw [q3] at h3; exact h3.elim
          | ex e f s => rw [q3] at h3; exact h3.elim
          | ok y f2 s2 =>
            rw [q3] at h3
            dsimp only
            rw [if_pos (by omega)]
            exact rec' (acc ++ [y]) _ s2 (by simp; omega) h3
  obtain ⟨acc, fr', S', e, h1, h2⟩ := key ds 0 [] frw S (Nat.le_refl _) (by omega) h0 (fun i d acc fr S hd hi => by rw [Nat.zero_add] at hi ⊢; exact hs i d acc fr S hd hi)
  rw [Nat.zero_add] at h1 h2
  unfold kComp
  rw [if_pos hc, hw, e]
  exact hQ acc fr' S' h1 h2
end
end Eng
end

section
/-! The engine, part T: loops and comprehensions by what stays true of them. -/
namespace Eng
open PySem L2
section
variable {tg : Tg} {body : Eng.Frame → Store → RS} {test : Eng.Frame → Store → RX Bool} {elt : Eng.Frame → Store → RX D}
theorem loop_nil {fr : Eng.Frame} {S : Store} : loopGo tg body [] fr S = .nx fr S := rfl
theorem loop_step {d : D} {ds : List D} {fr fr1 fr2 : Eng.Frame} {S S2 : Store} (h1 : asg tg d fr = some fr1) (h2 : body fr1 S = .nx fr2 S2) : loopGo tg body (d :: ds) fr S = loopGo tg body ds fr2 S2 := by
  show (match asg tg d fr with | none => RS.no | some fr1 => _) = _
  rw [h1]
  show (match body fr1 S with | .nx fr2 S2 => _ | .ct fr2 S2 => _ | .bk fr2 S2 => _ | r => r) = _
  rw [h2]
theorem loop_rt {d : D} {ds : List D} {fr fr1 fr2 : Eng.Frame} {S S2 : Store} {v : Val} (h1 : asg tg d fr = some fr1) (h2 : body fr1 S = .rt v fr2 S2) : loopGo tg body (d :: ds) fr S = .rt v fr2 S2 := by
  show (match asg tg d fr with | none => RS.no | some fr1 => _) = _
  rw [h1]
  show (match body fr1 S with | .nx fr2 S2 => _ | .ct fr2 S2 => _ | .bk fr2 S2 => _ | r => r) = _
  rw [h2]
theorem loop_inv (I : Nat → Eng.Frame → Store → Prop) : (ds : List D) → (j : Nat) → {fr : Eng.Frame} → {S : Store} → I j fr S →
    (∀ i d fr S, ds[i]? = some d → I (j + i) fr S → ∃ fr1 fr2 S2, asg tg d fr = some fr1 ∧ body fr1 S = .nx fr2 S2 ∧ I (j + i + 1) fr2 S2) →
    ∃ fr' S', loopGo tg body ds fr S = .nx fr' S' ∧ I (j + ds.length) fr' S'
  | [], j, fr, S, h0, _ => ⟨fr, S, rfl, h0⟩
  | d :: ds, j, fr, S, h0, hs => by
    obtain ⟨fr1, fr2, S2, h1, h2, h3⟩ := hs 0 d fr S rfl h0
    rw [loop_step h1 h2]
    obtain ⟨fr', S', h4, h5⟩ := loop_inv I ds (j + 1) (fr := fr2) (S := S2) h3 (fun i d fr S hd hi => by
      have e : j + 1 + i = j + (i + 1) := by omega
      rw [e] at hi
      obtain ⟨a, b, c, h1, h2, h3⟩ := hs (i + 1) d fr S hd hi
      exact ⟨a, b, c, h1, h2, by rw [e]; exact h3⟩)
    exact ⟨fr', S', h4, by have e : j + 1 + ds.length = j + (ds.length + 1) := by omega
                           rw [e] at h5; exact h5⟩
/-- from the first turn -/
theorem loop_inv0 (I : Nat → Eng.Frame → Store → Prop) {ds : List D} {fr : Eng.Frame} {S : Store} (h0 : I 0 fr S)
    (hs : ∀ i d fr S, ds[i]? = some d → I i fr S → ∃ fr1 fr2 S2, asg tg d fr = some fr1 ∧ body fr1 S = .nx fr2 S2 ∧ I (i + 1) fr2 S2) :
    ∃ fr' S', loopGo tg body ds fr S = .nx fr' S' ∧ I ds.length fr' S' := by
  obtain ⟨a, b, h, h'⟩ := loop_inv (tg := tg) (body := body) I ds 0 h0 (fun i d fr S hd hi => by rw [Nat.zero_add] at hi ⊢; exact hs i d fr S hd hi)
  rw [Nat.zero_add] at h'
  exact ⟨a, b, h, h'⟩
theorem comp_nil {acc : List D} {fr : Eng.Frame} {S : Store} : compGo tg test elt [] acc fr S = .ok acc fr S := rfl
theorem comp_step {d y : D} {ds acc : List D} {fr fr1 fr2 fr3 : Eng.Frame} {S S2 S3 : Store} (h1 : asg tg d fr = some fr1) (h2 : test fr1 S = .ok true fr2 S2) (h3 : elt fr2 S2 = .ok y fr3 S3) (hl : acc.length < sizeLine) :
    compGo tg test elt (d :: ds) acc fr S = compGo tg test elt ds (acc ++ [y]) (wipeF fr3 tg.slots) S3 := by
  show (match asg tg d fr with | none => RX.no | some fr1 => _) = _
  rw [h1]
  show (match test fr1 S with | .ok true fr2 S2 => _ | .ok false fr2 S2 => _ | _ => _) = _
  rw [h2]
  show (match elt fr2 S2 with | .ok y fr3 S3 => if acc.length < sizeLine then _ else RX.no | _ => _) = _
  rw [h3]
  show (if acc.length < sizeLine then _ else _) = _
  rw [if_pos hl]
theorem comp_skip {d : D} {ds acc : List D} {fr fr1 fr2 : Eng.Frame} {S S2 : Store} (h1 : asg tg d fr = some fr1) (h2 : test fr1 S = .ok false fr2 S2) :
    compGo tg test elt (d :: ds) acc fr S = compGo tg test elt ds acc (wipeF fr2 tg.slots) S2 := by
  show (match asg tg d fr with | none => RX.no | some fr1 => _) = _
  rw [h1]
  show (match test fr1 S with | .ok true fr2 S2 => _ | .ok false fr2 S2 => _ | _ => _) = _
  rw [h2]
/-- each turn gives one value -/
theorem comp_inv (I : Nat → List D → Eng.Frame → Store → Prop) : (ds : List D) → (j : Nat) → {acc : List D} → {fr : Eng.Frame} → {S : Store} → I j acc fr S → acc.length + ds.length ≤ sizeLine →
    (∀ i d acc fr S, ds[i]? = some d → I (j + i) acc fr S → ∃ fr1 fr2 fr3 y S2 S3, asg tg d fr = some fr1 ∧ test fr1 S = .ok true fr2 S2 ∧ elt fr2 S2 = .ok y fr3 S3 ∧ I (j + i + 1) (acc ++ [y]) (wipeF fr3 tg.slots) S3) →
    ∃ acc' fr' S', compGo tg test elt ds acc fr S = .ok acc' fr' S' ∧ I (j + ds.length) acc' fr' S' ∧ acc'.length = acc.length + ds.length
  | [], j, acc, fr, S, h0, _, _ => ⟨acc, fr, S, rfl, h0, rfl⟩
  | d :: ds, j, acc, fr, S, h0, hl, hs => by
    obtain ⟨fr1, fr2, fr3, y, S2, S3, h1, h2, h3, h4⟩ := hs 0 d acc fr S rfl h0
    have hl' : acc.length + ds.length + 1 ≤ sizeLine := hl
    rw [comp_step h1 h2 h3 (by omega)]
    obtain ⟨acc', fr', S', h5, h6, h7⟩ := comp_inv I ds (j + 1) (acc := acc ++ [y]) (fr := wipeF fr3 tg.slots) (S := S3) h4 (by simp; omega) (fun i d acc fr S hd hi => by
      have e : j + 1 + i = j + (i + 1) := by omega
      rw [e] at hi ⊢
      exact hs (i + 1) d acc fr S hd hi)
    refine ⟨acc', fr', S', h5, ?_, ?_⟩
    · have e : j + 1 + ds.length = j + (ds.length + 1) := by omega
      rw [e] at h6; exact h6
    · rw [h7]; simp; omega
theorem comp_inv0 (I : Nat → List D → Eng.Frame → Store → Prop) {ds : List D} {fr : Eng.Frame} {S : Store} (h0 : I 0 [] fr S) (hl : ds.length ≤ sizeLine)
    (hs : ∀ i d acc fr S, ds[i]? = some d → I i acc fr S → ∃ fr1 fr2 fr3 y S2 S3, asg tg d fr = some fr1 ∧ test fr1 S = .ok true fr2 S2 ∧ elt fr2 S2 = .ok y fr3 S3 ∧ I (i + 1) (acc ++ [y]) (wipeF fr3 tg.slots) S3) :
    ∃ acc' fr' S', compGo tg test elt ds [] fr S = .ok acc' fr' S' ∧ I ds.length acc' fr' S' ∧ acc'.length = ds.length := by
  obtain ⟨a, b, c, h, h', h''⟩ := comp_inv (tg := tg) (test := test) (elt := elt) I ds 0 (acc := []) h0 (by simpa using hl) (fun i d acc fr S hd hi => by rw [Nat.zero_add] at hi ⊢; exact hs i d acc fr S hd hi)
  rw [Nat.zero_add] at h'
  exact ⟨a, b, c, h, h', by simpa using h''⟩
/-- nothing but the names of the target moves: a filtered map -/
theorem comp_pure {fr : Eng.Frame} {S : Store} {g : D → D} {p : D → Bool} : (ds acc : List D) → acc.length + ds.length ≤ sizeLine →
    (∀ d ∈ ds, ∃ fr1, asg tg d fr = some fr1 ∧ test fr1 S = .ok (p d) fr1 S ∧ (p d = true → elt fr1 S = .ok (g d) fr1 S) ∧ wipeF fr1 tg.slots = fr) →
    compGo tg test elt ds acc fr S = .ok (acc ++ (ds.filter p).map g) fr S
  | [], acc, _, _ => by simp only [List.filter_nil, List.map_nil, List.append_nil]; rfl
  | d :: ds, acc, hl, h => by
    obtain ⟨fr1, h1, h2, h3, h4⟩ := h d (List.mem_cons_self ..)
    have hl' : acc.length + ds.length + 1 ≤ sizeLine := hl
    cases e : p d with
    | true =>
      rw [e] at h2
      rw [comp_step h1 h2 (h3 e) (by omega), h4, comp_pure ds (acc ++ [g d]) (by simp; omega) (fun d hd => h d (List.mem_cons_of_mem _ hd))]
      simp [List.filter_cons, e]
    | false =>
      rw [e] at h2
      rw [comp_skip h1 h2, h4, comp_pure ds acc (by omega) (fun d hd => h d (List.mem_cons_of_mem _ hd))]
      simp [List.filter_cons, e]
/-- a map alone -/
theorem comp_map {fr : Eng.Frame} {S : Store} {g : D → D} {ds : List D} (hl : ds.length ≤ sizeLine)
    (h : ∀ d ∈ ds, ∃ fr1, asg tg d fr = some fr1 ∧ test fr1 S = .ok true fr1 S ∧ elt fr1 S = .ok (g d) fr1 S ∧ wipeF fr1 tg.slots = fr) :
    compGo tg test elt ds [] fr S = .ok (ds.map g) fr S := by
  rw [comp_pure (g := g) (p := fun _ => true) ds [] (by simpa using hl) (fun d hd => by
    obtain ⟨a, b, c, e, f⟩ := h d hd
    exact ⟨a, b, c, fun _ => e, f⟩)]
  rw [List.nil_append, List.filter_eq_self.mpr (fun _ _ => rfl)]
end
theorem rg_mem {a b : Int} {i : Nat} {d : D} (h : (rgD a b)[i]? = some d) : d = .int (a + i) ∧ i < (b - a).toNat := by
  unfold rgD at h
  rw [List.getElem?_map] at h
  obtain ⟨x, hx, rfl⟩ := Option.map_eq_some_iff.mp h
  obtain ⟨h1, h2⟩ := List.getElem?_eq_some_iff.mp hx
  rw [List.getElem_range] at h2
  rw [List.length_range] at h1
  subst h2
  exact ⟨rfl, h1⟩
theorem rg_len (a b : Int) : (rgD a b).length = (b - a).toNat := by unfold rgD; rw [List.length_map, List.length_range]
theorem boolL_map (f : D → Bool) (ds : List D) : boolL (ds.map fun d => .bl (f d)) = some (ds.map f) := by
  induction ds with
  | nil => rfl
  | cons d ds ih => show (boolL (ds.map fun d => .bl (f d))).map (f d :: ·) = _; rw [ih]; rfl
theorem boolL_bl (bs : List Bool) : boolL (bs.map D.bl) = some bs := by
  induction bs with
  | nil => rfl
  | cons d ds ih => show (boolL (ds.map D.bl)).map (d :: ·) = _; rw [ih]; rfl
theorem intL_int (bs : List Int) : intL (bs.map D.int) = some bs := by
  induction bs with
  | nil => rfl
  | cons d ds ih => show (intL (ds.map D.int)).map (d :: ·) = _; rw [ih]; rfl
theorem all_bl (bs : List Bool) : bltD .all [.lst (bs.map D.bl)] = some (.fz (.bl (bs.all id))) := by
  show (boolL (bs.map D.bl)).map _ = _
  rw [boolL_bl]; rfl
theorem any_bl (bs : List Bool) : bltD .any [.lst (bs.map D.bl)] = some (.fz (.bl (bs.any id))) := by
  show (boolL (bs.map D.bl)).map _ = _
  rw [boolL_bl]; rfl
theorem sum_int (bs : List Int) : bltD .sum [.lst (bs.map D.int)] = some (.fz (.int bs.sum)) := by
  show (intL (bs.map D.int)).map _ = _
  rw [intL_int]; rfl
theorem lenset_int {ns : List Int} (h : ns.Nodup) (h2 : ns.length ≤ 4000) : lensetD (.lst (ns.map D.int)) = some (.fz (.int ns.length)) := by
  show (intL (ns.map D.int)).bind _ = _
  rw [intL_int]
  show (if _ then _ else _) = _
  rw [if_pos ⟨h, h2⟩]
theorem atD_nat {xs : List D} {x : D} {j : Int} {i : Nat} (e : j = i) (h : xs[i]? = some x) : atD xs j = some x := by
  subst e; exact atI_nat h
theorem pls_ints (xs : List Int) : D.pls (xs.map D.int) = true := by
  induction xs with
  | nil => rfl
  | cons d ds ih => exact ih
theorem deps_ints (xs : List Int) : D.deps (xs.map D.int) = 0 := by
  induction xs with
  | nil => rfl
  | cons d ds ih => show max 0 (D.deps (ds.map D.int)) = 0; rw [ih]; rfl
theorem eqvs_ints (xs ys : List Int) : D.eqvs (xs.map D.int) (ys.map D.int) = decide (xs = ys) := by
  induction xs generalizing ys with
  | nil => cases ys <;> simp [D.eqvs]
  | cons d ds ih => cases ys with
    | nil => simp [D.eqvs]
    | cons e es => simp [D.eqvs, D.eqv, ih]; by_cases h : d = e <;> simp [h]
end Eng
namespace Eng
open PySem L2
/-- a comprehension as a value -/
theorem kComp_ok {cf : CF} {gl : Str → Option D} {a : Xp} {tg : Tg} {es : Xs} {ds acc : List D} {fr frw fr' fr2 : Eng.Frame} {S S' : Store} (h : calmF fr tg.slots = true) (hw : wipeF fr tg.slots = frw)
    (h1 : compGo tg (evC cf gl es) (eltX cf gl a) ds [] frw S = .ok acc fr' S') (hb : backF fr fr' tg.slots = fr2) : kComp cf gl a tg es ds fr S = .ok (.own (.lst acc)) fr2 S' := by
  subst hw hb
  rw [kComp_eq h, h1]; rfl
theorem all_map (f : D → Bool) (ds : List D) : bltD .all [.lst (ds.map fun d => .bl (f d))] = some (.fz (.bl (ds.all f))) := by
  show (boolL (ds.map fun d => .bl (f d))).map _ = _
  rw [boolL_map]
  show some (Val.fz (D.bl ((ds.map f).all id))) = _
  rw [List.all_map]; rfl
theorem kSetX {cf : CF} {gl : Str → Option D} {i : Nat} {v : Val} {fr : Eng.Frame} {S : Store} : kSet i v fr S = .nx (fr.set i (some v)) S := rfl
end Eng
namespace Eng
open PySem L2
theorem i_int_non : isD .int .non = some false := rfl
theorem i_int_int (i : Int) : isD .int (.int i) = some true := rfl
theorem i_int_bl (b : Bool) : isD .int (.bl b) = some true := rfl
theorem i_int_str (x : Str) : isD .int (.str x) = some false := rfl
theorem i_int_lst (xs : List D) : isD .int (.lst xs) = some false := rfl
theorem i_int_tup (xs : List D) : isD .int (.tup xs) = some false := rfl
theorem i_int_scr (xs : List D) : isD .int (.scr xs) = some false := rfl
theorem i_bool_non : isD .bool .non = some false := rfl
theorem i_bool_int (i : Int) : isD .bool (.int i) = some false := rfl
theorem i_bool_bl (b : Bool) : isD .bool (.bl b) = some true := rfl
theorem i_bool_str (x : Str) : isD .bool (.str x) = some false := rfl
theorem i_bool_lst (xs : List D) : isD .bool (.lst xs) = some false := rfl
theorem i_bool_tup (xs : List D) : isD .bool (.tup xs) = some false := rfl
theorem i_bool_scr (xs : List D) : isD .bool (.scr xs) = some false := rfl
theorem i_tuple_non : isD .tuple .non = some false := rfl
theorem i_tuple_int (i : Int) : isD .tuple (.int i) = some false := rfl
theorem i_tuple_bl (b : Bool) : isD .tuple (.bl b) = some false := rfl
theorem i_tuple_str (x : Str) : isD .tuple (.str x) = some false := rfl
theorem i_tuple_lst (xs : List D) : isD .tuple (.lst xs) = some false := rfl
theorem i_tuple_tup (xs : List D) : isD .tuple (.tup xs) = some true := rfl
theorem i_tuple_scr (xs : List D) : isD .tuple (.scr xs) = some false := rfl
theorem i_str_non : isD .str .non = some false := rfl
theorem i_str_int (i : Int) : isD .str (.int i) = some false := rfl
theorem i_str_bl (b : Bool) : isD .str (.bl b) = some false := rfl
theorem i_str_str (x : Str) : isD .str (.str x) = some true := rfl
theorem i_str_lst (xs : List D) : isD .str (.lst xs) = some false := rfl
theorem i_str_tup (xs : List D) : isD .str (.tup xs) = some false := rfl
theorem i_str_scr (xs : List D) : isD .str (.scr xs) = some false := rfl
theorem i_list_non : isD .list .non = some false := rfl
theorem i_list_int (i : Int) : isD .list (.int i) = some false := rfl
theorem i_list_bl (b : Bool) : isD .list (.bl b) = some false := rfl
theorem i_list_str (x : Str) : isD .list (.str x) = some false := rfl
theorem i_list_lst (xs : List D) : isD .list (.lst xs) = some true := rfl
theorem i_list_tup (xs : List D) : isD .list (.tup xs) = some false := rfl
theorem i_list_scr (xs : List D) : isD .list (.scr xs) = some true := rfl
theorem i_dict_non : isD .dict .non = some false := rfl
theorem i_dict_int (i : Int) : isD .dict (.int i) = some false := rfl
theorem i_dict_bl (b : Bool) : isD .dict (.bl b) = some false := rfl
theorem i_dict_str (x : Str) : isD .dict (.str x) = some false := rfl
theorem i_dict_lst (xs : List D) : isD .dict (.lst xs) = some false := rfl
theorem i_dict_tup (xs : List D) : isD .dict (.tup xs) = some false := rfl
theorem i_dict_scr (xs : List D) : isD .dict (.scr xs) = some false := rfl
end Eng
end

section
/-! The engine, part U: the text of small data. -/
namespace Eng
open PySem L2
mutual
/-- short numbers, None, truths in lists and tuples -/
def D.tiny : D → Bool
  | .non | .bl _ => true
  | .int i => decide (i.natAbs < 10 ^ 12)
  | .lst xs | .tup xs => D.tinys xs
  | _ => false
def D.tinys : List D → Bool
  | [] => true
  | x :: xs => D.tiny x && D.tinys xs
end
mutual
def D.wt : D → Nat
  | .int _ => 40
  | .lst xs | .tup xs => D.wts xs
  | _ => 0
def D.wts : List D → Nat
  | [] => 0
  | x :: xs => D.wt x + 1 + D.wts xs
end
mutual
theorem tiny_pl : ∀ d : D, d.tiny = true → d.pl = true
  | .non, _ | .bl _, _ | .int _, _ => by unfold D.pl; rfl
  | .str _, _ => by unfold D.pl; rfl
  | .lst xs, h | .tup xs, h => by unfold D.tiny at h; unfold D.pl; exact tinys_pl xs h
  | .dic _ _, h | .dit _ _, h | .ref _, h | .scr _, h => by unfold D.tiny at h; cases h
theorem tinys_pl : ∀ ds : List D, D.tinys ds = true → D.pls ds = true
  | [], _ => by unfold D.pls; rfl
  | x :: xs, h => by
    unfold D.tinys at h
    rw [Bool.and_eq_true] at h
    unfold D.pls
    rw [tiny_pl x h.1, tinys_pl xs h.2]; rfl
end
theorem log2_lt {i : Nat} (h : i < 10 ^ 12) : i.log2 < 40 := by
  by_cases e : i = 0
  · subst e; decide
  · exact (Nat.log2_lt e).mpr (Nat.lt_trans h (by decide))
mutual
theorem tiny_short : ∀ d : D, d.tiny = true → d.toP.leavesShort 13 = true ∧ d.toP.showable = true ∧ d.toP.weight ≤ d.wt
  | .non, _ => by unfold D.toP D.wt PyData.leavesShort PyData.showable PyData.weight; exact ⟨rfl, rfl, Nat.le_refl _⟩
  | .bl _, _ => by unfold D.toP D.wt PyData.leavesShort PyData.showable PyData.weight; exact ⟨rfl, rfl, Nat.le_refl _⟩
  | .int i, h => by
    unfold D.tiny at h
    have h' := of_decide_eq_true h
    have hl := log2_lt h'
    unfold D.toP D.wt PyData.leavesShort PyData.showable PyData.weight
    refine ⟨decide_eq_true (PyData.shown_int_le h'), decide_eq_true (by omega), ?_⟩
    split <;> omega
  | .lst xs, h | .tup xs, h => by
    unfold D.tiny at h
    unfold D.toP D.wt PyData.leavesShort PyData.showable PyData.weight
    exact tinys_short xs h
  | .str _, h | .dic _ _, h | .dit _ _, h | .ref _, h | .scr _, h => by unfold D.tiny at h; cases h
theorem tinys_short : ∀ ds : List D, D.tinys ds = true → PyData.leavesShortAll 13 (D.toPs ds) = true ∧ PyData.showableAll (D.toPs ds) = true ∧ PyData.weightAll (D.toPs ds) ≤ D.wts ds
  | [], _ => by unfold D.toPs D.wts PyData.leavesShortAll PyData.showableAll PyData.weightAll; exact ⟨rfl, rfl, Nat.le_refl _⟩
  | x :: xs, h => by
    unfold D.tinys at h
    rw [Bool.and_eq_true] at h
    obtain ⟨a1, a2, a3⟩ := tiny_short x h.1
    obtain ⟨b1, b2, b3⟩ := tinys_short xs h.2
    unfold D.toPs D.wts PyData.leavesShortAll PyData.showableAll PyData.weightAll
    rw [a1, a2, b1, b2]
    exact ⟨rfl, rfl, by omega⟩
end
theorem reprD_eq {d : D} (h : d.tiny = true) (hw : d.wt ≤ 1000000) (hd : d.dep ≤ 64) : reprD d = some (.fz (.str d.toP.shown)) := by
  obtain ⟨a, b, c⟩ := tiny_short d h
  unfold reprD
  rw [if_pos ⟨tiny_pl d h, b, PyData.shown_fits (by decide) (by decide) a (by omega), hd⟩]
theorem repr_tup {xs : List D} (h : D.tiny (.tup xs) = true) (hw : D.wt (.tup xs) ≤ 1000000) (hd : D.dep (.tup xs) ≤ 64) : bltD .repr [.tup xs] = some (.fz (.str (D.toP (.tup xs)).shown)) := reprD_eq h hw hd
theorem repr_lst {xs : List D} (h : D.tiny (.lst xs) = true) (hw : D.wt (.lst xs) ≤ 1000000) (hd : D.dep (.lst xs) ≤ 64) : bltD .repr [.lst xs] = some (.fz (.str (D.toP (.lst xs)).shown)) := reprD_eq h hw hd
theorem tinys_all {xs : List D} (h : ∀ x ∈ xs, D.tiny x = true) : D.tinys xs = true := by
  induction xs with
  | nil => rfl
  | cons x xs ih =>
    show (D.tiny x && D.tinys xs) = true
    rw [h x (List.mem_cons_self ..), ih fun y hy => h y (List.mem_cons_of_mem _ hy)]; rfl
theorem wts_le {xs : List D} {k : Nat} (h : ∀ x ∈ xs, D.wt x ≤ k) : D.wts xs ≤ xs.length * (k + 1) := by
  induction xs with
  | nil => exact Nat.zero_le _
  | cons x xs ih =>
    show D.wt x + 1 + D.wts xs ≤ (xs.length + 1) * (k + 1)
    have := h x (List.mem_cons_self ..)
    have := ih fun y hy => h y (List.mem_cons_of_mem _ hy)
    rw [Nat.add_mul]; omega
theorem deps_le {xs : List D} {k : Nat} (h : ∀ x ∈ xs, D.dep x ≤ k) : D.deps xs ≤ k := by
  induction xs with
  | nil => exact Nat.zero_le _
  | cons x xs ih =>
    show max (D.dep x) (D.deps xs) ≤ k
    exact Nat.max_le.mpr ⟨h x (List.mem_cons_self ..), ih fun y hy => h y (List.mem_cons_of_mem _ hy)⟩
end Eng
end

section
/-! The engine, part T2: comprehensions over typed lists, dicts of ints. -/
namespace Eng
open PySem L2
theorem filter_map_map {α : Type} (f : α → D) (p : D → Bool) (g : D → D) (xs : List α) : ((xs.map f).filter p).map g = (xs.filter fun x => p (f x)).map fun x => g (f x) := by
  induction xs with
  | nil => rfl
  | cons x xs ih =>
    simp only [List.map_cons, List.filter_cons]
    split <;> simp [ih]
theorem compGo_typed {α : Type} {tg : Tg} {test : Frame → Store → RX Bool} {elt : Frame → Store → RX D} {f g : α → D} {p : α → Bool} {fr : Frame} {S : Store} : (xs : List α) → (acc : List D) → acc.length + xs.length ≤ sizeLine →
    (∀ x ∈ xs, ∃ fr1, asg tg (f x) fr = some fr1 ∧ test fr1 S = .ok (p x) fr1 S ∧ (p x = true → elt fr1 S = .ok (g x) fr1 S) ∧ wipeF fr1 tg.slots = fr) →
    compGo tg test elt (xs.map f) acc fr S = .ok (acc ++ (xs.filter p).map g) fr S
  | [], acc, _, _ => by simp only [List.filter_nil, List.map_nil, List.append_nil]; rfl
  | d :: ds, acc, hl, h => by
    obtain ⟨fr1, h1, h2, h3, h4⟩ := h d (List.mem_cons_self ..)
    have hl' : acc.length + ds.length + 1 ≤ sizeLine := hl
    cases e : p d with
    | true =>
      rw [e] at h2
      rw [List.map_cons, comp_step h1 h2 (h3 e) (by omega), h4, compGo_typed ds (acc ++ [g d]) (by simp; omega) (fun d hd => h d (List.mem_cons_of_mem _ hd))]
      simp [List.filter_cons, e]
    | false =>
      rw [e] at h2
      rw [List.map_cons, comp_skip h1 h2, h4, compGo_typed ds acc (by omega) (fun d hd => h d (List.mem_cons_of_mem _ hd))]
      simp [List.filter_cons, e]
/-- a comprehension over a typed list -/
theorem kComp_typed {α : Type} {cf : CF} {gl : Str → Option D} {a : Xp} {tg : Tg} {es : Xs} {fr frw : Frame} {S : Store} (f g : α → D) (p : α → Bool) (xs : List α) (hc : calmF fr tg.slots = true) (hw : wipeF fr tg.slots = frw) (hb : backF fr frw tg.slots = fr) (hl : xs.length ≤ sizeLine)
    (h : ∀ x ∈ xs, ∃ fr1, asg tg (f x) frw = some fr1 ∧ evC cf gl es fr1 S = .ok (p x) fr1 S ∧ (p x = true → eltX cf gl a fr1 S = .ok (g x) fr1 S) ∧ wipeF fr1 tg.slots = frw) :
    kComp cf gl a tg es (xs.map f) fr S = .ok (.own (.lst ((xs.filter p).map g))) fr S := by
  refine kComp_ok hc hw ?_ hb
  rw [compGo_typed (p := p) (g := g) xs [] (by simpa using hl) h, List.nil_append]
theorem kComp_all {α : Type} {cf : CF} {gl : Str → Option D} {a : Xp} {tg : Tg} {es : Xs} {fr frw : Frame} {S : Store} (f g : α → D) (xs : List α) (hc : calmF fr tg.slots = true) (hw : wipeF fr tg.slots = frw) (hb : backF fr frw tg.slots = fr) (hl : xs.length ≤ sizeLine)
    (h : ∀ x ∈ xs, ∃ fr1, asg tg (f x) frw = some fr1 ∧ evC cf gl es fr1 S = .ok true fr1 S ∧ eltX cf gl a fr1 S = .ok (g x) fr1 S ∧ wipeF fr1 tg.slots = frw) :
    kComp cf gl a tg es (xs.map f) fr S = .ok (.own (.lst (xs.map g))) fr S := by
  rw [kComp_typed f g (fun _ => true) xs hc hw hb hl (fun x hx => by
    obtain ⟨a, b, c, d, e⟩ := h x hx
    exact ⟨a, b, c, fun _ => d, e⟩), List.filter_eq_self.mpr (fun _ _ => rfl)]
/-! ### dicts -/
section
variable {κ : Type} [DecidableEq κ]
theorem findK_zip (d : D) (k j : κ) : ∀ {ks : List κ} {vs : List D}, ks.length = vs.length → findK ks (List.zipWith (fun i v => if i = k then d else v) ks vs) j = if j = k ∧ j ∈ ks then some d else findK ks vs j
  | [], [], _ => by simp [findK]
  | i :: ks, v :: vs, h => by
    simp only [List.zipWith_cons_cons, findK]
    rw [findK_zip d k j (by simpa using h)]
    by_cases e : i = j
    · subst e
      by_cases e2 : i = k
      · simp [e2]
      · simp [e2]
    · have e' : j ≠ i := fun z => e z.symm
      simp [e, e']
theorem findK_mem (j : κ) : ∀ {ks : List κ} {vs : List D}, ks.length = vs.length → ((findK ks vs j).isSome = true ↔ j ∈ ks)
  | [], [], _ => by simp [findK]
  | i :: ks, v :: vs, h => by
    simp only [findK]
    by_cases e : i = j
    · simp [e]
    · have e' : j ≠ i := fun z => e z.symm
      rw [if_neg e, findK_mem j (by simpa using h)]
      simp [e']
theorem findK_app (d : D) (k j : κ) : ∀ {ks : List κ} {vs : List D}, ks.length = vs.length → findK (ks ++ [k]) (vs ++ [d]) j = match findK ks vs j with | some v => some v | none => if k = j then some d else none
  | [], [], _ => by simp [findK]
  | i :: ks, v :: vs, h => by
    simp only [List.cons_append, findK]
    by_cases e : i = j
    · simp [e]
    · rw [if_neg e, if_neg e, findK_app d k j (by simpa using h)]
theorem findK_put {ks : List κ} {vs : List D} (h : ks.length = vs.length) (k j : κ) (d : D) : findK (putKs ks k) (putVs ks vs k d) j = if j = k then some d else findK ks vs j := by
  unfold putKs putVs
  by_cases e : k ∈ ks
  · rw [if_pos e, if_pos e, findK_zip d k j h]
    by_cases e2 : j = k
    · subst e2; simp [e]
    · simp [e2]
  · rw [if_neg e, if_neg e, findK_app d k j h]
    by_cases e2 : j = k
    · subst e2
      have : findK ks vs j = none := by
        cases q : findK ks vs j with
        | none => rfl
        | some v => exact absurd ((findK_mem j h).mp (by rw [q]; rfl)) e
      rw [this]
    · have e3 : k ≠ j := fun z => e2 z.symm
      rw [if_neg e2]
      cases findK ks vs j <;> simp [e3]
theorem put_len {ks : List κ} {vs : List D} (h : ks.length = vs.length) (k : κ) (d : D) : (putKs ks k).length = (putVs ks vs k d).length ∧ (putKs ks k).length ≤ ks.length + 1 := by
  unfold putKs putVs
  by_cases e : k ∈ ks
  · rw [if_pos e, if_pos e, List.length_zipWith, ← h, Nat.min_self]; exact ⟨rfl, Nat.le_succ _⟩
  · rw [if_neg e, if_neg e, List.length_append, List.length_append, h]; exact ⟨rfl, Nat.le_refl _⟩
end
theorem setdK {i : Nat} {fr : Frame} {ks : List Key} {vs : List D} {k : Key} {y d : D} {S : Store} (h : fr[i]? = some (some (.own (.dK ks vs)))) (hk : toKey y = some k) (hl : ks.length < sizeLine) : setdX i y d fr S = .nx (fr.set i (some (.own (.dK (putKs ks k) (putVs ks vs k d))))) S := by
  unfold setdX; simp only [h, hk, if_pos hl]
/-! ### ranges, enumerations -/
theorem rgN_nat (k : Nat) : rgN ((k : Int) - 1) (-1) = ((List.range k).map fun i => D.int ((k : Int) - 1 - (i : Nat))) := by
  unfold rgN
  have e : ((k : Int) - 1 - -1).toNat = k := by omega
  rw [e]
theorem rgN_succ (k : Nat) : rgN (((k + 1 : Nat) : Int) - 1) (-1) = .int (k : Nat) :: rgN ((k : Int) - 1) (-1) := by
  rw [rgN_nat, rgN_nat, List.range_succ_eq_map, List.map_cons, List.map_map]
  congr 1
  · congr 1; omega
  · exact List.map_congr_left fun i _ => by show D.int _ = D.int _; congr 1; show (((k + 1 : Nat) : Int) - 1 - ((i + 1 : Nat) : Int)) = _; omega
theorem enumD_range (n : Nat) (f : Nat → D) : enumD ((List.range n).map f) = (List.range n).map fun k => .tup [.int (k : Nat), f k] := by
  unfold enumD
  rw [List.length_map, List.length_range]
  refine List.map_congr_left fun i hi => ?_
  have hi := List.mem_range.mp hi
  rw [List.getD_eq_getElem?_getD, List.getElem?_map, List.getElem?_range hi]; rfl
theorem enumD_map {α : Type} (f : α → D) (xs : List α) (x0 : α) : enumD (xs.map f) = (List.range xs.length).map fun k => .tup [.int (k : Nat), f (xs.getD k x0)] := by
  unfold enumD
  rw [List.length_map]
  refine List.map_congr_left fun i hi => ?_
  have hi := List.mem_range.mp hi
  rw [List.getD_eq_getElem?_getD, List.getElem?_map, List.getElem?_eq_getElem hi, List.getD_eq_getElem?_getD, List.getElem?_eq_getElem hi]; rfl
end Eng
end

local macro_rules | `(tactic| walk_at "eng") => `(tactic| simp -implicitDefEqProofs only [Eng.ev_con, Eng.ev_var, Eng.ev_glo, Eng.ev_bin, Eng.kBin1_eq, Eng.kBin2_eq, Eng.ev_cmp, Eng.kCmp1_eq, Eng.kCmp2_eq, Eng.ev_chain, Eng.kCh1_eq, Eng.kCh2_eq, Eng.kCh3_t, Eng.kCh3_f, Eng.ev_not, Eng.kNot_eq, Eng.ev_and, Eng.kAnd_t, Eng.kAnd_f, Eng.ev_or, Eng.kOr_t, Eng.kOr_f, Eng.ev_ife, Eng.kIfe_t, Eng.kIfe_f, Eng.ev_tup, Eng.kTup_0, Eng.kTup_1, Eng.kTup_2, Eng.kTup_3, Eng.kTup_4, Eng.kTup_5, Eng.kTup_6, Eng.kTup_7, Eng.ev_lst, Eng.kLst_0, Eng.kLst_1, Eng.kLst_2, Eng.kLst_3, Eng.kLst_4, Eng.kLst_5, Eng.kLst_6, Eng.kLst_7, Eng.kLst_8, Eng.kLst_9, Eng.kLst_10, Eng.kLst_11, Eng.kLst_12, Eng.ev_sub, Eng.kSub1_eq, Eng.kSub2_eq, Eng.ev_slice, Eng.kSl1_eq, Eng.kSl2_eq, Eng.kSl3_eq, Eng.ev_call, Eng.kCall_eq, Eng.ev_blt, Eng.kBlt_1, Eng.kBlt_2, Eng.ev_isi, Eng.kIsi_eq, Eng.ev_bltv, Eng.oBlt_some, Eng.ev_subv, Eng.kSubv_some, Eng.kSubv2_eq, Eng.oSub_some, Eng.ev_cmpv, Eng.kCmpv_eq, Eng.oCmp_some, Eng.ev_popv, Eng.kPop_t, Eng.ev_comp, Eng.compOut_ok, Eng.ev_share, Eng.kShare_eq, Eng.ev_listrg, Eng.ev_lenset, Eng.kLenset_eq, Eng.evs_nil, Eng.evs_cons, Eng.kCons1_eq, Eng.kCons2_eq, Eng.evO_omit, Eng.evO_var, Eng.evO_con, Eng.evO_bin, Eng.evO_bltv, Eng.evO_subv, Eng.kO_int, Eng.evC_nil, Eng.evC_one, Eng.evT_not, Eng.kNotT_eq, Eng.evT_and, Eng.kAndT_t, Eng.kAndT_f, Eng.evT_or, Eng.kOrT_t, Eng.kOrT_f, Eng.kTru_eq, Eng.evT_cmp, Eng.evT_chain, Eng.evT_cmpv, Eng.evT_var, Eng.evT_call, Eng.evT_blt, Eng.evT_isi, Eng.evT_bltv, Eng.evT_subv, Eng.evT_sub, Eng.evW_seq, Eng.kSeq_lst, Eng.kSeq_tup, Eng.evW_rng1, Eng.frzX_fz, Eng.frzX_own, Eng.frzX_ex, Eng.frzX_no, Eng.b_ok, Eng.b_ex, Eng.b_no, Eng.l_some, Eng.l_none, Eng.bk_ok, Eng.bk_ex, Eng.bk_no, Eng.t_ok, Eng.t_ex, Eng.t_no, Eng.s_nx, Eng.s_rt, Eng.s_ex, Eng.s_no, Eng.d_nx, Eng.d_rt, Eng.d_ex, Eng.lk_non, Eng.lk_bl, Eng.lk_int, Eng.lk_str, Eng.lk_lst, Eng.lk_tup, Eng.lk_scr, Eng.lk_dic, Eng.tru_bl, Eng.tru_lst, Eng.blF_eq, Eng.om_some, Eng.om_none, Eng.ex_exp, Eng.kNx_eq, Eng.ex_set, Eng.kSet_eq, Eng.ex_asg, Eng.kAsg_eq, Eng.oNx_some, Eng.ex_ret, Eng.kRt_eq, Eng.ex_retN, Eng.ex_cond, Eng.kCond_t, Eng.kCond_f, Eng.ex_loop, Eng.kLoop_eq, Eng.ex_raise, Eng.ex_appv, Eng.kApp_t, Eng.ex_extv, Eng.kExt_t, Eng.ex_setv, Eng.kSetv_eq, Eng.kSetv1_t, Eng.kSetv2_eq, Eng.ex_setr, Eng.kSetr1_eq, Eng.kSetr2_eq, Eng.kSetr3_eq, Eng.ex_pass, Eng.exs_nil, Eng.exs_cons, Eng.ret_con, Eng.ret_bin, Eng.ret_cmp, Eng.ret_chain, Eng.ret_not, Eng.ret_and, Eng.ret_or, Eng.ret_ife, Eng.ret_tup, Eng.ret_lst, Eng.ret_sub, Eng.ret_slice, Eng.ret_call, Eng.ret_blt, Eng.ret_isi, Eng.ret_bltv, Eng.ret_subv, Eng.ret_cmpv, Eng.ret_popv, Eng.ret_comp, Eng.ret_share, Eng.ret_glo, Eng.vx0, Eng.vo0, Eng.pk0, Eng.po0, Eng.ol0, Eng.rf0, Eng.ro0, Eng.st0, Eng.vx1, Eng.vo1, Eng.pk1, Eng.po1, Eng.ol1, Eng.rf1, Eng.ro1, Eng.st1, Eng.vx2, Eng.vo2, Eng.pk2, Eng.po2, Eng.ol2, Eng.rf2, Eng.ro2, Eng.st2, Eng.vx3, Eng.vo3, Eng.pk3, Eng.po3, Eng.ol3, Eng.rf3, Eng.ro3, Eng.st3, Eng.vx4, Eng.vo4, Eng.pk4, Eng.po4, Eng.ol4, Eng.rf4, Eng.ro4, Eng.st4, Eng.vx5, Eng.vo5, Eng.pk5, Eng.po5, Eng.ol5, Eng.rf5, Eng.ro5, Eng.st5, Eng.vx6, Eng.vo6, Eng.pk6, Eng.po6, Eng.ol6, Eng.rf6, Eng.ro6, Eng.st6, Eng.vx7, Eng.vo7, Eng.pk7, Eng.po7, Eng.ol7, Eng.rf7, Eng.ro7, Eng.st7, Eng.vx8, Eng.vo8, Eng.pk8, Eng.po8, Eng.ol8, Eng.rf8, Eng.ro8, Eng.st8, Eng.sub_lst, Eng.sub_tup, Eng.sub_scr, Eng.c_eqI, Eng.c_neI, Eng.c_ltI, Eng.c_leI, Eng.c_gtI, Eng.c_geI, Eng.c_isN, Eng.c_isnN, Eng.b_addI, Eng.b_subI, Eng.len_lst, Eng.len_tup, Eng.len_scr, Eng.tuple_lst, Eng.tuple_tup, Eng.list_lst, Eng.list_tup, Eng.int_int, Eng.int_bl, Eng.max_I, Eng.min_I, Eng.slice_tup, Eng.slice_lst, Eng.at1_0, Eng.at2_0, Eng.at2_1, Eng.at3_0, Eng.at3_1, Eng.at3_2, Eng.at4_0, Eng.at4_1, Eng.at4_2, Eng.at4_3, Bool.not_true, Bool.not_false, Eng.i_int_non, Eng.i_int_int, Eng.i_int_bl, Eng.i_int_str, Eng.i_int_lst, Eng.i_int_tup, Eng.i_int_scr, Eng.i_bool_non, Eng.i_bool_int, Eng.i_bool_bl, Eng.i_bool_str, Eng.i_bool_lst, Eng.i_bool_tup, Eng.i_bool_scr, Eng.i_tuple_non, Eng.i_tuple_int, Eng.i_tuple_bl, Eng.i_tuple_str, Eng.i_tuple_lst, Eng.i_tuple_tup, Eng.i_tuple_scr, Eng.i_str_non, Eng.i_str_int, Eng.i_str_bl, Eng.i_str_str, Eng.i_str_lst, Eng.i_str_tup, Eng.i_str_scr, Eng.i_list_non, Eng.i_list_int, Eng.i_list_bl, Eng.i_list_str, Eng.i_list_lst, Eng.i_list_tup, Eng.i_list_scr, Eng.i_dict_non, Eng.i_dict_int, Eng.i_dict_bl, Eng.i_dict_str, Eng.i_dict_lst, Eng.i_dict_tup, Eng.i_dict_scr, Eng.ev_neg, Eng.kNeg_eq, Eng.ev_dicK, Eng.ev_dicT, Eng.ev_sortset, Eng.kSortset_eq, Eng.ev_mind, Eng.kMind1_eq, Eng.kMind2_eq, Eng.evW_enm, Eng.kEnm_lst, Eng.kEnm_tup, Eng.evW_zip, Eng.kZip1_eq, Eng.kZip2_lst, Eng.kZip2_tup, Eng.evW_rng3, Eng.kRng3a_eq, Eng.kRng3b_eq, Eng.ex_par, Eng.kPar1_eq, Eng.kPar2_eq, Eng.ex_setd, Eng.kSetd_eq, Eng.kSetd1_t, Eng.kSetd2_eq, Eng.pd0, Eng.pt0, Eng.od0, Eng.ot0, Eng.vd0, Eng.vt0, Eng.pd1, Eng.pt1, Eng.od1, Eng.ot1, Eng.vd1, Eng.vt1, Eng.pd2, Eng.pt2, Eng.od2, Eng.ot2, Eng.vd2, Eng.vt2, Eng.pd3, Eng.pt3, Eng.od3, Eng.ot3, Eng.vd3, Eng.vt3, Eng.pd4, Eng.pt4, Eng.od4, Eng.ot4, Eng.vd4, Eng.vt4, Eng.pd5, Eng.pt5, Eng.od5, Eng.ot5, Eng.vd5, Eng.vt5, Eng.pd6, Eng.pt6, Eng.od6, Eng.ot6, Eng.vd6, Eng.vt6, Eng.pd7, Eng.pt7, Eng.od7, Eng.ot7, Eng.vd7, Eng.vt7, Eng.pd8, Eng.pt8, Eng.od8, Eng.ot8, Eng.vd8, Eng.vt8, Eng.vx9, Eng.vo9, Eng.pk9, Eng.po9, Eng.ol9, Eng.rf9, Eng.ro9, Eng.st9, Eng.pd9, Eng.pt9, Eng.od9, Eng.ot9, Eng.vd9, Eng.vt9, Eng.vx10, Eng.vo10, Eng.pk10, Eng.po10, Eng.ol10, Eng.rf10, Eng.ro10, Eng.st10, Eng.pd10, Eng.pt10, Eng.od10, Eng.ot10, Eng.vd10, Eng.vt10, Eng.vx11, Eng.vo11, Eng.pk11, Eng.po11, Eng.ol11, Eng.rf11, Eng.ro11, Eng.st11, Eng.pd11, Eng.pt11, Eng.od11, Eng.ot11, Eng.vd11, Eng.vt11, Eng.vx12, Eng.vo12, Eng.pk12, Eng.po12, Eng.ol12, Eng.rf12, Eng.ro12, Eng.st12, Eng.pd12, Eng.pt12, Eng.od12, Eng.ot12, Eng.vd12, Eng.vt12, Eng.vx13, Eng.vo13, Eng.pk13, Eng.po13, Eng.ol13, Eng.rf13, Eng.ro13, Eng.st13, Eng.pd13, Eng.pt13, Eng.od13, Eng.ot13, Eng.vd13, Eng.vt13, Eng.vx14, Eng.vo14, Eng.pk14, Eng.po14, Eng.ol14, Eng.rf14, Eng.ro14, Eng.st14, Eng.pd14, Eng.pt14, Eng.od14, Eng.ot14, Eng.vd14, Eng.vt14, Eng.vx15, Eng.vo15, Eng.pk15, Eng.po15, Eng.ol15, Eng.rf15, Eng.ro15, Eng.st15, Eng.pd15, Eng.pt15, Eng.od15, Eng.ot15, Eng.vd15, Eng.vt15, Eng.vx16, Eng.vo16, Eng.pk16, Eng.po16, Eng.ol16, Eng.rf16, Eng.ro16, Eng.st16, Eng.pd16, Eng.pt16, Eng.od16, Eng.ot16, Eng.vd16, Eng.vt16, Eng.vx17, Eng.vo17, Eng.pk17, Eng.po17, Eng.ol17, Eng.rf17, Eng.ro17, Eng.st17, Eng.pd17, Eng.pt17, Eng.od17, Eng.ot17, Eng.vd17, Eng.vt17, Eng.vx18, Eng.vo18, Eng.pk18, Eng.po18, Eng.ol18, Eng.rf18, Eng.ro18, Eng.st18, Eng.pd18, Eng.pt18, Eng.od18, Eng.ot18, Eng.vd18, Eng.vt18, Eng.vx19, Eng.vo19, Eng.pk19, Eng.po19, Eng.ol19, Eng.rf19, Eng.ro19, Eng.st19, Eng.pd19, Eng.pt19, Eng.od19, Eng.ot19, Eng.vd19, Eng.vt19, Eng.evO_neg, Eng.ev_rev, Eng.kRev_eq, Eng.rev_lst, Eng.rev_tup, Eng.ev_mth, Eng.kMth_eq, Eng.kMth1_t, Eng.kMth2_eq, Eng.kMth3_t, Eng.mk_up, Eng.mk_jn, Eng.mk_sp, Eng.mk_dg, Eng.mk_g1, Eng.mk_g1t, Eng.mk_g2, Eng.mk_g2t, Eng.mt_g2t, Eng.mt_g2, Eng.ev_mthv, Eng.pOk_some, Eng.kMthv_t, Eng.kMthv2_eq, Eng.oMth_t, Eng.oMth_k, Eng.ev_fld, Eng.kFld_eq, Eng.ev_meth, Eng.kMeth_eq, Eng.kMeth1_t, Eng.kMeth2_eq, Eng.ev_make, Eng.kMake_eq, Eng.md_ok, Eng.md_ex, Eng.ev_orv, Eng.kOrv_eq, Eng.kOrv2_t, Eng.kOrv2_f, Eng.ev_isc, Eng.kIsc_eq, Eng.ev_cmpl, Eng.kCmpl_some, Eng.kCmpl2_eq, Eng.oCmpl_some, Eng.evT_cmpl, Eng.ev_tuprg, Eng.ret_cmpl, Eng.ret_tuprg, Eng.ev_disp, Eng.kDisp1_eq, Eng.kDisp2_eq, Eng.oDisp_s, Eng.oDisp_i, Eng.evT_meth, Eng.evT_mth, Eng.evT_fld, Eng.evT_isc, Eng.ex_setf, Eng.kSetf_fz, Eng.kSetf_own, Eng.kSetf2_eq, Eng.ex_setrd, Eng.kSetrd1_eq, Eng.kSetrd2_eq, Eng.kSetrd3_eq, Eng.ret_mth, Eng.ret_mthv, Eng.ret_fld, Eng.ret_meth, Eng.ret_make, Eng.ret_orv, Eng.ret_isc, Eng.ret_disp, Eng.ret_rev, Eng.ret_neg, Eng.ret_sortset, Eng.ret_lenset, Eng.ret_dic0, Eng.w_ok, Eng.w_ex, Eng.w_bind, Eng.w_thn, Eng.w_nx, Eng.w_rt, Eng.w_exs, Eng.w_seq, Eng.w_done, Eng.w_okC, Eng.w_exC, Eng.w_back, Eng.w_made, Eng.w_frz, Eng.qB_eq, Eng.qT_eq, Eng.qS_eq, Eng.qF_fz, Eng.qF_lst, Eng.qF_dT, Eng.qF_dK, Eng.qN_eq, Eng.qR_eq, Eng.qE_eq, Eng.qK_eq, Eng.qX_eq, Eng.qM_eq, Eng.kSeq_str, Eng.vx20, Eng.vo20, Eng.pk20, Eng.po20, Eng.ol20, Eng.rf20, Eng.ro20, Eng.st20, Eng.pd20, Eng.pt20, Eng.od20, Eng.ot20, Eng.vd20, Eng.vt20, Eng.vx21, Eng.vo21, Eng.pk21, Eng.po21, Eng.ol21, Eng.rf21, Eng.ro21, Eng.st21, Eng.pd21, Eng.pt21, Eng.od21, Eng.ot21, Eng.vd21, Eng.vt21, Eng.vx22, Eng.vo22, Eng.pk22, Eng.po22, Eng.ol22, Eng.rf22, Eng.ro22, Eng.st22, Eng.pd22, Eng.pt22, Eng.od22, Eng.ot22, Eng.vd22, Eng.vt22, Eng.vx23, Eng.vo23, Eng.pk23, Eng.po23, Eng.ol23, Eng.rf23, Eng.ro23, Eng.st23, Eng.pd23, Eng.pt23, Eng.od23, Eng.ot23, Eng.vd23, Eng.vt23, Eng.vx24, Eng.vo24, Eng.pk24, Eng.po24, Eng.ol24, Eng.rf24, Eng.ro24, Eng.st24, Eng.pd24, Eng.pt24, Eng.od24, Eng.ot24, Eng.vd24, Eng.vt24, Eng.vx25, Eng.vo25, Eng.pk25, Eng.po25, Eng.ol25, Eng.rf25, Eng.ro25, Eng.st25, Eng.pd25, Eng.pt25, Eng.od25, Eng.ot25, Eng.vd25, Eng.vt25, Eng.vx26, Eng.vo26, Eng.pk26, Eng.po26, Eng.ol26, Eng.rf26, Eng.ro26, Eng.st26, Eng.pd26, Eng.pt26, Eng.od26, Eng.ot26, Eng.vd26, Eng.vt26, Eng.vx27, Eng.vo27, Eng.pk27, Eng.po27, Eng.ol27, Eng.rf27, Eng.ro27, Eng.st27, Eng.pd27, Eng.pt27, Eng.od27, Eng.ot27, Eng.vd27, Eng.vt27, Eng.lk_dit])
local macro_rules | `(tactic| walk_at "eng*") => `(tactic| simp -implicitDefEqProofs only [Eng.ev_con, Eng.ev_var, Eng.ev_glo, Eng.ev_bin, Eng.kBin1_eq, Eng.kBin2_eq, Eng.ev_cmp, Eng.kCmp1_eq, Eng.kCmp2_eq, Eng.ev_chain, Eng.kCh1_eq, Eng.kCh2_eq, Eng.kCh3_t, Eng.kCh3_f, Eng.ev_not, Eng.kNot_eq, Eng.ev_and, Eng.kAnd_t, Eng.kAnd_f, Eng.ev_or, Eng.kOr_t, Eng.kOr_f, Eng.ev_ife, Eng.kIfe_t, Eng.kIfe_f, Eng.ev_tup, Eng.kTup_0, Eng.kTup_1, Eng.kTup_2, Eng.kTup_3, Eng.kTup_4, Eng.kTup_5, Eng.kTup_6, Eng.kTup_7, Eng.ev_lst, Eng.kLst_0, Eng.kLst_1, Eng.kLst_2, Eng.kLst_3, Eng.kLst_4, Eng.kLst_5, Eng.kLst_6, Eng.kLst_7, Eng.kLst_8, Eng.kLst_9, Eng.kLst_10, Eng.kLst_11, Eng.kLst_12, Eng.ev_sub, Eng.kSub1_eq, Eng.kSub2_eq, Eng.ev_slice, Eng.kSl1_eq, Eng.kSl2_eq, Eng.kSl3_eq, Eng.ev_call, Eng.kCall_eq, Eng.ev_blt, Eng.kBlt_1, Eng.kBlt_2, Eng.ev_isi, Eng.kIsi_eq, Eng.ev_bltv, Eng.oBlt_some, Eng.ev_subv, Eng.kSubv_some, Eng.kSubv2_eq, Eng.oSub_some, Eng.ev_cmpv, Eng.kCmpv_eq, Eng.oCmp_some, Eng.ev_popv, Eng.kPop_t, Eng.ev_comp, Eng.compOut_ok, Eng.ev_share, Eng.kShare_eq, Eng.ev_listrg, Eng.ev_lenset, Eng.kLenset_eq, Eng.evs_nil, Eng.evs_cons, Eng.kCons1_eq, Eng.kCons2_eq, Eng.evO_omit, Eng.evO_var, Eng.evO_con, Eng.evO_bin, Eng.evO_bltv, Eng.evO_subv, Eng.kO_int, Eng.evC_nil, Eng.evC_one, Eng.evT_not, Eng.kNotT_eq, Eng.evT_and, Eng.kAndT_t, Eng.kAndT_f, Eng.evT_or, Eng.kOrT_t, Eng.kOrT_f, Eng.kTru_eq, Eng.evT_cmp, Eng.evT_chain, Eng.evT_cmpv, Eng.evT_var, Eng.evT_call, Eng.evT_blt, Eng.evT_isi, Eng.evT_bltv, Eng.evT_subv, Eng.evT_sub, Eng.evW_seq, Eng.kSeq_lst, Eng.kSeq_tup, Eng.evW_rng1, Eng.frzX_fz, Eng.frzX_own, Eng.frzX_ex, Eng.frzX_no, Eng.b_ok, Eng.b_ex, Eng.b_no, Eng.l_some, Eng.l_none, Eng.bk_ok, Eng.bk_ex, Eng.bk_no, Eng.t_ok, Eng.t_ex, Eng.t_no, Eng.s_nx, Eng.s_rt, Eng.s_ex, Eng.s_no, Eng.d_nx, Eng.d_rt, Eng.d_ex, Eng.lk_non, Eng.lk_bl, Eng.lk_int, Eng.lk_str, Eng.lk_lst, Eng.lk_tup, Eng.lk_scr, Eng.lk_dic, Eng.tru_bl, Eng.tru_lst, Eng.blF_eq, Eng.om_some, Eng.om_none, Eng.ex_exp, Eng.kNx_eq, Eng.ex_set, Eng.kSet_eq, Eng.ex_asg, Eng.kAsg_eq, Eng.oNx_some, Eng.ex_ret, Eng.kRt_eq, Eng.ex_retN, Eng.ex_cond, Eng.kCond_t, Eng.kCond_f, Eng.ex_loop, Eng.kLoop_eq, Eng.ex_raise, Eng.ex_appv, Eng.kApp_t, Eng.ex_extv, Eng.kExt_t, Eng.ex_setv, Eng.kSetv_eq, Eng.kSetv1_t, Eng.kSetv2_eq, Eng.ex_setr, Eng.kSetr1_eq, Eng.kSetr2_eq, Eng.kSetr3_eq, Eng.ex_pass, Eng.exs_nil, Eng.exs_cons, Eng.ret_con, Eng.ret_bin, Eng.ret_cmp, Eng.ret_chain, Eng.ret_not, Eng.ret_and, Eng.ret_or, Eng.ret_ife, Eng.ret_tup, Eng.ret_lst, Eng.ret_sub, Eng.ret_slice, Eng.ret_call, Eng.ret_blt, Eng.ret_isi, Eng.ret_bltv, Eng.ret_subv, Eng.ret_cmpv, Eng.ret_popv, Eng.ret_comp, Eng.ret_share, Eng.ret_glo, Eng.vx0, Eng.vo0, Eng.pk0, Eng.po0, Eng.ol0, Eng.rf0, Eng.ro0, Eng.st0, Eng.vx1, Eng.vo1, Eng.pk1, Eng.po1, Eng.ol1, Eng.rf1, Eng.ro1, Eng.st1, Eng.vx2, Eng.vo2, Eng.pk2, Eng.po2, Eng.ol2, Eng.rf2, Eng.ro2, Eng.st2, Eng.vx3, Eng.vo3, Eng.pk3, Eng.po3, Eng.ol3, Eng.rf3, Eng.ro3, Eng.st3, Eng.vx4, Eng.vo4, Eng.pk4, Eng.po4, Eng.ol4, Eng.rf4, Eng.ro4, Eng.st4, Eng.vx5, Eng.vo5, Eng.pk5, Eng.po5, Eng.ol5, Eng.rf5, Eng.ro5, Eng.st5, Eng.vx6, Eng.vo6, Eng.pk6, Eng.po6, Eng.ol6, Eng.rf6, Eng.ro6, Eng.st6, Eng.vx7, Eng.vo7, Eng.pk7, Eng.po7, Eng.ol7, Eng.rf7, Eng.ro7, Eng.st7, Eng.vx8, Eng.vo8, Eng.pk8, Eng.po8, Eng.ol8, Eng.rf8, Eng.ro8, Eng.st8, Eng.sub_lst, Eng.sub_tup, Eng.sub_scr, Eng.c_eqI, Eng.c_neI, Eng.c_ltI, Eng.c_leI, Eng.c_gtI, Eng.c_geI, Eng.c_isN, Eng.c_isnN, Eng.b_addI, Eng.b_subI, Eng.len_lst, Eng.len_tup, Eng.len_scr, Eng.tuple_lst, Eng.tuple_tup, Eng.list_lst, Eng.list_tup, Eng.int_int, Eng.int_bl, Eng.max_I, Eng.min_I, Eng.slice_tup, Eng.slice_lst, Eng.at1_0, Eng.at2_0, Eng.at2_1, Eng.at3_0, Eng.at3_1, Eng.at3_2, Eng.at4_0, Eng.at4_1, Eng.at4_2, Eng.at4_3, Bool.not_true, Bool.not_false, Eng.i_int_non, Eng.i_int_int, Eng.i_int_bl, Eng.i_int_str, Eng.i_int_lst, Eng.i_int_tup, Eng.i_int_scr, Eng.i_bool_non, Eng.i_bool_int, Eng.i_bool_bl, Eng.i_bool_str, Eng.i_bool_lst, Eng.i_bool_tup, Eng.i_bool_scr, Eng.i_tuple_non, Eng.i_tuple_int, Eng.i_tuple_bl, Eng.i_tuple_str, Eng.i_tuple_lst, Eng.i_tuple_tup, Eng.i_tuple_scr, Eng.i_str_non, Eng.i_str_int, Eng.i_str_bl, Eng.i_str_str, Eng.i_str_lst, Eng.i_str_tup, Eng.i_str_scr, Eng.i_list_non, Eng.i_list_int, Eng.i_list_bl, Eng.i_list_str, Eng.i_list_lst, Eng.i_list_tup, Eng.i_list_scr, Eng.i_dict_non, Eng.i_dict_int, Eng.i_dict_bl, Eng.i_dict_str, Eng.i_dict_lst, Eng.i_dict_tup, Eng.i_dict_scr, Eng.ev_neg, Eng.kNeg_eq, Eng.ev_dicK, Eng.ev_dicT, Eng.ev_sortset, Eng.kSortset_eq, Eng.ev_mind, Eng.kMind1_eq, Eng.kMind2_eq, Eng.evW_enm, Eng.kEnm_lst, Eng.kEnm_tup, Eng.evW_zip, Eng.kZip1_eq, Eng.kZip2_lst, Eng.kZip2_tup, Eng.evW_rng3, Eng.kRng3a_eq, Eng.kRng3b_eq, Eng.ex_par, Eng.kPar1_eq, Eng.kPar2_eq, Eng.ex_setd, Eng.kSetd_eq, Eng.kSetd1_t, Eng.kSetd2_eq, Eng.pd0, Eng.pt0, Eng.od0, Eng.ot0, Eng.vd0, Eng.vt0, Eng.pd1, Eng.pt1, Eng.od1, Eng.ot1, Eng.vd1, Eng.vt1, Eng.pd2, Eng.pt2, Eng.od2, Eng.ot2, Eng.vd2, Eng.vt2, Eng.pd3, Eng.pt3, Eng.od3, Eng.ot3, Eng.vd3, Eng.vt3, Eng.pd4, Eng.pt4, Eng.od4, Eng.ot4, Eng.vd4, Eng.vt4, Eng.pd5, Eng.pt5, Eng.od5, Eng.ot5, Eng.vd5, Eng.vt5, Eng.pd6, Eng.pt6, Eng.od6, Eng.ot6, Eng.vd6, Eng.vt6, Eng.pd7, Eng.pt7, Eng.od7, Eng.ot7, Eng.vd7, Eng.vt7, Eng.pd8, Eng.pt8, Eng.od8, Eng.ot8, Eng.vd8, Eng.vt8, Eng.vx9, Eng.vo9, Eng.pk9, Eng.po9, Eng.ol9, Eng.rf9, Eng.ro9, Eng.st9, Eng.pd9, Eng.pt9, Eng.od9, Eng.ot9, Eng.vd9, Eng.vt9, Eng.vx10, Eng.vo10, Eng.pk10, Eng.po10, Eng.ol10, Eng.rf10, Eng.ro10, Eng.st10, Eng.pd10, Eng.pt10, Eng.od10, Eng.ot10, Eng.vd10, Eng.vt10, Eng.vx11, Eng.vo11, Eng.pk11, Eng.po11, Eng.ol11, Eng.rf11, Eng.ro11, Eng.st11, Eng.pd11, Eng.pt11, Eng.od11, Eng.ot11, Eng.vd11, Eng.vt11, Eng.vx12, Eng.vo12, Eng.pk12, Eng.po12, Eng.ol12, Eng.rf12, Eng.ro12, Eng.st12, Eng.pd12, Eng.pt12, Eng.od12, Eng.ot12, Eng.vd12, Eng.vt12, Eng.vx13, Eng.vo13, Eng.pk13, Eng.po13, Eng.ol13, Eng.rf13, Eng.ro13, Eng.st13, Eng.pd13, Eng.pt13, Eng.od13, Eng.ot13, Eng.vd13, Eng.vt13, Eng.vx14, Eng.vo14, Eng.pk14, Eng.po14, Eng.ol14, Eng.rf14, Eng.ro14, Eng.st14, Eng.pd14, Eng.pt14, Eng.od14, Eng.ot14, Eng.vd14, Eng.vt14, Eng.vx15, Eng.vo15, Eng.pk15, Eng.po15, Eng.ol15, Eng.rf15, Eng.ro15, Eng.st15, Eng.pd15, Eng.pt15, Eng.od15, Eng.ot15, Eng.vd15, Eng.vt15, Eng.vx16, Eng.vo16, Eng.pk16, Eng.po16, Eng.ol16, Eng.rf16, Eng.ro16, Eng.st16, Eng.pd16, Eng.pt16, Eng.od16, Eng.ot16, Eng.vd16, Eng.vt16, Eng.vx17, Eng.vo17, Eng.pk17, Eng.po17, Eng.ol17, Eng.rf17, Eng.ro17, Eng.st17, Eng.pd17, Eng.pt17, Eng.od17, Eng.ot17, Eng.vd17, Eng.vt17, Eng.vx18, Eng.vo18, Eng.pk18, Eng.po18, Eng.ol18, Eng.rf18, Eng.ro18, Eng.st18, Eng.pd18, Eng.pt18, Eng.od18, Eng.ot18, Eng.vd18, Eng.vt18, Eng.vx19, Eng.vo19, Eng.pk19, Eng.po19, Eng.ol19, Eng.rf19, Eng.ro19, Eng.st19, Eng.pd19, Eng.pt19, Eng.od19, Eng.ot19, Eng.vd19, Eng.vt19, Eng.evO_neg, Eng.ev_rev, Eng.kRev_eq, Eng.rev_lst, Eng.rev_tup, Eng.ev_mth, Eng.kMth_eq, Eng.kMth1_t, Eng.kMth2_eq, Eng.kMth3_t, Eng.mk_up, Eng.mk_jn, Eng.mk_sp, Eng.mk_dg, Eng.mk_g1, Eng.mk_g1t, Eng.mk_g2, Eng.mk_g2t, Eng.mt_g2t, Eng.mt_g2, Eng.ev_mthv, Eng.pOk_some, Eng.kMthv_t, Eng.kMthv2_eq, Eng.oMth_t, Eng.oMth_k, Eng.ev_fld, Eng.kFld_eq, Eng.ev_meth, Eng.kMeth_eq, Eng.kMeth1_t, Eng.kMeth2_eq, Eng.ev_make, Eng.kMake_eq, Eng.md_ok, Eng.md_ex, Eng.ev_orv, Eng.kOrv_eq, Eng.kOrv2_t, Eng.kOrv2_f, Eng.ev_isc, Eng.kIsc_eq, Eng.ev_cmpl, Eng.kCmpl_some, Eng.kCmpl2_eq, Eng.oCmpl_some, Eng.evT_cmpl, Eng.ev_tuprg, Eng.ret_cmpl, Eng.ret_tuprg, Eng.ev_disp, Eng.kDisp1_eq, Eng.kDisp2_eq, Eng.oDisp_s, Eng.oDisp_i, Eng.evT_meth, Eng.evT_mth, Eng.evT_fld, Eng.evT_isc, Eng.ex_setf, Eng.kSetf_fz, Eng.kSetf_own, Eng.kSetf2_eq, Eng.ex_setrd, Eng.kSetrd1_eq, Eng.kSetrd2_eq, Eng.kSetrd3_eq, Eng.ret_mth, Eng.ret_mthv, Eng.ret_fld, Eng.ret_meth, Eng.ret_make, Eng.ret_orv, Eng.ret_isc, Eng.ret_disp, Eng.ret_rev, Eng.ret_neg, Eng.ret_sortset, Eng.ret_lenset, Eng.ret_dic0, Eng.w_ok, Eng.w_ex, Eng.w_bind, Eng.w_thn, Eng.w_nx, Eng.w_rt, Eng.w_exs, Eng.w_seq, Eng.w_done, Eng.w_okC, Eng.w_exC, Eng.w_back, Eng.w_made, Eng.w_frz, Eng.qB_eq, Eng.qT_eq, Eng.qS_eq, Eng.qF_fz, Eng.qF_lst, Eng.qF_dT, Eng.qF_dK, Eng.qN_eq, Eng.qR_eq, Eng.qE_eq, Eng.qK_eq, Eng.qX_eq, Eng.qM_eq, Eng.kSeq_str, Eng.vx20, Eng.vo20, Eng.pk20, Eng.po20, Eng.ol20, Eng.rf20, Eng.ro20, Eng.st20, Eng.pd20, Eng.pt20, Eng.od20, Eng.ot20, Eng.vd20, Eng.vt20, Eng.vx21, Eng.vo21, Eng.pk21, Eng.po21, Eng.ol21, Eng.rf21, Eng.ro21, Eng.st21, Eng.pd21, Eng.pt21, Eng.od21, Eng.ot21, Eng.vd21, Eng.vt21, Eng.vx22, Eng.vo22, Eng.pk22, Eng.po22, Eng.ol22, Eng.rf22, Eng.ro22, Eng.st22, Eng.pd22, Eng.pt22, Eng.od22, Eng.ot22, Eng.vd22, Eng.vt22, Eng.vx23, Eng.vo23, Eng.pk23, Eng.po23, Eng.ol23, Eng.rf23, Eng.ro23, Eng.st23, Eng.pd23, Eng.pt23, Eng.od23, Eng.ot23, Eng.vd23, Eng.vt23, Eng.vx24, Eng.vo24, Eng.pk24, Eng.po24, Eng.ol24, Eng.rf24, Eng.ro24, Eng.st24, Eng.pd24, Eng.pt24, Eng.od24, Eng.ot24, Eng.vd24, Eng.vt24, Eng.vx25, Eng.vo25, Eng.pk25, Eng.po25, Eng.ol25, Eng.rf25, Eng.ro25, Eng.st25, Eng.pd25, Eng.pt25, Eng.od25, Eng.ot25, Eng.vd25, Eng.vt25, Eng.vx26, Eng.vo26, Eng.pk26, Eng.po26, Eng.ol26, Eng.rf26, Eng.ro26, Eng.st26, Eng.pd26, Eng.pt26, Eng.od26, Eng.ot26, Eng.vd26, Eng.vt26, Eng.vx27, Eng.vo27, Eng.pk27, Eng.po27, Eng.ol27, Eng.rf27, Eng.ro27, Eng.st27, Eng.pd27, Eng.pt27, Eng.od27, Eng.ot27, Eng.vd27, Eng.vt27, Eng.lk_dit, *])

section
/-! Draws: a pen is a list of four numbers in the store. -/
namespace Fn
open PySem L2 Eng
def f_law_pen : Df := ⟨"_law_pen", 1, 1, (.cons (.ret (.share (.lst (.cons (.var 0) (.cons (.blt .int (.cons (.cmpl .ge 0 (.bin .pow (.con (.int 10)) (.con (.int 18)))) .nil)) (.cons (.con (.int 0)) (.cons (.bin .mod (.var 0) (.con (.int 1000000007))) .nil))))))) .nil), []⟩
def f_law_cell_at : Df := ⟨"_law_cell_at", 2, 2, (.cons (.cond (.cmpl .lt 1 (.bltv .len 0)) (.cons (.ret (.subv 0 (.var 1))) .nil) .nil) (.cons (.ret (.con (.int 0))) .nil)), []⟩
def f_law_draw : Df := ⟨"_law_draw", 2, 4, (.cons (.cond (.and (.cmp .eq (.subv 0 (.con (.int 1))) (.con (.int 1))) (.cmp .gt (.subv 0 (.con (.int 0))) (.con (.int 0)))) (.cons (.set 3 (.bin .mod (.subv 0 (.con (.int 0))) (.var 1))) (.cons (.setr (.var 0) (.con (.int 0)) (.bin .fdiv (.subv 0 (.con (.int 0))) (.var 1))) (.cons (.ret (.var 3)) .nil))) .nil) (.cons (.setr (.var 0) (.con (.int 2)) (.bin .add (.subv 0 (.con (.int 2))) (.con (.int 1)))) (.cons (.set 2 (.bin .mod (.bin .mul (.bin .add (.subv 0 (.con (.int 3))) (.con (.int 17))) (.bin .add (.con (.int 69621)) (.bin .mul (.con (.int 2)) (.subv 0 (.con (.int 2)))))) (.con (.int 2147483647)))) (.cons (.set 2 (.bin .mod (.bin .add (.bin .add (.bin .mul (.var 2) (.var 2)) (.bin .mul (.con (.int 40503)) (.subv 0 (.con (.int 2))))) (.con (.int 5))) (.con (.int 2147483629)))) (.cons (.ret (.bin .mod (.bin .fdiv (.bin .mod (.bin .mul (.var 2) (.con (.int 48271))) (.con (.int 2147483647))) (.con (.int 32))) (.var 1))) .nil))))), []⟩
structure HasDraw (P : Str → Option Df) : Prop where
  pen : P "_law_pen" = some f_law_pen
  cell_at : P "_law_cell_at" = some f_law_cell_at
  draw : P "_law_draw" = some f_law_draw
/-- a pen stands at n -/
def PenAt (S : Store) (n : Nat) : Prop := ∃ a g c m : Int, S[n]? = some (.lst [.int a, .int g, .int c, .int m]) ∧ 0 ≤ m ∧ m < 1000000007
/-- the pen at n has moved, nothing else -/
def Moved (n : Nat) (S S' : Store) : Prop := ∃ c, S' = S.set n c
theorem Moved.refl {n : Nat} {S : Store} (h : PenAt S n) : Moved n S S := by
  obtain ⟨a, g, c, m, h, _⟩ := h
  refine ⟨.lst [.int a, .int g, .int c, .int m], ?_⟩
  apply List.ext_getElem?
  intro i
  by_cases e : n = i
  · subst e; rw [List.getElem?_set_self (List.getElem?_eq_some_iff.mp h).1, h]
  · rw [List.getElem?_set_ne e]
theorem Moved.trans {n : Nat} {S S1 S2 : Store} (a : Moved n S S1) (b : Moved n S1 S2) : Moved n S S2 := by
  obtain ⟨c, rfl⟩ := a
  obtain ⟨d, rfl⟩ := b
  exact ⟨d, by rw [List.set_set]⟩
theorem Moved.length {n : Nat} {S S' : Store} (a : Moved n S S') : S'.length = S.length := by
  obtain ⟨c, rfl⟩ := a
  rw [List.length_set]
theorem Moved.other {n k : Nat} {S S' : Store} (a : Moved n S S') (h : n ≠ k) : S'[k]? = S[k]? := by
  obtain ⟨c, rfl⟩ := a
  rw [List.getElem?_set_ne h]
section
variable {P : Str → Option Df} {gl : Str → Option D} {S : Store} {n k : Nat}
theorem setr0 {fr : Eng.Frame} {d x0 x1 x2 x3 : D} (h : S[n]? = some (.lst [x0, x1, x2, x3])) : setrX (.ref n) (.int 0) d fr S = .nx fr (S.set n (.lst [d, x1, x2, x3])) := by
  unfold setrX; simp only [h]; rfl
theorem setr2 {fr : Eng.Frame} {d x0 x1 x2 x3 : D} (h : S[n]? = some (.lst [x0, x1, x2, x3])) : setrX (.ref n) (.int 2) d fr S = .nx fr (S.set n (.lst [x0, x1, d, x3])) := by
  unfold setrX; simp only [h]; rfl
theorem look_set {xs : List D} (h : n < S.length) : look (S.set n (.lst xs)) (.ref n) = .lst xs := look_at (List.getElem?_set_self h)
theorem draw (hP : HasDraw P) (h : PenAt S n) {b : Int} (h0 : 0 < b) (h1 : b < 1073741824) :
    ∃ v S', callN P gl (k + 1) "_law_draw" [.ref n, .int b] S = .ok (.fz (.int v)) S' ∧ 0 ≤ v ∧ v < b ∧ Moved n S S' ∧ PenAt S' n := by
  obtain ⟨a, g, c, m, hs, hm0, hm1⟩ := h
  have hl : n < S.length := (List.getElem?_eq_some_iff.mp hs).1
  have hS : look S (.ref n) = .lst [.int a, .int g, .int c, .int m] := look_at hs
  have hT : ∀ xs, look (S.set n (.lst xs)) (.ref n) = .lst xs := fun xs => look_set hl
  have hm : ∀ i : Int, binD .mod (.int i) (.int b) = some (.fz (.int (i % b))) := fun i => bin_modI h0
  have hd : ∀ i : Int, binD .fdiv (.int i) (.int b) = some (.fz (.int (i / b))) := fun i => bin_fdivI ⟨h0, h1⟩
  have s0 : ∀ fr d, setrX (.ref n) (.int 0) d fr S = .nx fr (S.set n (.lst [d, .int g, .int c, .int m])) := fun fr d => setr0 hs
  have s2 : ∀ fr d, setrX (.ref n) (.int 2) d fr S = .nx fr (S.set n (.lst [.int a, .int g, d, .int m])) := fun fr d => setr2 hs
  rw [callN_run hP.draw rfl]
  show ∃ v S', RS.done (exs (callN P gl k) gl f_law_draw.body [some (.fz (.ref n)), some (.fz (.int b)), none, none] S) = _ ∧ _
  unfold f_law_draw
  have tail : ∃ v S', RS.done (exs (callN P gl k) gl (.cons (.setr (.var 0) (.con (.int 2)) (.bin .add (.subv 0 (.con (.int 2))) (.con (.int 1)))) (.cons (.set 2 (.bin .mod (.bin .mul (.bin .add (.subv 0 (.con (.int 3))) (.con (.int 17))) (.bin .add (.con (.int 69621)) (.bin .mul (.con (.int 2)) (.subv 0 (.con (.int 2)))))) (.con (.int 2147483647)))) (.cons (.set 2 (.bin .mod (.bin .add (.bin .add (.bin .mul (.var 2) (.var 2)) (.bin .mul (.con (.int 40503)) (.subv 0 (.con (.int 2))))) (.con (.int 5))) (.con (.int 2147483629)))) (.cons (.ret (.bin .mod (.bin .fdiv (.bin .mod (.bin .mul (.var 2) (.con (.int 48271))) (.con (.int 2147483647))) (.con (.int 32))) (.var 1))) .nil)))) [some (.fz (.ref n)), some (.fz (.int b)), none, none] S) = .ok (.fz (.int v)) S' ∧ 0 ≤ v ∧ v < b ∧ Moved n S S' ∧ PenAt S' n := by
    have m1 : binD .mul (.int 2) (.int (c + 1)) = some (.fz (.int (2 * (c + 1)))) := bin_mulI (Or.inl (by omega))
    have m2 : ∀ z : Int, binD .mul (.int (m + 17)) (.int z) = some (.fz (.int ((m + 17) * z))) := fun z => bin_mulI (Or.inl (by omega))
    have m3 : ∀ z : Int, binD .mod (.int z) (.int 2147483647) = some (.fz (.int (z % 2147483647))) := fun z => bin_modI (by omega)
    have m4 : ∀ z y : Int, binD .mul (.int (z % 2147483647)) (.int y) = some (.fz (.int ((z % 2147483647) * y))) := fun z y => bin_mulI (Or.inl (by omega))
    have m5 : ∀ z : Int, binD .mul (.int 40503) (.int z) = some (.fz (.int (40503 * z))) := fun z => bin_mulI (Or.inl (by omega))
    have m6 : ∀ z : Int, binD .mod (.int z) (.int 2147483629) = some (.fz (.int (z % 2147483629))) := fun z => bin_modI (by omega)
    have m7 : ∀ z y : Int, binD .mul (.int (z % 2147483629)) (.int y) = some (.fz (.int ((z % 2147483629) * y))) := fun z y => bin_mulI (Or.inl (by omega))
    have m8 : ∀ z : Int, binD .fdiv (.int z) (.int 32) = some (.fz (.int (z / 32))) := fun z => bin_fdivI (by omega)
    walk_at "eng*"
    refine ⟨_, _, rfl, Int.emod_nonneg _ (by omega), Int.emod_lt_of_pos _ h0, ⟨_, rfl⟩, ⟨a, g, c + 1, m, List.getElem?_set_self hl, hm0, hm1⟩⟩
  by_cases e1 : (g == 1) = true
  · by_cases e2 : decide (0 < a) = true
    · clear tail
      walk_at "eng*"
      refine ⟨_, _, rfl, Int.emod_nonneg _ (by omega), Int.emod_lt_of_pos _ h0, ⟨_, rfl⟩, ⟨_, g, c, m, List.getElem?_set_self hl, hm0, hm1⟩⟩
    · have e2 := eq_false_of_ne_true e2
      rw [exs_cons]
      have : ex (callN P gl k) gl (.cond (.and (.cmp .eq (.subv 0 (.con (.int 1))) (.con (.int 1))) (.cmp .gt (.subv 0 (.con (.int 0))) (.con (.int 0)))) (.cons (.set 3 (.bin .mod (.subv 0 (.con (.int 0))) (.var 1))) (.cons (.setr (.var 0) (.con (.int 0)) (.bin .fdiv (.subv 0 (.con (.int 0))) (.var 1))) (.cons (.ret (.var 3)) .nil))) .nil) [some (.fz (.ref n)), some (.fz (.int b)), none, none] S = .nx [some (.fz (.ref n)), some (.fz (.int b)), none, none] S := by
        clear tail
        walk_at "eng*"
      rw [this]; exact tail
  · have e1 := eq_false_of_ne_true e1
    rw [exs_cons]
    have : ex (callN P gl k) gl (.cond (.and (.cmp .eq (.subv 0 (.con (.int 1))) (.con (.int 1))) (.cmp .gt (.subv 0 (.con (.int 0))) (.con (.int 0)))) (.cons (.set 3 (.bin .mod (.subv 0 (.con (.int 0))) (.var 1))) (.cons (.setr (.var 0) (.con (.int 0)) (.bin .fdiv (.subv 0 (.con (.int 0))) (.var 1))) (.cons (.ret (.var 3)) .nil))) .nil) [some (.fz (.ref n)), some (.fz (.int b)), none, none] S = .nx [some (.fz (.ref n)), some (.fz (.int b)), none, none] S := by
      clear tail
      walk_at "eng*"
    rw [this]; exact tail
end
end Fn
end

section
/-! Lists of sets: what is a list, a stamp; all places, all stamps. -/
namespace Al
open PySem L2 Eng
def f_is_whole : Df := ⟨"is_whole", 1, 1, (.cons (.ret (.and (.isi .int (.var 0)) (.not (.isi .bool (.var 0))))) .nil), []⟩
def f_is_from : Df := ⟨"is_from", 3, 3, (.cons (.ret (.and (.call "is_whole" (.cons (.var 0) .nil)) (.chain .le .le (.var 1) (.var 0) (.var 2)))) .nil), []⟩
def f_is_word : Df := ⟨"is_word", 2, 3, (.cons (.cond (.or (.not (.isi .str (.var 0))) (.not (.chain .le .le (.var 1) (.bltv .len 0) (.glo "MOST_LETTERS")))) (.cons (.ret (.con (.bl false))) .nil) .nil) (.cons (.ret (.blt .all (.cons (.comp (.cmpl .inn 2 (.glo "LETTERS")) (.nm 2) (.seq (.var 0)) .nil) .nil))) .nil)), []⟩
def f_rises : Df := ⟨"rises", 1, 3, (.cons (.ret (.blt .all (.cons (.comp (.cmpl .lt 1 (.var 2)) (.tp (.cons (.nm 1) (.cons (.nm 2) .nil))) (.zip (.var 0) (.slice (.var 0) (.con (.int 1)) .omit)) .nil) .nil))) .nil), []⟩
def f_is_set : Df := ⟨"is_set", 1, 1, (.cons (.cond (.or (.not (.isi .tuple (.var 0))) (.or (.cmp .ne (.bltv .len 0) (.con (.int 3))) (.not (.call "is_word" (.cons (.subv 0 (.con (.int 0))) (.cons (.con (.int 1)) .nil)))))) (.cons (.ret (.con (.bl false))) .nil) .nil) (.cons (.ret (.and (.call "is_from" (.cons (.subv 0 (.con (.int 1))) (.cons (.glo "FIRST_YEAR") (.cons (.glo "LAST_YEAR") .nil)))) (.call "is_from" (.cons (.subv 0 (.con (.int 2))) (.cons (.con (.int 1)) (.cons (.glo "MOST_MANY") .nil)))))) .nil)), []⟩
def f_is_list : Df := ⟨"is_list", 1, 2, (.cons (.cond (.or (.not (.isi .tuple (.var 0))) (.or (.not (.chain .le .le (.con (.int 1)) (.bltv .len 0) (.glo "MOST_SETS"))) (.not (.blt .all (.cons (.comp (.call "is_set" (.cons (.var 1) .nil)) (.nm 1) (.seq (.var 0)) .nil) .nil))))) (.cons (.ret (.con (.bl false))) .nil) .nil) (.cons (.ret (.call "rises" (.cons (.comp (.slice (.var 1) .omit (.con (.int 2))) (.nm 1) (.seq (.var 0)) .nil) .nil))) .nil)), []⟩
def f_is_place : Df := ⟨"is_place", 2, 2, (.cons (.cond (.or (.not (.isi .tuple (.var 1))) (.or (.cmp .ne (.bltv .len 1) (.con (.int 2))) (.not (.call "is_from" (.cons (.subv 1 (.con (.int 0))) (.cons (.con (.int 0)) (.cons (.bin .sub (.bltv .len 0) (.con (.int 1))) .nil))))))) (.cons (.ret (.con (.bl false))) .nil) .nil) (.cons (.ret (.call "is_from" (.cons (.subv 1 (.con (.int 1))) (.cons (.con (.int 0)) (.cons (.bin .sub (.sub (.subv 0 (.subv 1 (.con (.int 0)))) (.con (.int 2))) (.con (.int 1))) .nil))))) .nil)), []⟩
def f_is_stamp : Df := ⟨"is_stamp", 2, 2, (.cons (.cond (.or (.not (.isi .tuple (.var 1))) (.cmp .ne (.bltv .len 1) (.con (.int 3)))) (.cons (.ret (.con (.bl false))) .nil) .nil) (.cons (.ret (.and (.call "is_place" (.cons (.var 0) (.cons (.slice (.var 1) .omit (.con (.int 2))) .nil))) (.call "is_from" (.cons (.subv 1 (.con (.int 2))) (.cons (.con (.int 0)) (.cons (.con (.int 1)) .nil)))))) .nil)), []⟩
def f_need_stamp : Df := ⟨"need_stamp", 2, 2, (.cons (.cond (.not (.call "is_stamp" (.cons (.var 0) (.cons (.var 1) .nil)))) (.cons (.raise "NoStamp") .nil) .nil) .nil), []⟩
def f_need_number : Df := ⟨"need_number", 2, 2, (.cons (.cond (.or (.not (.call "is_whole" (.cons (.var 0) .nil))) (.cmpl .lt 0 (.var 1))) (.cons (.raise "NoNumber") .nil) .nil) .nil), []⟩
def f_all_places : Df := ⟨"all_places", 1, 7, (.cons (.set 1 (.lst .nil)) (.cons (.loop (.tp (.cons (.nm 2) (.cons (.tp (.cons (.nm 3) (.cons (.nm 4) (.cons (.nm 5) .nil)))) .nil))) (.enm (.var 0)) (.cons (.extv 1 (.comp (.tup (.cons (.var 2) (.cons (.var 6) .nil))) (.nm 6) (.rng1 (.var 5)) .nil)) .nil)) (.cons (.ret (.var 1)) .nil))), []⟩
def f_all_stamps : Df := ⟨"all_stamps", 1, 3, (.cons (.set 1 (.lst .nil)) (.cons (.loop (.nm 2) (.seq (.call "all_places" (.cons (.var 0) .nil))) (.cons (.extv 1 (.lst (.cons (.bin .add (.var 2) (.tup (.cons (.con (.int 0)) .nil))) (.cons (.bin .add (.var 2) (.tup (.cons (.con (.int 1)) .nil))) .nil)))) .nil)) (.cons (.ret (.var 1)) .nil))), []⟩
def f_law_cell_at : Df := ⟨"_law_cell_at", 2, 2, (.cons (.cond (.cmpl .lt 1 (.bltv .len 0)) (.cons (.ret (.subv 0 (.var 1))) .nil) .nil) (.cons (.ret (.con (.int 0))) .nil)), []⟩
def f_law_pen : Df := ⟨"_law_pen", 1, 1, (.cons (.ret (.share (.lst (.cons (.var 0) (.cons (.blt .int (.cons (.cmpl .ge 0 (.bin .pow (.con (.int 10)) (.con (.int 18)))) .nil)) (.cons (.con (.int 0)) (.cons (.bin .mod (.var 0) (.con (.int 1000000007))) .nil))))))) .nil), []⟩
open Fn
structure HasFrom (P : Str → Option Df) : Prop where
  is_whole : P "is_whole" = some f_is_whole
  is_from : P "is_from" = some f_is_from
structure HasPen (P : Str → Option Df) : Prop where
  draw : HasDraw P
structure HasLists (P : Str → Option Df) (gl : Str → Option D) : Prop extends HasFrom P where
  is_word : P "is_word" = some f_is_word
  rises : P "rises" = some f_rises
  is_set : P "is_set" = some f_is_set
  is_list : P "is_list" = some f_is_list
  is_place : P "is_place" = some f_is_place
  is_stamp : P "is_stamp" = some f_is_stamp
  all_places : P "all_places" = some f_all_places
  all_stamps : P "all_stamps" = some f_all_stamps
  g1 : gl "FIRST_YEAR" = some (.int 1840)
  g2 : gl "LAST_YEAR" = some (.int 2100)
  g3 : gl "MOST_SETS" = some (.int 4)
  g4 : gl "MOST_MANY" = some (.int 6)
  g5 : gl "MOST_LETTERS" = some (.int 8)
  g6 : gl "LETTERS" = some (.str "abcdefghijklmnopqrstuvwxyz")
/-! ### what may be handed in -/
mutual
def th : D → Bool
  | .non | .bl _ | .int _ => true
  | .str x => decide (x.length ≤ 100000)
  | .lst xs | .tup xs => ths xs && decide (xs.length ≤ 100000)
  | .dic _ _ | .dit _ _ => true
  | .ref _ | .scr _ => false
def ths : List D → Bool
  | [] => true
  | x :: xs => th x && ths xs
end
theorem ths_mem : ∀ {xs : List D}, ths xs = true → ∀ x ∈ xs, th x = true
  | y :: ys, h, x, hx => by
    have h' : (th y && ths ys) = true := h
    rw [Bool.and_eq_true] at h'
    rcases List.mem_cons.mp hx with rfl | hx
    · exact h'.1
    · exact ths_mem h'.2 x hx
theorem th_tup {xs : List D} (h : th (.tup xs) = true) : (∀ x ∈ xs, th x = true) ∧ xs.length ≤ 100000 := by
  have h' : (ths xs && decide (xs.length ≤ 100000)) = true := h
  rw [Bool.and_eq_true] at h'
  exact ⟨ths_mem h'.1, of_decide_eq_true h'.2⟩
theorem th_str {x : Str} (h : th (.str x) = true) : x.length ≤ 100000 := of_decide_eq_true h
theorem big : (100000 : Nat) < sizeLine := by unfold sizeLine; omega
def wholeD : D → Bool
  | .int _ => true
  | _ => false
def fromD (lo hi : Int) : D → Bool
  | .int i => decide (lo ≤ i) && decide (i ≤ hi)
  | _ => false
def letters : Str := "abcdefghijklmnopqrstuvwxyz"
def wordB (least : Int) : D → Bool
  | .str x => decide (least ≤ (x.length : Int)) && decide ((x.length : Int) ≤ 8) && x.cps.toList.all fun c => decide (c ∈ letters.cps.toList)
  | _ => false
def setB : D → Bool
  | .tup [a, b, c] => wordB 1 a && (fromD 1840 2100 b && fromD 1 6 c)
  | _ => false
def head2 : D → D
  | .tup xs => .tup (xs.take 2)
  | d => d
def risesB : List D → Bool
  | x :: y :: r => D.ltb x y && risesB (y :: r)
  | _ => true
def listB : D → Bool
  | .tup xs => decide (1 ≤ (xs.length : Int)) && decide ((xs.length : Int) ≤ 4) && xs.all setB && risesB (xs.map head2)
  | _ => false
section
variable {P : Str → Option Df} {gl : Str → Option D} {S : Store} {n k : Nat}
theorem drawn (hP : HasDraw P) (hn : 1 ≤ n) (h : PenAt S k) {b : Int} (h0 : 0 < b) (h1 : b < 1073741824) {C : Val → Store → Prop} {X : Ex → Store → Prop} (hC : ∀ v T, 0 ≤ v → v < b → Moved k S T → PenAt T k → C (.fz (.int v)) T) :
    (callN P gl n "_law_draw" [.ref k, .int b] S).wp C X := by
  obtain ⟨m, rfl⟩ : ∃ m, n = m + 1 := ⟨n - 1, by omega⟩
  obtain ⟨v, T, e, a1, a2, a3, a4⟩ := draw (gl := gl) (k := m) hP h h0 h1
  rw [e]; exact hC v T a1 a2 a3 a4
theorem is_whole (hP : HasFrom P) (hn : 1 ≤ n) {d : D} (hd : th d = true) : callN P gl n "is_whole" [d] S = .ok (.fz (.bl (wholeD d))) S := by
  obtain ⟨k, rfl⟩ : ∃ k, n = k + 1 := ⟨n - 1, by omega⟩
  rw [callN_run hP.is_whole rfl]
  show RS.done (exs (callN P gl k) gl f_is_whole.body [some (.fz d)] S) = _
  unfold f_is_whole
  cases d with
  | ref m => cases hd
  | _ => rfl
theorem is_from (hP : HasFrom P) (hn : 2 ≤ n) {d : D} (hd : th d = true) {lo hi : Int} : callN P gl n "is_from" [d, .int lo, .int hi] S = .ok (.fz (.bl (fromD lo hi d))) S := by
  obtain ⟨k, rfl⟩ : ∃ k, n = k + 1 := ⟨n - 1, by omega⟩
  rw [callN_run hP.is_from rfl]
  show RS.done (exs (callN P gl k) gl f_is_from.body [some (.fz d), some (.fz (.int lo)), some (.fz (.int hi))] S) = _
  unfold f_is_from
  have h1 := is_whole (gl := gl) (S := S) hP (n := k) (by omega) hd
  cases d with
  | ref m => cases hd
  | int i =>
    replace h1 : callN P gl k "is_whole" [.int i] S = .ok (.fz (.bl true)) S := h1
    walk_at "eng*"
    cases e : decide (lo ≤ i) with
    | true =>
      have e2 : lo ≤ i := of_decide_eq_true e
      walk_at "eng*"
      simp [fromD, e2]
    | false =>
      have e2 : ¬ lo ≤ i := of_decide_eq_false e
      walk_at "eng*"
      simp [fromD, e2]
  | _ =>
    simp only [wholeD] at h1
    walk_at "eng*"
    rfl
theorem in_letters (c : Nat) : cmpD .inn (.str ⟨#[c]⟩) (.str letters) = some (decide (c ∈ letters.cps.toList)) := rfl
theorem is_word (hP : HasLists P gl) (hn : 1 ≤ n) {d : D} (hd : th d = true) {least : Int} : callN P gl n "is_word" [d, .int least] S = .ok (.fz (.bl (wordB least d))) S := by
  obtain ⟨k, rfl⟩ : ∃ k, n = k + 1 := ⟨n - 1, by omega⟩
  rw [callN_run hP.is_word rfl]
  refine RC.eq_of ?_
  show (RS.done (exs (callN P gl k) gl f_is_word.body [some (.fz d), some (.fz (.int least)), none] S)).wp _ _
  unfold f_is_word
  have g5 := hP.g5
  have g6 : gl "LETTERS" = some (.str letters) := hP.g6
  cases d with
  | ref m => cases hd
  | str x =>
    have hx := th_str hd
    have hl : bltD .len [.str x] = some (.fz (.int x.length)) := if_pos (Nat.le_of_lt (Nat.lt_of_le_of_lt hx big))
    have i1 : isD .str (.str x) = some true := rfl
    clear hd
    walk_at "eng*"
    cases e : decide (least ≤ (x.length : Int)) with
    | false =>
      walk_at "eng*"
      exact ⟨by simp only [wordB, e, Bool.false_and], trivial⟩
    | true =>
      walk_at "eng*"
      cases e2 : decide ((x.length : Int) ≤ 8) with
      | false =>
        walk_at "eng*"
        exact ⟨by simp only [wordB, e, e2, Bool.false_and, Bool.true_and], trivial⟩
      | true =>
        simp only [Bool.not_true]
        walk_at "eng*"
        refine wp_compM (fun c : Nat => D.str ⟨#[c]⟩) (fun c => .bl (decide (c ∈ letters.cps.toList))) (fun _ => true) x.cps.toList [some (.fz (.str x)), some (.fz (.int least)), none] rfl rfl rfl (by rw [Array.length_toList]; exact Nat.le_of_lt (Nat.lt_of_le_of_lt hx big)) (fun c hc => ⟨[some (.fz (.str x)), some (.fz (.int least)), some (.fz (.str ⟨#[c]⟩))], rfl, ⟨rfl, rfl, rfl⟩, fun _ => ?_, rfl⟩) ?_
        · have il := in_letters c
          clear hl i1 hx e e2
          walk_at "eng*"
          exact ⟨trivial, trivial, trivial⟩
        · have ha : bltD .all [.lst ((x.cps.toList.filter fun _ => true).map fun c => D.bl (decide (c ∈ letters.cps.toList)))] = some (.fz (.bl (x.cps.toList.all fun c => decide (c ∈ letters.cps.toList)))) := by
            rw [List.filter_eq_self.mpr (fun _ _ => rfl)]
            show (boolL _).map _ = _
            have : (x.cps.toList.map fun c => D.bl (decide (c ∈ letters.cps.toList))) = (x.cps.toList.map fun c => decide (c ∈ letters.cps.toList)).map D.bl := by rw [List.map_map]; rfl
            rw [this, boolL_bl]
            show some (Val.fz (D.bl _)) = _
            rw [List.all_map]; rfl
          clear hl i1 hx
          walk_at "eng*"
          exact ⟨by simp only [wordB, e, e2, Bool.true_and], trivial⟩
  | _ => exact ⟨rfl, rfl⟩
end
end Al
end

section
/-! The order of data: strictly rising rows are told by their members. -/
namespace Al
open PySem L2 Eng PyProof.Rows PySem.W
abbrev Up (ds : List D) : Prop := ds.Pairwise fun x y => D.ltb x y = true
theorem ltb_irr (x : D) : D.ltb x x = false := lex_irrefl _
theorem ltb_tr {x y z : D} (h : D.ltb x y = true) (h2 : D.ltb y z = true) : D.ltb x z = true := lex_trans _ _ _ h h2
theorem ltb_as {x y : D} (h : D.ltb x y = true) : D.ltb y x = false := by
  cases e : D.ltb y x with
  | false => rfl
  | true => have := ltb_tr h e; rw [ltb_irr] at this; cases this
theorem leD_tot (x y : D) : (leD x y || leD y x) = true := by
  unfold leD
  cases e : D.ltb y x with
  | false => rfl
  | true => rw [ltb_as e]; rfl
theorem leD_tr (x y z : D) (h : leD x y = true) (h2 : leD y z = true) : leD x z = true := by
  unfold leD at *
  cases e : D.ltb z x with
  | false => rfl
  | true =>
    rcases lex_negTrans (O := itemOrd) _ (keyToks y.toP) _ e with q | q
    · have q : D.ltb z y = true := q
      rw [q] at h2; cases h2
    · have q : D.ltb y x = true := q
      rw [q] at h; cases h
/-- unlike things that have an order, sorted -/
theorem srt_up {ds : List D} (hi : ∀ x ∈ ds, ∀ y ∈ ds, keyToks x.toP = keyToks y.toP → x = y) (hn : ds.Nodup) : Up (srtD ds) := by
  have h1 : (srtD ds).Pairwise fun a b => leD a b = true := List.pairwise_mergeSort (le := leD) leD_tr leD_tot ds
  have hp : (srtD ds).Perm ds := List.mergeSort_perm ds leD
  have h2 : (srtD ds).Nodup := hp.symm.nodup hn
  have h3 : (srtD ds).Pairwise fun x y => x ∈ ds ∧ y ∈ ds := List.pairwise_of_forall_mem_list fun x hx y hy => ⟨hp.mem_iff.mp hx, hp.mem_iff.mp hy⟩
  refine ((h1.and h2).and h3).imp fun {x y} h => ?_
  obtain ⟨⟨a, b⟩, c, d⟩ := h
  cases e : D.ltb x y with
  | true => rfl
  | false =>
    have a' : D.ltb y x = false := by unfold leD at a; cases q : D.ltb y x with | false => rfl | true => rw [q] at a; cases a
    exact absurd (hi x c y d (lex_total _ _ e a')) b
theorem srt_mem {ds : List D} {x : D} : x ∈ srtD ds ↔ x ∈ ds := (List.mergeSort_perm ds leD).mem_iff
theorem srt_len (ds : List D) : (srtD ds).length = ds.length := (List.mergeSort_perm ds leD).length_eq
theorem up_eq : ∀ {a b : List D}, Up a → Up b → (∀ x, x ∈ a ↔ x ∈ b) → a = b
  | [], [], _, _, _ => rfl
  | [], y :: b, _, _, h => nomatch (h y).mpr (List.mem_cons_self ..)
  | x :: a, [], _, _, h => nomatch (h x).mp (List.mem_cons_self ..)
  | x :: a, y :: b, ha, hb, h => by
    have ha' := List.pairwise_cons.mp ha
    have hb' := List.pairwise_cons.mp hb
    have e : x = y := by
      rcases List.mem_cons.mp ((h x).mp (List.mem_cons_self ..)) with e | e
      · exact e
      · rcases List.mem_cons.mp ((h y).mpr (List.mem_cons_self ..)) with e2 | e2
        · exact e2.symm
        · have q1 := hb'.1 x e
          have q2 := ha'.1 y e2
          rw [ltb_as q1] at q2; cases q2
    subst e
    congr 1
    refine up_eq ha'.2 hb'.2 fun z => ⟨fun hz => ?_, fun hz => ?_⟩
    · rcases List.mem_cons.mp ((h z).mp (List.mem_cons_of_mem _ hz)) with e | e
      · subst e; have := ha'.1 z hz; rw [ltb_irr] at this; cases this
      · exact e
    · rcases List.mem_cons.mp ((h z).mpr (List.mem_cons_of_mem _ hz)) with e | e
      · subst e; have := hb'.1 z hz; rw [ltb_irr] at this; cases this
      · exact e
theorem Up.filter {ds : List D} (h : Up ds) (p : D → Bool) : Up (ds.filter p) := List.Pairwise.filter p h
/-! ### stamps -/
abbrev Stm := Nat × Nat × Nat
def stD (s : Stm) : D := .tup [.int s.1, .int s.2.1, .int s.2.2]
def stK (s : Stm) : List Key := [.inl s.1, .inl s.2.1, .inl s.2.2]
theorem key_st (s : Stm) : keyT (stD s) = some (stK s) := rfl
theorem stK_D (s : Stm) : D.tup ((stK s).map keyD) = stD s := rfl
theorem stD_inj {s t : Stm} (h : stD s = stD t) : s = t := by
  obtain ⟨a, b, c⟩ := s; obtain ⟨a', b', c'⟩ := t
  unfold stD at h
  simp at h
  obtain ⟨h1, h2, h3⟩ := h
  simp only [Prod.mk.injEq]; omega
theorem stK_inj {s t : Stm} (h : stK s = stK t) : s = t := stD_inj (by rw [← stK_D, h, stK_D])
def ltS (s t : Stm) : Prop := s.1 < t.1 ∨ (s.1 = t.1 ∧ (s.2.1 < t.2.1 ∨ (s.2.1 = t.2.1 ∧ s.2.2 < t.2.2)))
theorem ltb_st {s t : Stm} (h : ltS s t) : D.ltb (stD s) (stD t) = true := by
  show lexLt itemOrd [.inl 1, .inl (s.1 : Int), .inl 1, .inl (s.2.1 : Int), .inl 1, .inl (s.2.2 : Int), .inl 0] [.inl 1, .inl (t.1 : Int), .inl 1, .inl (t.2.1 : Int), .inl 1, .inl (t.2.2 : Int), .inl 0] = true
  rw [lex_self]
  rcases h with h | ⟨e, h⟩
  · rw [lex_true]; exact .inl (decide_eq_true (by omega))
  · rw [e, lex_self, lex_self]
    rcases h with h | ⟨e, h⟩
    · rw [lex_true]; exact .inl (decide_eq_true (by omega))
    · rw [e, lex_self, lex_self]
      rw [lex_true]; exact .inl (decide_eq_true (by omega))
theorem toks_st {s t : Stm} (h : keyToks (stD s).toP = keyToks (stD t).toP) : stD s = stD t := by
  have h : [Sum.inl 1, Sum.inl (s.1 : Int), .inl 1, .inl (s.2.1 : Int), .inl 1, .inl (s.2.2 : Int), (.inl 0 : Int ⊕ List Nat)] = [.inl 1, .inl (t.1 : Int), .inl 1, .inl (t.2.1 : Int), .inl 1, .inl (t.2.2 : Int), .inl 0] := h
  simp at h
  unfold stD
  obtain ⟨h1, h2, h3⟩ := h
  rw [h1, h2, h3]
theorem pl_st (s : Stm) : D.pl (stD s) = true := rfl
theorem dep_st (s : Stm) : D.dep (stD s) = 1 := rfl
theorem eqv_st (s t : Stm) : D.eqv (stD s) (stD t) = decide (s = t) := by
  obtain ⟨a, b, c⟩ := s; obtain ⟨a', b', c'⟩ := t
  show ((a : Int) == a' && ((b : Int) == b' && ((c : Int) == c' && true))) = _
  by_cases h1 : a = a'
  · by_cases h2 : b = b'
    · by_cases h3 : c = c'
      · subst h1; subst h2; subst h3; simp
      · have : ((c : Int) == c') = false := by simp; omega
        simp [this, h3]
    · have : ((b : Int) == b') = false := by simp; omega
      simp [this, h2]
  · have : ((a : Int) == a') = false := by simp; omega
    simp [this, h1]
end Al
end

section
/-! Books and stamps, typed. -/
namespace Al
open PySem L2 Eng
open Fn
abbrev Ser := Str × Int × Nat
abbrev Book := List Ser
def serD (e : Ser) : D := .tup [.str e.1, .int e.2.1, .int e.2.2]
def hdD (e : Ser) : D := .tup [.str e.1, .int e.2.1]
abbrev e0 : Ser := (⟨#[]⟩, 0, 0)
def places (b : Book) : List (Nat × Nat) := (List.range b.length).flatMap fun p => (List.range (b.getD p e0).2.2).map fun q => (p, q)
def stamps (b : Book) : List Stm := (places b).flatMap fun p => [(p.1, p.2, 0), (p.1, p.2, 1)]
def plD (p : Nat × Nat) : D := .tup [.int p.1, .int p.2]
def okS (b : Book) (s : Stm) : Prop := s.1 < b.length ∧ s.2.1 < (b.getD s.1 e0).2.2 ∧ s.2.2 < 2
structure GoodBook (b : Book) : Prop where
  len1 : 1 ≤ b.length
  len4 : b.length ≤ 4
  ser : ∀ e ∈ b, wordB 1 (.str e.1) = true ∧ e.1.length ≤ 8 ∧ 1840 ≤ e.2.1 ∧ e.2.1 ≤ 2100 ∧ 1 ≤ e.2.2 ∧ e.2.2 ≤ 6
  up : Up (b.map hdD)
theorem mem_places {b : Book} {p q : Nat} : (p, q) ∈ places b ↔ p < b.length ∧ q < (b.getD p e0).2.2 := by
  unfold places
  rw [List.mem_flatMap]
  constructor
  · rintro ⟨x, hx, h⟩
    obtain ⟨y, hy, e⟩ := List.mem_map.mp h
    cases e
    exact ⟨List.mem_range.mp hx, List.mem_range.mp hy⟩
  · rintro ⟨h1, h2⟩
    exact ⟨p, List.mem_range.mpr h1, List.mem_map.mpr ⟨q, List.mem_range.mpr h2, rfl⟩⟩
theorem mem_stamps {b : Book} {s : Stm} : s ∈ stamps b ↔ okS b s := by
  obtain ⟨p, q, g⟩ := s
  unfold stamps okS
  rw [List.mem_flatMap]
  constructor
  · rintro ⟨⟨x, y⟩, hx, h⟩
    have := mem_places.mp hx
    simp at h
    rcases h with ⟨rfl, rfl, rfl⟩ | ⟨rfl, rfl, rfl⟩
    · exact ⟨this.1, this.2, by dsimp only; omega⟩
    · exact ⟨this.1, this.2, by dsimp only; omega⟩
  · rintro ⟨h1, h2, h3⟩
    refine ⟨(p, q), mem_places.mpr ⟨h1, h2⟩, ?_⟩
    have h3 : g < 2 := h3
    have : g = 0 ∨ g = 1 := by omega
    rcases this with rfl | rfl <;> simp
theorem places_pw (b : Book) : (places b).Pairwise fun x y => x.1 < y.1 ∨ (x.1 = y.1 ∧ x.2 < y.2) := by
  unfold places
  rw [List.pairwise_flatMap]
  constructor
  · intro p _
    rw [List.pairwise_map]
    exact List.pairwise_lt_range.imp fun h => .inr ⟨rfl, h⟩
  · refine List.pairwise_lt_range.imp fun {p p'} h x hx y hy => ?_
    obtain ⟨q, _, rfl⟩ := List.mem_map.mp hx
    obtain ⟨q', _, rfl⟩ := List.mem_map.mp hy
    exact .inl h
theorem stamps_pw (b : Book) : (stamps b).Pairwise ltS := by
  unfold stamps
  rw [List.pairwise_flatMap]
  constructor
  · intro p _
    simp [ltS]
  · refine (places_pw b).imp fun {p p'} h x hx y hy => ?_
    simp at hx hy
    rcases hx with rfl | rfl <;> rcases hy with rfl | rfl <;> (unfold ltS; dsimp only; rcases h with h | ⟨h1, h2⟩) <;> first | exact .inl h | exact .inr ⟨h1, .inl h2⟩
theorem stamps_up (b : Book) : Up ((stamps b).map stD) := by
  rw [Up, List.pairwise_map]
  exact (stamps_pw b).imp fun h => ltb_st h
theorem stamps_nodup (b : Book) : (stamps b).Nodup := (stamps_pw b).imp fun {x y} h e => by subst e; unfold ltS at h; omega
theorem sum_le {α : Type} (f : α → Nat) (k : Nat) : ∀ l : List α, (∀ x ∈ l, f x ≤ k) → (l.map f).sum ≤ l.length * k
  | [], _ => by simp
  | x :: l, h => by
    have := sum_le f k l (fun y hy => h y (List.mem_cons_of_mem _ hy))
    have := h x (List.mem_cons_self ..)
    simp [Nat.add_mul]; omega
theorem GoodBook.many {b : Book} (h : GoodBook b) {p : Nat} (hp : p < b.length) : 1 ≤ (b.getD p e0).2.2 ∧ (b.getD p e0).2.2 ≤ 6 := by
  rw [List.getD_eq_getElem?_getD, List.getElem?_eq_getElem hp]
  have := h.ser _ (List.getElem_mem hp)
  exact ⟨this.2.2.2.2.1, this.2.2.2.2.2⟩
theorem places_len {b : Book} (h : GoodBook b) : (places b).length ≤ 24 := by
  unfold places
  rw [List.length_flatMap]
  have := sum_le (fun p => ((List.range (b.getD p e0).2.2).map fun q => (p, q)).length) 6 (List.range b.length) (fun p hp => by rw [List.length_map, List.length_range]; exact (h.many (List.mem_range.mp hp)).2)
  rw [List.length_range] at this
  have := h.len4
  omega
theorem stamps_len {b : Book} (h : GoodBook b) : (stamps b).length ≤ 48 := by
  unfold stamps
  rw [List.length_flatMap]
  have := sum_le (fun p : Nat × Nat => [(p.1, p.2, 0), (p.1, p.2, 1)].length) 2 (places b) (fun p hp => Nat.le_refl _)
  have := places_len h
  omega
theorem ok000 {b : Book} (h : GoodBook b) {g : Nat} (hg : g < 2) : okS b (0, 0, g) := ⟨h.len1, (h.many h.len1).1, hg⟩
def adj (lt : D → D → Bool) (ds : List D) : Bool := (ds.zip (ds.drop 1)).all fun p => lt p.1 p.2
theorem adj_up : ∀ {ds : List D}, Up ds → adj D.ltb ds = true
  | [], _ => rfl
  | [x], _ => rfl
  | x :: y :: r, h => by
    have h' := List.pairwise_cons.mp h
    have := adj_up h'.2
    show (D.ltb x y && adj D.ltb (y :: r)) = true
    rw [h'.1 y (List.mem_cons_self ..), this]; rfl
theorem cut1 (ds : List D) : cutD ds (some 1) none = ds.drop 1 := by
  unfold cutD
  cases ds with
  | nil => simp
  | cons x r =>
    have e1 : HT.sIx (x :: r).length 0 (some 1) = 1 := by
      have := HT.sIx_nat (x :: r).length 0 1
      simpa using this
    have e2 : HT.sIx (x :: r).length (x :: r).length none = (x :: r).length := rfl
    rw [e1, e2]
    simp
theorem zip_typed (ds es : List D) : zipD ds es = (ds.zip es).map fun p => D.tup [p.1, p.2] := by
  unfold zipD
  rw [List.zip, List.map_zipWith]
theorem all_map2 {α : Type} (f : α → Bool) (ds : List α) : bltD .all [.lst (ds.map fun d => .bl (f d))] = some (.fz (.bl (ds.all f))) := by
  have : (ds.map fun d => D.bl (f d)) = (ds.map f).map D.bl := by rw [List.map_map]; rfl
  rw [this, all_bl, List.all_map]; rfl
theorem kRng1_nat {j : Nat} {fr : Eng.Frame} {S : Store} (h : j ≤ 1000000) : kRng1 (.int (j : Int)) fr S = .ok ((List.range j).map fun q : Nat => D.int (q : Nat)) fr S := by
  rw [kRng1_eq (by unfold rgOk; exact decide_eq_true (by omega))]
  have : rgD 0 (j : Int) = (List.range j).map fun q : Nat => D.int (q : Nat) := by
    unfold rgD
    rw [show ((j : Int) - 0).toNat = j by omega]
    exact List.map_congr_left fun i _ => by rw [Int.zero_add]
  rw [this]
theorem filt1 {α : Type} (xs : List α) : xs.filter (fun _ => true) = xs := List.filter_eq_self.mpr fun _ _ => rfl
section
variable {P : Str → Option Df} {gl : Str → Option D} {S : Store} {n k : Nat}
theorem rises_l (hP : HasLists P gl) (hn : 1 ≤ n) {ds : List D} (hl : ds.length ≤ 100000) {lt : D → D → Bool} (h : ∀ p ∈ ds.zip (ds.drop 1), cmpD .lt p.1 p.2 = some (lt p.1 p.2)) (hr : ∀ p ∈ ds.zip (ds.drop 1), look S p.1 = p.1 ∧ look S p.2 = p.2) : callN P gl n "rises" [.lst ds] S = .ok (.fz (.bl (adj lt ds))) S := by
  obtain ⟨k, rfl⟩ : ∃ k, n = k + 1 := ⟨n - 1, by omega⟩
  rw [callN_run hP.rises rfl]
  refine RC.eq_of ?_
  show (RS.done (exs (callN P gl k) gl f_rises.body [some (.fz (.lst ds)), none, none] S)).wp _ _
  unfold f_rises
  have hc := cut1 ds
  have hz := zip_typed ds (ds.drop 1)
  walk_at "eng*"
  refine wp_compM (fun p : D × D => D.tup [p.1, p.2]) (fun p => .bl (lt p.1 p.2)) (fun _ => true) (ds.zip (ds.drop 1)) [some (.fz (.lst ds)), none, none] rfl rfl rfl (by rw [List.length_zip]; have := big; omega) (fun p hp => ⟨[some (.fz (.lst ds)), some (.fz p.1), some (.fz p.2)], rfl, ⟨rfl, rfl, rfl⟩, fun _ => ?_, rfl⟩) ?_
  · obtain ⟨r1, r2⟩ := hr p hp
    have hq := h p hp
    clear h hr hc hz
    walk_at "eng*"
    exact ⟨trivial, trivial, trivial⟩
  · rw [filt1]
    have ha := all_map2 (fun p : D × D => lt p.1 p.2) (ds.zip (ds.drop 1))
    clear h hr hc hz
    walk_at "eng*"
    exact ⟨rfl, trivial⟩
theorem rises_t (hP : HasLists P gl) (hn : 1 ≤ n) {ds : List D} (hl : ds.length ≤ 100000) {lt : D → D → Bool} (h : ∀ p ∈ ds.zip (ds.drop 1), cmpD .lt p.1 p.2 = some (lt p.1 p.2)) (hr : ∀ p ∈ ds.zip (ds.drop 1), look S p.1 = p.1 ∧ look S p.2 = p.2) : callN P gl n "rises" [.tup ds] S = .ok (.fz (.bl (adj lt ds))) S := by
  obtain ⟨k, rfl⟩ : ∃ k, n = k + 1 := ⟨n - 1, by omega⟩
  rw [callN_run hP.rises rfl]
  refine RC.eq_of ?_
  show (RS.done (exs (callN P gl k) gl f_rises.body [some (.fz (.tup ds)), none, none] S)).wp _ _
  unfold f_rises
  have hc := cut1 ds
  have hz := zip_typed ds (ds.drop 1)
  walk_at "eng*"
  refine wp_compM (fun p : D × D => D.tup [p.1, p.2]) (fun p => .bl (lt p.1 p.2)) (fun _ => true) (ds.zip (ds.drop 1)) [some (.fz (.tup ds)), none, none] rfl rfl rfl (by rw [List.length_zip]; have := big; omega) (fun p hp => ⟨[some (.fz (.tup ds)), some (.fz p.1), some (.fz p.2)], rfl, ⟨rfl, rfl, rfl⟩, fun _ => ?_, rfl⟩) ?_
  · obtain ⟨r1, r2⟩ := hr p hp
    have hq := h p hp
    clear h hr hc hz
    walk_at "eng*"
    exact ⟨trivial, trivial, trivial⟩
  · rw [filt1]
    have ha := all_map2 (fun p : D × D => lt p.1 p.2) (ds.zip (ds.drop 1))
    clear h hr hc hz
    walk_at "eng*"
    exact ⟨rfl, trivial⟩
end
end Al
end

section
/-! is_list, is_stamp, all_stamps of good books. -/
namespace Al
open PySem L2 Eng
open Fn
section
variable {P : Str → Option Df} {gl : Str → Option D} {S : Store} {n k : Nat}
theorem is_set (hP : HasLists P gl) (hn : 4 ≤ n) {e : Ser} (hw : wordB 1 (.str e.1) = true) (hl : e.1.length ≤ 8) (h : 1840 ≤ e.2.1 ∧ e.2.1 ≤ 2100 ∧ 1 ≤ e.2.2 ∧ e.2.2 ≤ 6) : callN P gl n "is_set" [serD e] S = .ok (.fz (.bl true)) S := by
  obtain ⟨k, rfl⟩ : ∃ k, n = k + 1 := ⟨n - 1, by omega⟩
  rw [callN_run hP.is_set rfl]
  refine RC.eq_of ?_
  show (RS.done (exs (callN P gl k) gl f_is_set.body [some (.fz (.tup [.str e.1, .int e.2.1, .int e.2.2]))] S)).wp _ _
  unfold f_is_set
  have w1 := is_word (gl := gl) (S := S) hP (n := k) (by omega) (d := .str e.1) (decide_eq_true (by omega)) (least := 1)
  rw [hw] at w1
  have w2 := is_from (gl := gl) (S := S) hP.toHasFrom (n := k) (by omega) (d := .int e.2.1) rfl (lo := 1840) (hi := 2100)
  have w3 := is_from (gl := gl) (S := S) hP.toHasFrom (n := k) (by omega) (d := .int e.2.2) rfl (lo := 1) (hi := 6)
  have t2 : fromD 1840 2100 (.int e.2.1) = true := by simp [fromD, h.1, h.2.1]
  have t3 : fromD 1 6 (.int e.2.2) = true := by simp [fromD]; omega
  rw [t2] at w2; rw [t3] at w3
  have g1 := hP.g1
  have g2 := hP.g2
  have g4 := hP.g4
  have l3 : (((([D.str e.1, .int e.2.1, .int e.2.2] : List D).length : Nat) : Int) == 3) = true := rfl
  clear hw hl h t2 t3
  walk_at "eng*"
  exact ⟨trivial, trivial⟩
theorem cut2 (x y z : D) : cutD [x, y, z] none (some 2) = [x, y] := rfl
theorem zip_mem {ds : List D} {p : D × D} (h : p ∈ ds.zip (ds.drop 1)) : p.1 ∈ ds ∧ p.2 ∈ ds := ⟨(List.of_mem_zip h).1, List.mem_of_mem_drop (List.of_mem_zip h).2⟩
theorem lt_hd (e f : Ser) : cmpD .lt (hdD e) (hdD f) = some (D.ltb (hdD e) (hdD f)) := rfl
theorem is_list (hP : HasLists P gl) (hn : 5 ≤ n) {b : Book} (h : GoodBook b) : callN P gl n "is_list" [.tup (b.map serD)] S = .ok (.fz (.bl true)) S := by
  obtain ⟨k, rfl⟩ : ∃ k, n = k + 1 := ⟨n - 1, by omega⟩
  rw [callN_run hP.is_list rfl]
  refine RC.eq_of ?_
  show (RS.done (exs (callN P gl k) gl f_is_list.body [some (.fz (.tup (b.map serD))), none] S)).wp _ _
  unfold f_is_list
  have g3 := hP.g3
  have l1 := h.len1
  have l4 := h.len4
  have hl : bltD .len [.tup (b.map serD)] = some (.fz (.int b.length)) := by show some (Val.fz (D.int (b.map serD).length)) = _; rw [List.length_map]
  have c1 : decide ((1 : Int) ≤ (b.length : Int)) = true := decide_eq_true (by omega)
  have c2 : decide ((b.length : Int) ≤ 4) = true := decide_eq_true (by omega)
  walk_at "eng*"
  refine wp_compM serD (fun _ => .bl true) (fun _ => true) b [some (.fz (.tup (b.map serD))), none] rfl rfl rfl (by have := big; omega) (fun e he => ⟨[some (.fz (.tup (b.map serD))), some (.fz (serD e))], rfl, ⟨rfl, rfl, rfl⟩, fun _ => ?_, rfl⟩) ?_
  · have hs := h.ser e he
    have w := is_set (gl := gl) (S := S) hP (n := k) (by omega) hs.1 hs.2.1 hs.2.2
    clear hs g3 hl c1 c2
    walk_at "eng*"
    exact ⟨trivial, trivial, trivial⟩
  · rw [filt1]
    have ha := all_map2 (fun _ : Ser => true) b
    have hb : (b.all fun _ => true) = true := by simp
    rw [hb] at ha
    clear hl c1 c2 hb g3
    walk_at "eng*"
    refine wp_compM serD hdD (fun _ => true) b [some (.fz (.tup (b.map serD))), none] rfl rfl rfl (by have := big; omega) (fun e he => ⟨[some (.fz (.tup (b.map serD))), some (.fz (.tup [.str e.1, .int e.2.1, .int e.2.2]))], rfl, ⟨rfl, rfl, rfl⟩, fun _ => ?_, rfl⟩) ?_
    · have hc := cut2 (.str e.1) (.int e.2.1) (.int e.2.2)
      clear ha
      walk_at "eng*"
      exact ⟨rfl, trivial, trivial⟩
    · rw [filt1]
      have hr := rises_l (gl := gl) (S := S) hP (n := k) (by omega) (ds := b.map hdD) (by rw [List.length_map]; omega) (lt := D.ltb) (fun p hp => by
        obtain ⟨a1, a2⟩ := zip_mem hp
        obtain ⟨e, _, e1⟩ := List.mem_map.mp a1
        obtain ⟨f, _, e2⟩ := List.mem_map.mp a2
        rw [← e1, ← e2]; exact lt_hd e f) (fun p hp => by
        obtain ⟨a1, a2⟩ := zip_mem hp
        obtain ⟨e, _, e1⟩ := List.mem_map.mp a1
        obtain ⟨f, _, e2⟩ := List.mem_map.mp a2
        rw [← e1, ← e2]; exact ⟨rfl, rfl⟩)
      rw [adj_up h.up] at hr
      clear ha
      walk_at "eng*"
      exact ⟨trivial, trivial⟩
theorem book_at {b : Book} {p : Nat} (hp : p < b.length) : subD (.tup (b.map serD)) (.int p) = some (serD (b.getD p e0)) := by
  refine atD_nat rfl ?_
  rw [List.getElem?_map, List.getElem?_eq_getElem hp, List.getD_eq_getElem?_getD, List.getElem?_eq_getElem hp]; rfl
theorem is_place (hP : HasLists P gl) (hn : 3 ≤ n) {b : Book} {p q : Nat} (h1 : p < b.length) (h2 : q < (b.getD p e0).2.2) : callN P gl n "is_place" [.tup (b.map serD), .tup [.int p, .int q]] S = .ok (.fz (.bl true)) S := by
  obtain ⟨k, rfl⟩ : ∃ k, n = k + 1 := ⟨n - 1, by omega⟩
  rw [callN_run hP.is_place rfl]
  refine RC.eq_of ?_
  show (RS.done (exs (callN P gl k) gl f_is_place.body [some (.fz (.tup (b.map serD))), some (.fz (.tup [.int p, .int q]))] S)).wp _ _
  unfold f_is_place
  have hl : bltD .len [.tup (b.map serD)] = some (.fz (.int b.length)) := by show some (Val.fz (D.int (b.map serD).length)) = _; rw [List.length_map]
  have hs : atD (b.map serD) (p : Int) = some (.tup [.str (b.getD p e0).1, .int (b.getD p e0).2.1, .int (b.getD p e0).2.2]) := book_at h1
  have w2 := is_from (gl := gl) (S := S) hP.toHasFrom (n := k) (by omega) (d := .int p) rfl (lo := 0) (hi := (b.length : Int) - 1)
  have w3 := is_from (gl := gl) (S := S) hP.toHasFrom (n := k) (by omega) (d := .int q) rfl (lo := 0) (hi := ((b.getD p e0).2.2 : Int) - 1)
  have t2 : fromD 0 ((b.length : Int) - 1) (.int p) = true := by simp [fromD]; omega
  have t3 : fromD 0 (((b.getD p e0).2.2 : Int) - 1) (.int q) = true := by simp only [fromD, Bool.and_eq_true, decide_eq_true_eq]; omega
  rw [t2] at w2; rw [t3] at w3
  have l3 : (((([D.int p, .int q] : List D).length : Nat) : Int) == 2) = true := rfl
  clear h1 h2 t2 t3
  walk_at "eng*"
  exact ⟨trivial, trivial⟩
theorem is_stamp (hP : HasLists P gl) (hn : 4 ≤ n) {b : Book} {s : Stm} (h : okS b s) : callN P gl n "is_stamp" [.tup (b.map serD), stD s] S = .ok (.fz (.bl true)) S := by
  obtain ⟨k, rfl⟩ : ∃ k, n = k + 1 := ⟨n - 1, by omega⟩
  rw [callN_run hP.is_stamp rfl]
  refine RC.eq_of ?_
  show (RS.done (exs (callN P gl k) gl f_is_stamp.body [some (.fz (.tup (b.map serD))), some (.fz (.tup [.int s.1, .int s.2.1, .int s.2.2]))] S)).wp _ _
  unfold f_is_stamp
  have w := is_place (gl := gl) (S := S) hP (n := k) (by omega) h.1 h.2.1
  have w3 := is_from (gl := gl) (S := S) hP.toHasFrom (n := k) (by omega) (d := .int s.2.2) rfl (lo := 0) (hi := 1)
  have t3 : fromD 0 1 (.int s.2.2) = true := by have := h.2.2; simp only [fromD, Bool.and_eq_true, decide_eq_true_eq]; omega
  rw [t3] at w3
  have hc := cut2 (.int s.1) (.int s.2.1) (.int s.2.2)
  have l3 : (((([D.int s.1, .int s.2.1, .int s.2.2] : List D).length : Nat) : Int) == 3) = true := rfl
  clear h t3
  walk_at "eng*"
  exact ⟨trivial, trivial⟩
structure HasNeed (P : Str → Option Df) : Prop where
  need_stamp : P "need_stamp" = some f_need_stamp
  need_number : P "need_number" = some f_need_number
theorem need_stamp (hP : HasLists P gl) (hN : HasNeed P) (hn : 5 ≤ n) {b : Book} {s : Stm} (h : okS b s) : callN P gl n "need_stamp" [.tup (b.map serD), stD s] S = .ok (.fz .non) S := by
  obtain ⟨k, rfl⟩ : ∃ k, n = k + 1 := ⟨n - 1, by omega⟩
  rw [callN_run hN.need_stamp rfl]
  refine RC.eq_of ?_
  show (RS.done (exs (callN P gl k) gl f_need_stamp.body [some (.fz (.tup (b.map serD))), some (.fz (stD s))] S)).wp _ _
  unfold f_need_stamp
  have w := is_stamp (gl := gl) (S := S) hP (n := k) (by omega) h
  walk_at "eng*"
  exact ⟨trivial, trivial⟩
theorem need_number (hP : HasLists P gl) (hN : HasNeed P) (hn : 2 ≤ n) {i lo : Int} (h : lo ≤ i) : callN P gl n "need_number" [.int i, .int lo] S = .ok (.fz .non) S := by
  obtain ⟨k, rfl⟩ : ∃ k, n = k + 1 := ⟨n - 1, by omega⟩
  rw [callN_run hN.need_number rfl]
  refine RC.eq_of ?_
  show (RS.done (exs (callN P gl k) gl f_need_number.body [some (.fz (.int i)), some (.fz (.int lo))] S)).wp _ _
  unfold f_need_number
  have w : callN P gl k "is_whole" [.int i] S = .ok (.fz (.bl true)) S := is_whole (gl := gl) (S := S) hP.toHasFrom (n := k) (by omega) (d := .int i) rfl
  have c : decide (i < lo) = false := decide_eq_false (by omega)
  clear h
  walk_at "eng*"
  exact ⟨trivial, trivial⟩
/-! ### all places, all stamps -/
def placesTo (b : Book) (i : Nat) : List (Nat × Nat) := (List.range i).flatMap fun p => (List.range (b.getD p e0).2.2).map fun q => (p, q)
theorem placesTo_succ (b : Book) (i : Nat) : placesTo b (i + 1) = placesTo b i ++ (List.range (b.getD i e0).2.2).map fun q => (i, q) := by
  unfold placesTo
  rw [List.range_succ, List.flatMap_append]; simp
theorem placesTo_len {b : Book} (h : GoodBook b) {i : Nat} (hi : i ≤ b.length) : (placesTo b i).length ≤ 6 * i := by
  induction i with
  | zero => simp [placesTo]
  | succ i ih =>
    rw [placesTo_succ, List.length_append, List.length_map, List.length_range]
    have := ih (by omega)
    have := (h.many (p := i) (by omega)).2
    omega
theorem all_places (hP : HasLists P gl) (hn : 1 ≤ n) {b : Book} (h : GoodBook b) : callN P gl n "all_places" [.tup (b.map serD)] S = .ok (.own (.lst ((places b).map plD))) S := by
  obtain ⟨k, rfl⟩ : ∃ k, n = k + 1 := ⟨n - 1, by omega⟩
  rw [callN_run hP.all_places rfl]
  refine RC.eq_of ?_
  show (RS.done (exs (callN P gl k) gl f_all_places.body [some (.fz (.tup (b.map serD))), none, none, none, none, none, none] S)).wp _ _
  unfold f_all_places
  have he := enumD_map serD b e0
  have hb := big
  walk_at "eng*"
  refine wp_loopM (fun i : Nat => D.tup [.int (i : Nat), serD (b.getD i e0)]) (fun i fr T => T = S ∧ ∃ x y z w, fr = [some (.fz (.tup (b.map serD))), some (.own (.lst ((placesTo b i).map plD))), x, y, z, w, none]) ⟨rfl, none, none, none, none, rfl⟩ ?_ ?_
  · rintro i p fr T hi ⟨rfl, x, y, z, w, rfl⟩
    obtain ⟨hi1, hi2⟩ := List.getElem?_eq_some_iff.mp hi
    rw [List.length_range] at hi1
    rw [List.getElem_range] at hi2
    subst hi2
    refine ⟨[some (.fz (.tup (b.map serD))), some (.own (.lst ((placesTo b i).map plD))), some (.fz (.int (i : Nat))), some (.fz (.str (b.getD i e0).1)), some (.fz (.int (b.getD i e0).2.1)), some (.fz (.int (b.getD i e0).2.2)), none], rfl, ?_⟩
    have hm := h.many hi1
    have hr : kRng1 (.int ((b.getD i e0).2.2 : Int)) [some (.fz (.tup (b.map serD))), some (.own (.lst ((placesTo b i).map plD))), some (.fz (.int (i : Nat))), some (.fz (.str (b.getD i e0).1)), some (.fz (.int (b.getD i e0).2.1)), some (.fz (.int (b.getD i e0).2.2)), none] T = .ok ((List.range (b.getD i e0).2.2).map fun q : Nat => D.int (q : Nat)) [some (.fz (.tup (b.map serD))), some (.own (.lst ((placesTo b i).map plD))), some (.fz (.int (i : Nat))), some (.fz (.str (b.getD i e0).1)), some (.fz (.int (b.getD i e0).2.1)), some (.fz (.int (b.getD i e0).2.2)), none] T := kRng1_nat (by omega)
    clear he
    walk_at "eng*"
    refine wp_compM (fun q : Nat => D.int (q : Nat)) (fun q => plD (i, q)) (fun _ => true) (List.range (b.getD i e0).2.2) _ rfl rfl rfl (by rw [List.length_range]; omega) (fun q hq => ⟨[some (.fz (.tup (b.map serD))), some (.own (.lst ((placesTo b i).map plD))), some (.fz (.int (i : Nat))), some (.fz (.str (b.getD i e0).1)), some (.fz (.int (b.getD i e0).2.1)), some (.fz (.int (b.getD i e0).2.2)), some (.fz (.int (q : Nat)))], rfl, ⟨rfl, rfl, rfl⟩, fun _ => ?_, rfl⟩) ?_
    · clear hr
      walk_at "eng*"
      exact ⟨rfl, trivial, trivial⟩
    · rw [filt1]
      have hx : ∀ fr : Eng.Frame, fr[1]? = some (some (.own (.lst ((placesTo b i).map plD)))) → extX 1 (.lst ((List.range (b.getD i e0).2.2).map fun q => plD (i, q))) fr T = .nx (fr.set 1 (some (.own (.lst ((placesTo b (i + 1)).map plD))))) T := by
        intro fr hf
        unfold extX
        simp only [hf]
        rw [if_pos (by have := placesTo_len h (i := i) (by omega); have := h.len4; rw [List.length_map, List.length_map, List.length_range]; omega), placesTo_succ, List.map_append, List.map_map]; rfl
      have hx := hx [some (.fz (.tup (b.map serD))), some (.own (.lst ((placesTo b i).map plD))), some (.fz (.int (i : Nat))), some (.fz (.str (b.getD i e0).1)), some (.fz (.int (b.getD i e0).2.1)), some (.fz (.int (b.getD i e0).2.2)), none] rfl
      clear hr
      walk_at "eng*"
      exact ⟨trivial, _, _, _, _, rfl⟩
  · rintro fr T ⟨rfl, x, y, z, w, rfl⟩
    rw [List.length_range]
    clear he
    walk_at "eng*"
    exact ⟨rfl, trivial⟩
theorem plus_tup (p : Nat × Nat) (g : Nat) : binD .add (plD p) (.tup [.int g]) = some (.fz (stD (p.1, p.2, g))) := by
  exact if_pos (e := none) (by have := big; show 2 + 1 ≤ sizeLine; omega)
def stampsTo (b : Book) (i : Nat) : List Stm := ((places b).take i).flatMap fun p => [(p.1, p.2, 0), (p.1, p.2, 1)]
theorem stampsTo_succ (b : Book) {i : Nat} {p : Nat × Nat} (h : (places b)[i]? = some p) : stampsTo b (i + 1) = stampsTo b i ++ [(p.1, p.2, 0), (p.1, p.2, 1)] := by
  unfold stampsTo
  obtain ⟨hi, rfl⟩ := List.getElem?_eq_some_iff.mp h
  rw [List.take_add_one, List.getElem?_eq_getElem hi, List.flatMap_append]
  simp
theorem stampsTo_len (b : Book) (i : Nat) : (stampsTo b i).length ≤ 2 * (places b).length := by
  unfold stampsTo
  rw [List.length_flatMap]
  have := sum_le (fun p : Nat × Nat => [(p.1, p.2, 0), (p.1, p.2, 1)].length) 2 ((places b).take i) (fun p hp => Nat.le_refl _)
  rw [List.length_take] at this
  omega
theorem all_stamps (hP : HasLists P gl) (hn : 2 ≤ n) {b : Book} (h : GoodBook b) : callN P gl n "all_stamps" [.tup (b.map serD)] S = .ok (.own (.lst ((stamps b).map stD))) S := by
  obtain ⟨k, rfl⟩ : ∃ k, n = k + 1 := ⟨n - 1, by omega⟩
  rw [callN_run hP.all_stamps rfl]
  refine RC.eq_of ?_
  show (RS.done (exs (callN P gl k) gl f_all_stamps.body [some (.fz (.tup (b.map serD))), none, none] S)).wp _ _
  unfold f_all_stamps
  have hb := big
  have w := all_places (gl := gl) (S := S) hP (n := k) (by omega) h
  walk_at "eng*"
  refine wp_loopM plD (fun i fr T => T = S ∧ ∃ x, fr = [some (.fz (.tup (b.map serD))), some (.own (.lst ((stampsTo b i).map stD))), x]) ⟨rfl, none, rfl⟩ ?_ ?_
  · rintro i p fr T hi ⟨rfl, x, rfl⟩
    refine ⟨[some (.fz (.tup (b.map serD))), some (.own (.lst ((stampsTo b i).map stD))), some (.fz (plD p))], rfl, ?_⟩
    have p0 : binD .add (plD p) (.tup [.int 0]) = some (.fz (stD (p.1, p.2, 0))) := plus_tup p 0
    have p1 : binD .add (plD p) (.tup [.int 1]) = some (.fz (stD (p.1, p.2, 1))) := plus_tup p 1
    have lk : look T (plD p) = plD p := rfl
    have hx : ∀ fr : Eng.Frame, fr[1]? = some (some (.own (.lst ((stampsTo b i).map stD)))) → extX 1 (.lst [stD (p.1, p.2, 0), stD (p.1, p.2, 1)]) fr T = .nx (fr.set 1 (some (.own (.lst ((stampsTo b (i + 1)).map stD))))) T := by
      intro fr hf
      unfold extX
      simp only [hf]
      rw [if_pos (by have := stampsTo_len b i; have := places_len h; simp; omega), stampsTo_succ b hi, List.map_append]; rfl
    have hx := hx [some (.fz (.tup (b.map serD))), some (.own (.lst ((stampsTo b i).map stD))), some (.fz (plD p))] rfl
    clear w hi
    walk_at "eng*"
    exact ⟨trivial, _, rfl⟩
  · rintro fr T ⟨rfl, x, rfl⟩
    have e : stampsTo b (places b).length = stamps b := by unfold stampsTo stamps; rw [List.take_length]
    rw [e]
    clear w
    walk_at "eng*"
    exact ⟨trivial, trivial⟩
end
end Al
end

section
/-! Albums in the store: counts, how they stand, how they stay. -/
namespace Al
open PySem L2 Eng Fn
theorem nodup_len {α : Type} [DecidableEq α] : ∀ {a b : List α}, a.Nodup → (∀ x ∈ a, x ∈ b) → a.length ≤ b.length
  | [], _, _, _ => Nat.zero_le _
  | x :: a, b, hn, h => by
    have hn' := List.nodup_cons.mp hn
    have hx := h x (List.mem_cons_self ..)
    have := nodup_len (a := a) (b := b.erase x) hn'.2 (fun y hy => by
      have hne : y ≠ x := fun e => hn'.1 (e ▸ hy)
      exact (List.mem_erase_of_ne hne).mpr (h y (List.mem_cons_of_mem _ hy)))
    rw [List.length_erase_of_mem hx] at this
    have : 0 < b.length := List.length_pos_of_mem hx
    simp only [List.length_cons]; omega
/-- a dict that tells how many there are of each stamp -/
structure Cnt (b : Book) (ks : List (List Key)) (vs : List D) (c : Stm → Int) : Prop where
  len : ks.length = vs.length
  nd : ks.Nodup
  key : ∀ k ∈ ks, ∃ s, okS b s ∧ k = stK s
  get : ∀ s, (findK ks vs (stK s)).getD (.int 0) = .int (c s)
  nn : ∀ s, 0 ≤ c s
def upd (c : Stm → Int) (s : Stm) (m : Int) : Stm → Int := fun t => if t = s then c t + m else c t
theorem Cnt.empty (b : Book) : Cnt b [] [] fun _ => 0 := ⟨rfl, List.nodup_nil, fun k hk => (nomatch hk), fun _ => rfl, fun _ => Int.le_refl _⟩
section
variable {b : Book} {ks : List (List Key)} {vs : List D} {c : Stm → Int}
theorem Cnt.short (h : Cnt b ks vs c) (hb : GoodBook b) : ks.length ≤ 48 := by
  have := nodup_len (b := (stamps b).map stK) h.nd (fun k hk => by
    obtain ⟨s, hs, rfl⟩ := h.key k hk
    exact List.mem_map.mpr ⟨s, mem_stamps.mpr hs, rfl⟩)
  rw [List.length_map] at this
  have := stamps_len hb
  omega
theorem Cnt.put (h : Cnt b ks vs c) {s : Stm} (hs : okS b s) {m : Int} (hm : 0 ≤ m) : Cnt b (putKs ks (stK s)) (putVs ks vs (stK s) (.int (c s + m))) (upd c s m) := by
  refine ⟨(put_len h.len _ _).1, ?_, ?_, ?_, ?_⟩
  · unfold putKs
    split
    · exact h.nd
    · rename_i e
      rw [List.nodup_append]
      exact ⟨h.nd, by simp, fun x hx y hy => by rw [List.mem_singleton] at hy; subst hy; exact fun e2 => e (e2 ▸ hx)⟩
  · intro k hk
    unfold putKs at hk
    split at hk
    · exact h.key k hk
    · rcases List.mem_append.mp hk with hk | hk
      · exact h.key k hk
      · rw [List.mem_singleton] at hk; exact ⟨s, hs, hk⟩
  · intro t
    rw [findK_put h.len]
    unfold upd
    by_cases e : t = s
    · subst e; rw [if_pos rfl, if_pos rfl]; rfl
    · rw [if_neg (fun q => e (stK_inj q)), if_neg e]; exact h.get t
  · intro t
    unfold upd
    have := h.nn t
    split <;> omega
theorem Cnt.out (h : Cnt b ks vs c) {s : Stm} (hs : stK s ∉ ks) : c s = 0 := by
  have := h.get s
  have e : findK ks vs (stK s) = none := by
    cases q : findK ks vs (stK s) with
    | none => rfl
    | some v => exact absurd ((findK_mem _ h.len).mp (by rw [q]; rfl)) hs
  rw [e] at this
  have this : D.int 0 = D.int (c s) := this
  injection this with this
  exact this.symm
theorem Cnt.okS (h : Cnt b ks vs c) {s : Stm} (hs : 0 < c s) : Al.okS b s := by
  by_cases e : stK s ∈ ks
  · obtain ⟨t, ht, e2⟩ := h.key _ e
    rw [stK_inj e2]; exact ht
  · have := h.out e; omega
theorem Cnt.mem (h : Cnt b ks vs c) {s : Stm} (hs : 0 < c s) : stK s ∈ ks := by
  by_cases e : stK s ∈ ks
  · exact e
  · have := h.out e; omega
theorem Cnt.find (h : Cnt b ks vs c) {s : Stm} (hs : stK s ∈ ks) : findK ks vs (stK s) = some (.int (c s)) := by
  have h1 := (findK_mem (stK s) h.len).mpr hs
  have h2 := h.get s
  cases q : findK ks vs (stK s) with
  | none => rw [q] at h1; cases h1
  | some v => rw [q] at h2; exact congrArg some h2
theorem Cnt.get2 (h : Cnt b ks vs c) (s : Stm) : (dgetD (.dit ks vs) (stD s)).map (fun o => Val.fz (o.getD (.int 0))) = some (.fz (.int (c s))) := by
  show some (Val.fz ((findK ks vs (stK s)).getD (.int 0))) = _
  rw [h.get]
theorem Cnt.sub (h : Cnt b ks vs c) {s : Stm} (hs : stK s ∈ ks) : subD (.dit ks vs) (stD s) = some (.int (c s)) := h.find hs
theorem Cnt.congr {c' : Stm → Int} (h : Cnt b ks vs c) (e : ∀ s, c s = c' s) : Cnt b ks vs c' := by
  have : c = c' := funext e
  rw [← this]; exact h
end
abbrev flds : List Str := ["sets", "name", "many"]
/-- an album stands at n, its dict at k -/
structure AlbumAt (S : Store) (n k : Nat) (b : Book) (nm : Str) (c : Stm → Int) : Prop where
  at_ : S[n]? = some (.ins "Album" flds [.tup (b.map serD), .str nm, .ref k])
  dict : ∃ ks vs, S[k]? = some (.dT ks vs) ∧ Cnt b ks vs c
structure GoodA (b : Book) (nm : Str) : Prop where
  book : GoodBook b
  word : wordB 0 (.str nm) = true
  short : nm.length ≤ 8
/-- nothing that stood is changed -/
structure Grow (S T : Store) : Prop where
  le : S.length ≤ T.length
  old : ∀ i, i < S.length → T[i]? = S[i]?
theorem Grow.refl (S : Store) : Grow S S := ⟨Nat.le_refl _, fun _ _ => rfl⟩
theorem Grow.trans {S T U : Store} (a : Grow S T) (b : Grow T U) : Grow S U := ⟨Nat.le_trans a.le b.le, fun i hi => (b.old i (Nat.lt_of_lt_of_le hi a.le)).trans (a.old i hi)⟩
theorem Grow.app (S : Store) (ce : Cell) : Grow S (S ++ [ce]) := ⟨by simp, fun i hi => List.getElem?_append_left hi⟩
/-- only the place k is changed -/
structure But (k : Nat) (S T : Store) : Prop where
  len : T.length = S.length
  old : ∀ i, i ≠ k → T[i]? = S[i]?
theorem But.grow {k : Nat} {S T U : Store} (a : Grow S T) (b : But k T U) (h : S.length ≤ k) : Grow S U := ⟨by rw [b.len]; exact a.le, fun i hi => (b.old i (by omega)).trans (a.old i hi)⟩
theorem lt_of_at {S : Store} {n : Nat} {ce : Cell} (h : S[n]? = some ce) : n < S.length := (List.getElem?_eq_some_iff.mp h).1
section
variable {S T : Store} {n k : Nat} {b : Book} {nm : Str} {c : Stm → Int}
theorem AlbumAt.lt (h : AlbumAt S n k b nm c) : n < S.length ∧ k < S.length := by
  obtain ⟨ks, vs, h2, _⟩ := h.dict
  exact ⟨lt_of_at h.at_, lt_of_at h2⟩
theorem AlbumAt.of (h : AlbumAt S n k b nm c) (h1 : T[n]? = S[n]?) (h2 : T[k]? = S[k]?) : AlbumAt T n k b nm c := by
  refine ⟨h1.trans h.at_, ?_⟩
  obtain ⟨ks, vs, h3, h4⟩ := h.dict
  exact ⟨ks, vs, h2.trans h3, h4⟩
theorem AlbumAt.grow (h : AlbumAt S n k b nm c) (g : Grow S T) : AlbumAt T n k b nm c := h.of (g.old _ h.lt.1) (g.old _ h.lt.2)
theorem AlbumAt.but (h : AlbumAt S n k b nm c) {j : Nat} (g : But j S T) (h1 : n ≠ j) (h2 : k ≠ j) : AlbumAt T n k b nm c := h.of (g.old _ h1) (g.old _ h2)
theorem AlbumAt.ne (h : AlbumAt S n k b nm c) : n ≠ k := fun e => by
  obtain ⟨ks, vs, h3, h4⟩ := h.dict
  have := h.at_
  rw [e, h3] at this; cases this
theorem AlbumAt.congr {c' : Stm → Int} (h : AlbumAt S n k b nm c) (e : ∀ s, c s = c' s) : AlbumAt S n k b nm c' := by
  have : c = c' := funext e
  rw [← this]; exact h
theorem AlbumAt.sets (h : AlbumAt S n k b nm c) : fldD S "Album" "sets" (.ref n) = some (.tup (b.map serD)) := by unfold fldD; simp only [h.at_]; rfl
theorem AlbumAt.name (h : AlbumAt S n k b nm c) : fldD S "Album" "name" (.ref n) = some (.str nm) := by unfold fldD; simp only [h.at_]; rfl
theorem AlbumAt.many (h : AlbumAt S n k b nm c) : fldD S "Album" "many" (.ref n) = some (.ref k) := by unfold fldD; simp only [h.at_]; rfl
theorem AlbumAt.ins (h : AlbumAt S n k b nm c) (m : Str) (hm : flds.contains m = false) : insOk S "Album" m (.ref n) = true := by unfold insOk; simp only [h.at_, hm]; rfl
theorem PenAt.lt {p : Nat} (h : PenAt S p) : p < S.length := by
  obtain ⟨_, _, _, _, h, _⟩ := h
  exact lt_of_at h
theorem PenAt.of {p : Nat} (h : PenAt S p) (e : T[p]? = S[p]?) : PenAt T p := by
  obtain ⟨x, y, z, w, h, r⟩ := h
  exact ⟨x, y, z, w, e.trans h, r⟩
theorem AlbumAt.pen (h : AlbumAt S n k b nm c) {p : Nat} (hp : PenAt S p) : n ≠ p ∧ k ≠ p := by
  obtain ⟨x, y, z, w, hp, _⟩ := hp
  obtain ⟨ks, vs, h3, h4⟩ := h.dict
  have h1 := h.at_
  constructor
  · rintro rfl; rw [hp] at h1; cases h1
  · rintro rfl; rw [hp] at h3; cases h3
theorem AlbumAt.moved (h : AlbumAt S n k b nm c) {p : Nat} (hp : PenAt S p) (m : Moved p S T) : AlbumAt T n k b nm c := h.of (m.other (h.pen hp).1.symm) (m.other (h.pen hp).2.symm)
end
theorem look_dT {S : Store} {k : Nat} {ks : List (List Key)} {vs : List D} (h : S[k]? = some (.dT ks vs)) : look S (.ref k) = .dit ks vs := by
  show lookC k S[k]? = _
  rw [h]; rfl
def allOf (b : Book) (c : Stm → Int) : List D := ((stamps b).filter fun s => decide (0 < c s)).map fun s => .tup [stD s, .int (c s)]
def cnt (xs : List Stm) (s : Stm) : Int := ((xs.count s : Nat) : Int)
theorem setf_at {S : Store} {n : Nat} {c f : Str} {ns : List Str} {vs : List D} {d : D} {fr : Eng.Frame} (h : S[n]? = some (.ins c ns vs)) (hl : ns.length < 100) : setfX c f (.ref n) d fr S = .nx fr (S.set n (.ins c (fldPutN ns f) (fldPutV ns vs f d))) := by
  unfold setfX; simp only [h, true_and]; rw [if_pos hl]
theorem setrd_at {S : Store} {k : Nat} {ks : List (List Key)} {vs : List D} {s : Stm} {d : D} {fr : Eng.Frame} (h : S[k]? = some (.dT ks vs)) (hl : ks.length ≤ 48) : setrdX (.ref k) (stD s) d fr S = .nx fr (S.set k (.dT (putKs ks (stK s)) (putVs ks vs (stK s) d))) := by
  unfold setrdX; simp only [h, key_st]; rw [if_pos (by have := big; omega)]
end Al
end

section
/-! The class Album: how it is made, put, all_of, count_of, twin. -/
namespace Al
open PySem L2 Eng
def f_are_stamps : Df := ⟨"are_stamps", 2, 3, (.cons (.cond (.cmpl .isN 1 (.con .non)) (.cons (.ret (.con (.bl true))) .nil) .nil) (.cons (.ret (.and (.isi .tuple (.var 1)) (.blt .all (.cons (.comp (.call "is_stamp" (.cons (.var 0) (.cons (.var 2) .nil))) (.nm 2) (.seq (.var 1)) .nil) .nil)))) .nil)), []⟩
def f_Album__init_ : Df := ⟨"Album.__init__", 4, 5, (.cons (.cond (.not (.call "is_list" (.cons (.var 1) .nil))) (.cons (.raise "NoList") .nil) .nil) (.cons (.cond (.not (.call "is_word" (.cons (.var 2) (.cons (.con (.int 0)) .nil)))) (.cons (.raise "NoName") .nil) .nil) (.cons (.cond (.not (.call "are_stamps" (.cons (.var 1) (.cons (.var 3) .nil)))) (.cons (.raise "NoStamps") .nil) .nil) (.cons (.setf "Album" "sets" (.var 0) (.var 1)) (.cons (.setf "Album" "name" (.var 0) (.var 2)) (.cons (.setf "Album" "many" (.var 0) (.dic0 true)) (.cons (.loop (.nm 4) (.seq (.orv (.var 3) (.tup .nil))) (.cons (.setrd (.fld "Album" "many" (.var 0)) (.var 4) (.bin .add (.mth .get2 (.fld "Album" "many" (.var 0)) (.cons (.var 4) (.cons (.con (.int 0)) .nil))) (.con (.int 1)))) .nil)) .nil))))))), [.str "", .non]⟩
def f_Album_put : Df := ⟨"Album.put", 3, 3, (.cons (.exp (.call "need_stamp" (.cons (.fld "Album" "sets" (.var 0)) (.cons (.var 1) .nil)))) (.cons (.exp (.call "need_number" (.cons (.var 2) (.cons (.con (.int 1)) .nil)))) (.cons (.setrd (.fld "Album" "many" (.var 0)) (.var 1) (.bin .add (.mth .get2 (.fld "Album" "many" (.var 0)) (.cons (.var 1) (.cons (.con (.int 0)) .nil))) (.var 2))) .nil))), [.int 1]⟩
def f_Album_book : Df := ⟨"Album.book", 1, 1, (.cons (.ret (.fld "Album" "sets" (.var 0))) .nil), []⟩
def f_Album_called : Df := ⟨"Album.called", 1, 1, (.cons (.ret (.fld "Album" "name" (.var 0))) .nil), []⟩
def f_Album_count_of : Df := ⟨"Album.count_of", 2, 2, (.cons (.exp (.call "need_stamp" (.cons (.fld "Album" "sets" (.var 0)) (.cons (.var 1) .nil)))) (.cons (.ret (.mth .get2 (.fld "Album" "many" (.var 0)) (.cons (.var 1) (.cons (.con (.int 0)) .nil)))) .nil)), []⟩
def f_Album_all_of : Df := ⟨"Album.all_of", 1, 2, (.cons (.ret (.comp (.tup (.cons (.var 1) (.cons (.sub (.fld "Album" "many" (.var 0)) (.var 1)) .nil))) (.nm 1) (.seq (.call "all_stamps" (.cons (.fld "Album" "sets" (.var 0)) .nil))) (.cons (.cmp .gt (.mth .get2 (.fld "Album" "many" (.var 0)) (.cons (.var 1) (.cons (.con (.int 0)) .nil))) (.con (.int 0))) .nil))) .nil), []⟩
def f_Album_twin : Df := ⟨"Album.twin", 1, 4, (.cons (.set 1 (.make "Album" "Album.__init__" (.cons (.fld "Album" "sets" (.var 0)) (.cons (.fld "Album" "name" (.var 0)) .nil)))) (.cons (.loop (.tp (.cons (.nm 2) (.cons (.nm 3) .nil))) (.seq (.meth "Album" "all_of" "Album.all_of" (.var 0) .nil)) (.cons (.exp (.meth "Album" "put" "Album.put" (.var 1) (.cons (.var 2) (.cons (.var 3) .nil)))) .nil)) (.cons (.ret (.var 1)) .nil))), []⟩
open Fn
structure HasAlbum (P : Str → Option Df) (gl : Str → Option D) : Prop extends HasLists P gl, HasNeed P where
  are_stamps : P "are_stamps" = some f_are_stamps
  init : P "Album.__init__" = some f_Album__init_
  put : P "Album.put" = some f_Album_put
  book : P "Album.book" = some f_Album_book
  called : P "Album.called" = some f_Album_called
  count_of : P "Album.count_of" = some f_Album_count_of
  all_of : P "Album.all_of" = some f_Album_all_of
  twin : P "Album.twin" = some f_Album_twin
section
variable {P : Str → Option Df} {gl : Str → Option D} {S : Store} {n k a : Nat} {b : Book} {nm : Str} {c : Stm → Int}
theorem book (hP : HasAlbum P gl) (hn : 1 ≤ n) (h : AlbumAt S a k b nm c) : callN P gl n "Album.book" [.ref a] S = .ok (.fz (.tup (b.map serD))) S := by
  obtain ⟨n, rfl⟩ : ∃ m, n = m + 1 := ⟨n - 1, by omega⟩
  rw [callN_run hP.book rfl]
  refine RC.eq_of ?_
  show (RS.done (exs (callN P gl n) gl f_Album_book.body [some (.fz (.ref a))] S)).wp _ _
  unfold f_Album_book
  have f1 := h.sets
  walk_at "eng*"
  exact ⟨trivial, trivial⟩
theorem called (hP : HasAlbum P gl) (hn : 1 ≤ n) (h : AlbumAt S a k b nm c) : callN P gl n "Album.called" [.ref a] S = .ok (.fz (.str nm)) S := by
  obtain ⟨n, rfl⟩ : ∃ m, n = m + 1 := ⟨n - 1, by omega⟩
  rw [callN_run hP.called rfl]
  refine RC.eq_of ?_
  show (RS.done (exs (callN P gl n) gl f_Album_called.body [some (.fz (.ref a))] S)).wp _ _
  unfold f_Album_called
  have f1 := h.name
  walk_at "eng*"
  exact ⟨trivial, trivial⟩
theorem count_of (hP : HasAlbum P gl) (hn : 6 ≤ n) (h : AlbumAt S a k b nm c) {s : Stm} (hs : okS b s) : callN P gl n "Album.count_of" [.ref a, stD s] S = .ok (.fz (.int (c s))) S := by
  obtain ⟨n, rfl⟩ : ∃ m, n = m + 1 := ⟨n - 1, by omega⟩
  rw [callN_run hP.count_of rfl]
  refine RC.eq_of ?_
  show (RS.done (exs (callN P gl n) gl f_Album_count_of.body [some (.fz (.ref a)), some (.fz (stD s))] S)).wp _ _
  unfold f_Album_count_of
  have f1 := h.sets
  have f3 := h.many
  obtain ⟨ks, vs, hk, hc⟩ := h.dict
  have lk : look S (.ref k) = .dit ks vs := look_dT hk
  have hg := hc.get2 s
  have w := need_stamp (gl := gl) (S := S) hP.toHasLists hP.toHasNeed (n := n) (by omega) hs
  clear hk hc h hs
  walk_at "eng*"
  exact ⟨trivial, trivial⟩
theorem all_of (hP : HasAlbum P gl) (hn : 3 ≤ n) (hb : GoodBook b) (h : AlbumAt S a k b nm c) : callN P gl n "Album.all_of" [.ref a] S = .ok (.own (.lst (allOf b c))) S := by
  obtain ⟨n, rfl⟩ : ∃ m, n = m + 1 := ⟨n - 1, by omega⟩
  rw [callN_run hP.all_of rfl]
  refine RC.eq_of ?_
  show (RS.done (exs (callN P gl n) gl f_Album_all_of.body [some (.fz (.ref a)), none] S)).wp _ _
  unfold f_Album_all_of
  have f1 := h.sets
  have f3 := h.many
  obtain ⟨ks, vs, hk, hc⟩ := h.dict
  have lk : look S (.ref k) = .dit ks vs := look_dT hk
  have w := all_stamps (gl := gl) (S := S) hP.toHasLists (n := n) (by omega) hb
  walk_at "eng*"
  refine wp_compM stD (fun s => .tup [stD s, .int (c s)]) (fun s => decide (0 < c s)) (stamps b) [some (.fz (.ref a)), none] rfl rfl rfl (by have := stamps_len hb; have := big; omega) (fun s hs => ⟨[some (.fz (.ref a)), some (.fz (stD s))], rfl, ?_, fun hp => ?_, rfl⟩) ?_
  · have hg := hc.get2 s
    clear w hk hc h hs
    walk_at "eng*"
    exact ⟨trivial, trivial, trivial⟩
  · have hg := hc.sub (hc.mem (of_decide_eq_true hp))
    clear w hk hc h hs hp
    walk_at "eng*"
    exact ⟨trivial, trivial, trivial⟩
  · clear w hk hc h
    walk_at "eng*"
    exact ⟨rfl, trivial⟩
theorem put (hP : HasAlbum P gl) (hn : 6 ≤ n) (hb : GoodBook b) (h : AlbumAt S a k b nm c) {s : Stm} (hs : okS b s) {m : Int} (hm : 1 ≤ m) {C : Val → Store → Prop} {X : Ex → Store → Prop} (hC : ∀ T, But k S T → AlbumAt T a k b nm (upd c s m) → C (.fz .non) T) :
    (callN P gl n "Album.put" [.ref a, stD s, .int m] S).wp C X := by
  obtain ⟨n, rfl⟩ : ∃ m, n = m + 1 := ⟨n - 1, by omega⟩
  rw [callN_run hP.put rfl]
  show (RS.done (exs (callN P gl n) gl f_Album_put.body [some (.fz (.ref a)), some (.fz (stD s)), some (.fz (.int m))] S)).wp _ _
  unfold f_Album_put
  have f1 := h.sets
  have f3 := h.many
  obtain ⟨ks, vs, hk, hc⟩ := h.dict
  have lk : look S (.ref k) = .dit ks vs := look_dT hk
  have hg := hc.get2 s
  have w := need_stamp (gl := gl) (S := S) hP.toHasLists hP.toHasNeed (n := n) (by omega) hs
  have w2 := need_number (gl := gl) (S := S) hP.toHasLists hP.toHasNeed (n := n) (by omega) hm
  have st : ∀ fr, setrdX (.ref k) (stD s) (.int (c s + m)) fr S = .nx fr (S.set k (.dT (putKs ks (stK s)) (putVs ks vs (stK s) (.int (c s + m))))) := fun fr => setrd_at hk (hc.short hb)
  have fin := hC (S.set k (.dT (putKs ks (stK s)) (putVs ks vs (stK s) (.int (c s + m))))) ⟨List.length_set, fun i hi => List.getElem?_set_ne hi.symm⟩ ⟨by rw [List.getElem?_set_ne h.ne.symm]; exact h.at_, _, _, List.getElem?_set_self h.lt.2, hc.put hs (by omega)⟩
  clear hk hc h hs hm hC
  walk_at "eng*"
theorem put1 (hP : HasAlbum P gl) (x y : D) : callN P gl n "Album.put" [x, y] S = callN P gl n "Album.put" [x, y, .int 1] S := by
  cases n with
  | zero => rfl
  | succ n => rw [callN_run hP.put rfl, callN_run hP.put rfl]; rfl
theorem are_stamps (hP : HasAlbum P gl) (hn : 5 ≤ n) {xs : List Stm} (hx : ∀ s ∈ xs, okS b s) (hl : xs.length ≤ 100000) : callN P gl n "are_stamps" [.tup (b.map serD), .tup (xs.map stD)] S = .ok (.fz (.bl true)) S := by
  obtain ⟨n, rfl⟩ : ∃ m, n = m + 1 := ⟨n - 1, by omega⟩
  rw [callN_run hP.are_stamps rfl]
  refine RC.eq_of ?_
  show (RS.done (exs (callN P gl n) gl f_are_stamps.body [some (.fz (.tup (b.map serD))), some (.fz (.tup (xs.map stD))), none] S)).wp _ _
  unfold f_are_stamps
  have i0 : cmpD .isN (.tup (xs.map stD)) .non = some false := rfl
  walk_at "eng*"
  refine wp_compM stD (fun _ => .bl true) (fun _ => true) xs [some (.fz (.tup (b.map serD))), some (.fz (.tup (xs.map stD))), none] rfl rfl rfl (by have := big; omega) (fun s hs => ⟨[some (.fz (.tup (b.map serD))), some (.fz (.tup (xs.map stD))), some (.fz (stD s))], rfl, ⟨rfl, rfl, rfl⟩, fun _ => ?_, rfl⟩) ?_
  · have w := is_stamp (gl := gl) (S := S) hP.toHasLists (n := n) (by omega) (hx s hs)
    clear hx hs i0
    walk_at "eng*"
    exact ⟨trivial, trivial, trivial⟩
  · rw [filt1]
    have ha := all_map2 (fun _ : Stm => true) xs
    have hb : (xs.all fun _ => true) = true := by simp
    rw [hb] at ha
    clear hx i0 hb
    walk_at "eng*"
    exact ⟨trivial, trivial⟩
theorem are_stampsN (hP : HasAlbum P gl) (hn : 1 ≤ n) {x : D} : callN P gl n "are_stamps" [x, .non] S = .ok (.fz (.bl true)) S := by
  obtain ⟨n, rfl⟩ : ∃ m, n = m + 1 := ⟨n - 1, by omega⟩
  rw [callN_run hP.are_stamps rfl]
  refine RC.eq_of ?_
  show (RS.done (exs (callN P gl n) gl f_are_stamps.body [some (.fz x), some (.fz .non), none] S)).wp _ _
  unfold f_are_stamps
  have i0 : cmpD .isN .non .non = some true := rfl
  walk_at "eng*"
  exact ⟨trivial, trivial⟩
end
end Al
end

section
/-! Albums made, twins. -/
namespace Al
open PySem L2 Eng
open Fn
theorem cnt_zero (s : Stm) : cnt [] s = 0 := rfl
theorem cnt_take {xs : List Stm} {i : Nat} {s : Stm} (h : xs[i]? = some s) (t : Stm) : upd (cnt (xs.take i)) s 1 t = cnt (xs.take (i + 1)) t := by
  obtain ⟨hi, e⟩ := List.getElem?_eq_some_iff.mp h
  unfold upd cnt
  rw [List.take_add_one, h, List.count_append]
  simp only [Option.toList_some, List.count_singleton]
  by_cases q : t = s
  · subst q; simp
  · have : (s == t) = false := by simpa using fun e => q e.symm
    simp [q, this]
section
variable {P : Str → Option Df} {gl : Str → Option D} {S : Store} {n k a : Nat} {b : Book} {nm : Str} {c : Stm → Int}
theorem init_loop {cf : CF} (hb : GoodBook b) {st : D} (h : AlbumAt S a k b nm fun _ => 0) {xs : List Stm} (hx : ∀ s ∈ xs, okS b s) {N : Eng.Frame → Store → Prop} {R : Val → Eng.Frame → Store → Prop} {E : EK}
    (hN : ∀ fr T, But k S T → AlbumAt T a k b nm (cnt xs) → N fr T) :
    (loopGo (.nm 4) (exs cf gl (.cons (.setrd (.fld "Album" "many" (.var 0)) (.var 4) (.bin .add (.mth .get2 (.fld "Album" "many" (.var 0)) (.cons (.var 4) (.cons (.con (.int 0)) .nil))) (.con (.int 1)))) .nil)) (xs.map stD) [some (.fz (.ref a)), some (.fz (.tup (b.map serD))), some (.fz (.str nm)), some (.fz st), none] S).wp N R E := by
  refine wp_loopM stD (fun i fr T => But k S T ∧ AlbumAt T a k b nm (cnt (xs.take i)) ∧ ∃ x, fr = [some (.fz (.ref a)), some (.fz (.tup (b.map serD))), some (.fz (.str nm)), some (.fz st), x]) ⟨⟨rfl, fun _ _ => rfl⟩, h, none, rfl⟩ ?_ ?_
  · rintro i s fr T hi ⟨hB, hA, x, rfl⟩
    refine ⟨[some (.fz (.ref a)), some (.fz (.tup (b.map serD))), some (.fz (.str nm)), some (.fz st), some (.fz (stD s))], rfl, ?_⟩
    have hs := hx s (List.mem_of_getElem? hi)
    have f3 := hA.many
    obtain ⟨ks, vs, hk, hc⟩ := hA.dict
    have lk : look T (.ref k) = .dit ks vs := look_dT hk
    have hg := hc.get2 s
    have st : ∀ fr, setrdX (.ref k) (stD s) (.int (cnt (xs.take i) s + 1)) fr T = .nx fr (T.set k (.dT (putKs ks (stK s)) (putVs ks vs (stK s) (.int (cnt (xs.take i) s + 1))))) := fun fr => setrd_at hk (hc.short hb)
    have b2 : But k S (T.set k (.dT (putKs ks (stK s)) (putVs ks vs (stK s) (.int (cnt (xs.take i) s + 1))))) := ⟨by rw [List.length_set]; exact hB.len, fun i hi => by rw [List.getElem?_set_ne hi.symm]; exact hB.old i hi⟩
    have a2 : AlbumAt (T.set k (.dT (putKs ks (stK s)) (putVs ks vs (stK s) (.int (cnt (xs.take i) s + 1))))) a k b nm (cnt (xs.take (i + 1))) := ⟨by rw [List.getElem?_set_ne hA.ne.symm]; exact hA.at_, _, _, List.getElem?_set_self hA.lt.2, (hc.put hs (by omega)).congr (cnt_take hi)⟩
    clear hk hc hA hs hi hN hB hx h
    walk_at "eng*"
    exact ⟨trivial, trivial, _, rfl⟩
  · rintro fr T ⟨hB, hA, x, rfl⟩
    rw [List.take_length] at hA
    exact hN _ _ hB hA
/-- what is handed in as stamps -/
inductive StIn : D → List Stm → Prop
  | non : StIn .non []
  | some (xs : List Stm) : StIn (.tup (xs.map stD)) xs
theorem made_at (hP : HasAlbum P gl) (hn : 6 ≤ n) (hA : GoodA b nm) {st : D} {xs : List Stm} (hst : StIn st xs) (hx : ∀ s ∈ xs, okS b s) (hl : xs.length ≤ 100000) (ha : S[a]? = some (.ins "Album" [] [])) {C : Val → Store → Prop} {X : Ex → Store → Prop}
    (hC : ∀ T, T.length = S.length + 1 → (∀ i, i < S.length → i ≠ a → T[i]? = S[i]?) → AlbumAt T a S.length b nm (cnt xs) → C (.fz .non) T) :
    (callN P gl n "Album.__init__" [.ref a, .tup (b.map serD), .str nm, st] S).wp C X := by
  obtain ⟨n, rfl⟩ : ∃ m, n = m + 1 := ⟨n - 1, by omega⟩
  rw [callN_run hP.init rfl]
  show (RS.done (exs (callN P gl n) gl f_Album__init_.body [some (.fz (.ref a)), some (.fz (.tup (b.map serD))), some (.fz (.str nm)), some (.fz st), none] S)).wp _ _
  unfold f_Album__init_
  have w1 := is_list (gl := gl) (S := S) hP.toHasLists (n := n) (by omega) hA.book
  have w2 := is_word (gl := gl) (S := S) hP.toHasLists (n := n) (by omega) (d := .str nm) (decide_eq_true (by have := hA.short; omega)) (least := 0)
  rw [hA.word] at w2
  have w3 : callN P gl n "are_stamps" [.tup (b.map serD), st] S = .ok (.fz (.bl true)) S := by
    cases hst with
    | non => exact are_stampsN hP (by omega)
    | some => exact are_stamps hP (by omega) hx hl
  have al := lt_of_at ha
  have s1 : ∀ fr d, setfX "Album" "sets" (.ref a) d fr S = .nx fr (S.set a (.ins "Album" ["sets"] [d])) := fun fr d => setf_at ha (by decide)
  have s2 : ∀ fr d e, setfX "Album" "name" (.ref a) e fr (S.set a (.ins "Album" ["sets"] [d])) = .nx fr (S.set a (.ins "Album" ["sets", "name"] [d, e])) := fun fr d e => by
    rw [setf_at (List.getElem?_set_self al) (by decide), List.set_set]; rfl
  have s3 : ∀ fr d e f, setfX "Album" "many" (.ref a) f fr (S.set a (.ins "Album" ["sets", "name"] [d, e]) ++ [.dT [] []]) = .nx fr (S.set a (.ins "Album" flds [d, e, f]) ++ [.dT [] []]) := fun fr d e f => by
    rw [setf_at (by rw [List.getElem?_append_left (by rw [List.length_set]; exact al)]; exact List.getElem?_set_self al) (by decide), List.set_append_left _ _ (by rw [List.length_set]; exact al), List.set_set]; rfl
  have le : ∀ ce, (S.set a ce).length = S.length := fun ce => List.length_set
  have base : AlbumAt (S.set a (.ins "Album" flds [.tup (b.map serD), .str nm, .ref S.length]) ++ [.dT [] []]) a S.length b nm fun _ => 0 := ⟨by rw [List.getElem?_append_left (by rw [List.length_set]; exact al)]; exact List.getElem?_set_self al, [], [], by rw [List.getElem?_append_right (by rw [List.length_set]; omega), List.length_set, Nat.sub_self]; rfl, Cnt.empty b⟩
  have fin : ∀ fr T, But S.length (S.set a (.ins "Album" flds [.tup (b.map serD), .str nm, .ref S.length]) ++ [.dT [] []]) T → AlbumAt T a S.length b nm (cnt xs) → qN C fr T := fun fr T h1 h2 => hC T (by rw [h1.len, List.length_append, List.length_set]; rfl) (fun i hi hne => by rw [h1.old i (by omega), List.getElem?_append_left (by rw [List.length_set]; exact hi), List.getElem?_set_ne hne.symm]) h2
  have loop := fun st => init_loop (cf := callN P gl n) (gl := gl) (R := qR C) (E := qE X) (st := st) hA.book base hx fin
  clear base fin hx hl hC
  cases hst with
  | non =>
    have t0 : truD .non = some false := rfl
    have loop := loop .non
    have lk : look (S.set a (.ins "Album" flds [.tup (b.map serD), .str nm, .ref S.length]) ++ [.dT [] []]) .non = .non := rfl
    clear hA ha
    walk_at "eng*"
    exact loop
  | some =>
    have loop := loop (.tup (xs.map stD))
    cases xs with
    | nil =>
      have t0 : truD (.tup (([] : List Stm).map stD)) = some false := rfl
      clear hA ha
      walk_at "eng*"
      exact loop
    | cons x xs =>
      have t0 : truD (.tup ((x :: xs).map stD)) = some true := rfl
      clear hA ha
      walk_at "eng*"
      exact loop
theorem made (hP : HasAlbum P gl) (hn : 6 ≤ n) (hA : GoodA b nm) {st : D} {xs : List Stm} (hst : StIn st xs) (hx : ∀ s ∈ xs, okS b s) (hl : xs.length ≤ 100000) {C : Val → Store → Prop} {X : Ex → Store → Prop}
    (hC : ∀ T k, Grow S T → S.length ≤ k → AlbumAt T S.length k b nm (cnt xs) → C (.fz .non) T) :
    (callN P gl n "Album.__init__" [.ref S.length, .tup (b.map serD), .str nm, st] (S ++ [.ins "Album" [] []])).wp C X := by
  refine made_at hP hn hA hst hx hl (by rw [List.getElem?_append_right (Nat.le_refl _), Nat.sub_self]; rfl) fun T h1 h2 h3 => hC T _ ⟨by rw [h1, List.length_append]; omega, fun i hi => by rw [h2 i (by rw [List.length_append]; omega) (by omega), List.getElem?_append_left hi]⟩ (by rw [List.length_append]; omega) h3
theorem made2 (hP : HasAlbum P gl) (x y z : D) : callN P gl n "Album.__init__" [x, y, z] S = callN P gl n "Album.__init__" [x, y, z, .non] S := by
  cases n with
  | zero => rfl
  | succ n => rw [callN_run hP.init rfl, callN_run hP.init rfl]; rfl
theorem made1 (hP : HasAlbum P gl) (x y : D) : callN P gl n "Album.__init__" [x, y] S = callN P gl n "Album.__init__" [x, y, .str "", .non] S := by
  cases n with
  | zero => rfl
  | succ n => rw [callN_run hP.init rfl, callN_run hP.init rfl]; rfl
/-! ### stamps put one behind the other -/
def addL (d c : Stm → Int) (xs : List Stm) : Stm → Int := fun s => d s + if s ∈ xs then c s else 0
theorem addL_nil (d c : Stm → Int) (s : Stm) : d s = addL d c [] s := by unfold addL; simp
theorem addL_take {d c : Stm → Int} {xs : List Stm} (hn : xs.Nodup) {i : Nat} {s : Stm} (h : xs[i]? = some s) (t : Stm) : upd (addL d c (xs.take i)) s (c s) t = addL d c (xs.take (i + 1)) t := by
  obtain ⟨hi, e⟩ := List.getElem?_eq_some_iff.mp h
  have ht : xs.take (i + 1) = xs.take i ++ [s] := by rw [List.take_add_one, h]; rfl
  have hns : s ∉ xs.take i := by
    have : (xs.take (i + 1)).Nodup := hn.sublist (List.take_sublist _ _)
    rw [ht, List.nodup_append] at this
    exact fun q => this.2.2 s q s (List.mem_singleton.mpr rfl) rfl
  unfold upd addL
  rw [ht]
  by_cases q : t = s
  · subst q; simp [hns]
  · simp [q]
def pos (b : Book) (c : Stm → Int) : List Stm := (stamps b).filter fun s => decide (0 < c s)
theorem pos_nodup (b : Book) (c : Stm → Int) : (pos b c).Nodup := (stamps_nodup b).sublist List.filter_sublist
theorem pos_mem {b : Book} {c : Stm → Int} {s : Stm} (h : s ∈ pos b c) : okS b s ∧ 0 < c s := by
  obtain ⟨h1, h2⟩ := List.mem_filter.mp h
  exact ⟨mem_stamps.mp h1, of_decide_eq_true h2⟩
theorem AlbumAt.addL (h : AlbumAt S a k b nm c) (d : Stm → Int) (s : Stm) : Al.addL d c (pos b c) s = d s + c s := by
  obtain ⟨ks, vs, _, hc⟩ := h.dict
  unfold Al.addL
  split
  · rfl
  · rename_i e
    have : c s = 0 := by
      by_cases q : 0 < c s
      · exact absurd (List.mem_filter.mpr ⟨mem_stamps.mpr (hc.okS q), decide_eq_true q⟩) e
      · have := hc.nn s; omega
    rw [this]
theorem twin (hP : HasAlbum P gl) (hn : 7 ≤ n) (hA : GoodA b nm) (h : AlbumAt S a k b nm c) {C : Val → Store → Prop} {X : Ex → Store → Prop}
    (hC : ∀ T a' k', Grow S T → S.length ≤ a' → S.length ≤ k' → AlbumAt T a' k' b nm c → C (.fz (.ref a')) T) :
    (callN P gl n "Album.twin" [.ref a] S).wp C X := by
  obtain ⟨n, rfl⟩ : ∃ m, n = m + 1 := ⟨n - 1, by omega⟩
  rw [callN_run hP.twin rfl]
  show (RS.done (exs (callN P gl n) gl f_Album_twin.body [some (.fz (.ref a)), none, none, none] S)).wp _ _
  unfold f_Album_twin
  have f1 := h.sets
  have f2 := h.name
  have m2 := fun x y z => made2 (gl := gl) (n := n) (S := S ++ [.ins "Album" [] []]) hP x y z
  walk_at "eng*"
  refine made hP (by omega) hA .non (fun s hs => nomatch hs) (Nat.zero_le _) fun T k' hG hk hT => ?_
  have hTa := h.grow hG
  have i1 := hTa.ins "all_of" rfl
  have w := all_of (gl := gl) (n := n) hP (by omega) hA.book hTa
  clear f1 f2 m2
  walk_at "eng*"
  refine wp_loopM (fun s => D.tup [stD s, .int (c s)]) (xs := pos b c) (fun i fr U => Grow S U ∧ AlbumAt U S.length k' b nm (addL (fun _ => 0) c ((pos b c).take i)) ∧ ∃ x y, fr = [some (.fz (.ref a)), some (.fz (.ref S.length)), x, y]) ⟨hG, hT.congr (addL_nil _ _), none, none, rfl⟩ ?_ ?_
  · rintro i s fr U hi ⟨hU, hB, x, y, rfl⟩
    refine ⟨[some (.fz (.ref a)), some (.fz (.ref S.length)), some (.fz (stD s)), some (.fz (.int (c s)))], rfl, ?_⟩
    have hs := pos_mem (List.mem_of_getElem? hi)
    have i2 := hB.ins "put" rfl
    clear w i1
    walk_at "eng*"
    refine put hP (by omega) hA.book hB hs.1 (by omega) fun V hV hV2 => ?_
    have q1 := hV.grow hU hk
    have q2 := hV2.congr (addL_take (pos_nodup b c) hi)
    clear i2 hV hV2 hs
    walk_at "eng*"
    exact ⟨trivial, trivial, _, _, rfl⟩
  · rintro fr U ⟨hU, hB, x, y, rfl⟩
    rw [List.take_length] at hB
    have fin := hC U S.length k' hU (Nat.le_refl _) hk (hB.congr fun s => by rw [hTa.addL]; simp)
    clear w i1 hC hG hT hTa hU hB
    walk_at "eng*"
end
end Al
end

section
/-! joined, parted, parting. -/
namespace Al
open PySem L2 Eng
def f_joined : Df := ⟨"joined", 2, 5, (.cons (.set 2 (.meth "Album" "twin" "Album.twin" (.var 0) .nil)) (.cons (.loop (.tp (.cons (.nm 3) (.cons (.nm 4) .nil))) (.seq (.meth "Album" "all_of" "Album.all_of" (.var 1) .nil)) (.cons (.exp (.meth "Album" "put" "Album.put" (.var 2) (.cons (.var 3) (.cons (.var 4) .nil)))) .nil)) (.cons (.ret (.var 2)) .nil))), []⟩
def f_are_sets : Df := ⟨"are_sets", 2, 3, (.cons (.ret (.and (.isi .tuple (.var 1)) (.and (.blt .all (.cons (.comp (.call "is_from" (.cons (.var 2) (.cons (.con (.int 0)) (.cons (.bin .sub (.bltv .len 0) (.con (.int 1))) .nil)))) (.nm 2) (.seq (.var 1)) .nil) .nil)) (.call "rises" (.cons (.var 1) .nil))))) .nil), []⟩
def f_parted : Df := ⟨"parted", 2, 6, (.cons (.cond (.not (.call "are_sets" (.cons (.meth "Album" "book" "Album.book" (.var 0) .nil) (.cons (.var 1) .nil)))) (.cons (.raise "NoSets") .nil) .nil) (.cons (.par 2 3 (.make "Album" "Album.__init__" (.cons (.meth "Album" "book" "Album.book" (.var 0) .nil) (.cons (.meth "Album" "called" "Album.called" (.var 0) .nil) .nil))) (.make "Album" "Album.__init__" (.cons (.meth "Album" "book" "Album.book" (.var 0) .nil) (.cons (.meth "Album" "called" "Album.called" (.var 0) .nil) .nil)))) (.cons (.loop (.tp (.cons (.nm 4) (.cons (.nm 5) .nil))) (.seq (.meth "Album" "all_of" "Album.all_of" (.var 0) .nil)) (.cons (.cond (.cmpv .inn (.subv 4 (.con (.int 0))) 1) (.cons (.exp (.meth "Album" "put" "Album.put" (.var 2) (.cons (.var 4) (.cons (.var 5) .nil)))) .nil) (.cons (.exp (.meth "Album" "put" "Album.put" (.var 3) (.cons (.var 4) (.cons (.var 5) .nil)))) .nil)) .nil)) (.cons (.ret (.tup (.cons (.var 2) (.cons (.var 3) .nil)))) .nil)))), []⟩
def f_parting : Df := ⟨"parting", 2, 6, (.cons (.set 2 (.lst .nil)) (.cons (.loop (.nm 3) (.seq (.call "all_stamps" (.cons (.meth "Album" "book" "Album.book" (.var 0) .nil) .nil))) (.cons (.par 4 5 (.meth "Album" "count_of" "Album.count_of" (.var 0) (.cons (.var 3) .nil)) (.meth "Album" "count_of" "Album.count_of" (.var 1) (.cons (.var 3) .nil))) (.cons (.cond (.cmpl .ne 4 (.var 5)) (.cons (.appv 2 (.tup (.cons (.var 3) (.cons (.var 4) (.cons (.var 5) .nil))))) .nil) .nil) .nil))) (.cons (.ret (.var 2)) .nil))), []⟩
open Fn
structure HasJoin (P : Str → Option Df) : Prop where
  joined : P "joined" = some f_joined
structure HasPart (P : Str → Option Df) : Prop where
  are_sets : P "are_sets" = some f_are_sets
  parted : P "parted" = some f_parted
structure HasParting (P : Str → Option Df) : Prop where
  parting : P "parting" = some f_parting
section
variable {P : Str → Option Df} {gl : Str → Option D} {S : Store} {n k a k2 a2 : Nat} {b : Book} {nm nm2 : Str} {c c2 : Stm → Int}
theorem joined (hP : HasAlbum P gl) (hJ : HasJoin P) (hn : 8 ≤ n) (hA : GoodA b nm) (h : AlbumAt S a k b nm c) (h2 : AlbumAt S a2 k2 b nm2 c2) {C : Val → Store → Prop} {X : Ex → Store → Prop}
    (hC : ∀ T a' k', Grow S T → S.length ≤ a' → S.length ≤ k' → AlbumAt T a' k' b nm (fun s => c s + c2 s) → C (.fz (.ref a')) T) :
    (callN P gl n "joined" [.ref a, .ref a2] S).wp C X := by
  obtain ⟨n, rfl⟩ : ∃ m, n = m + 1 := ⟨n - 1, by omega⟩
  rw [callN_run hJ.joined rfl]
  show (RS.done (exs (callN P gl n) gl f_joined.body [some (.fz (.ref a)), some (.fz (.ref a2)), none, none, none] S)).wp _ _
  unfold f_joined
  have i0 := h.ins "twin" rfl
  walk_at "eng*"
  refine twin hP (by omega) hA h fun T a' k' hG ha' hk' hT => ?_
  have hTa := h2.grow hG
  have i1 := hTa.ins "all_of" rfl
  have w := all_of (gl := gl) (n := n) hP (by omega) hA.book hTa
  clear i0
  walk_at "eng*"
  refine wp_loopM (fun s => D.tup [stD s, .int (c2 s)]) (xs := pos b c2) (fun i fr U => Grow S U ∧ AlbumAt U a' k' b nm (addL c c2 ((pos b c2).take i)) ∧ ∃ x y, fr = [some (.fz (.ref a)), some (.fz (.ref a2)), some (.fz (.ref a')), x, y]) ⟨hG, hT.congr (addL_nil _ _), none, none, rfl⟩ ?_ ?_
  · rintro i s fr U hi ⟨hU, hB, x, y, rfl⟩
    refine ⟨[some (.fz (.ref a)), some (.fz (.ref a2)), some (.fz (.ref a')), some (.fz (stD s)), some (.fz (.int (c2 s)))], rfl, ?_⟩
    have hs := pos_mem (List.mem_of_getElem? hi)
    have i2 := hB.ins "put" rfl
    clear w i1
    walk_at "eng*"
    refine put hP (by omega) hA.book hB hs.1 (by omega) fun V hV hV2 => ?_
    have q1 := hV.grow hU hk'
    have q2 := hV2.congr (addL_take (pos_nodup b c2) hi)
    clear i2 hV hV2 hs
    walk_at "eng*"
    exact ⟨trivial, trivial, _, _, rfl⟩
  · rintro fr U ⟨hU, hB, x, y, rfl⟩
    rw [List.take_length] at hB
    have fin := hC U a' k' hU ha' hk' (hB.congr fun s => hTa.addL _ s)
    clear w i1 hC hG hT hTa hU hB
    walk_at "eng*"
theorem lt_ints (ps : List Nat) : ∀ p ∈ (ps.map fun i : Nat => D.int (i : Nat)).zip ((ps.map fun i : Nat => D.int (i : Nat)).drop 1), cmpD .lt p.1 p.2 = some (D.ltb p.1 p.2) := by
  intro p hp
  obtain ⟨a1, a2⟩ := zip_mem hp
  obtain ⟨i, _, e1⟩ := List.mem_map.mp a1
  obtain ⟨j, _, e2⟩ := List.mem_map.mp a2
  rw [← e1, ← e2]
  show some (decide ((i : Int) < j)) = some (PyProof.Rows.lexLt PyProof.Rows.itemOrd [.inl (i : Int)] [.inl (j : Int)])
  rw [PySem.W.lex_one]; rfl
theorem look_ints (ps : List Nat) : ∀ p ∈ (ps.map fun i : Nat => D.int (i : Nat)).zip ((ps.map fun i : Nat => D.int (i : Nat)).drop 1), look S p.1 = p.1 ∧ look S p.2 = p.2 := by
  intro p hp
  obtain ⟨a1, a2⟩ := zip_mem hp
  obtain ⟨i, _, e1⟩ := List.mem_map.mp a1
  obtain ⟨j, _, e2⟩ := List.mem_map.mp a2
  rw [← e1, ← e2]; exact ⟨rfl, rfl⟩
theorem up_ints {ps : List Nat} (h : ps.Pairwise (· < ·)) : Up (ps.map fun i : Nat => D.int (i : Nat)) := by
  rw [Up, List.pairwise_map]
  exact h.imp fun {i j} h => by
    show PyProof.Rows.lexLt PyProof.Rows.itemOrd [.inl (i : Int)] [.inl (j : Int)] = true
    rw [PySem.W.lex_one]; exact decide_eq_true (by omega)
theorem are_sets (hP : HasAlbum P gl) (hQ : HasPart P) (hn : 3 ≤ n) {ps : List Nat} (hp : ps.Pairwise (· < ·)) (hl : ∀ p ∈ ps, p < b.length) (hs : ps.length ≤ 100000) : callN P gl n "are_sets" [.tup (b.map serD), .tup (ps.map fun i : Nat => D.int (i : Nat))] S = .ok (.fz (.bl true)) S := by
  obtain ⟨n, rfl⟩ : ∃ m, n = m + 1 := ⟨n - 1, by omega⟩
  rw [callN_run hQ.are_sets rfl]
  refine RC.eq_of ?_
  show (RS.done (exs (callN P gl n) gl f_are_sets.body [some (.fz (.tup (b.map serD))), some (.fz (.tup (ps.map fun i : Nat => D.int (i : Nat)))), none] S)).wp _ _
  unfold f_are_sets
  walk_at "eng*"
  refine wp_compM (fun i : Nat => D.int (i : Nat)) (fun _ => .bl true) (fun _ => true) ps [some (.fz (.tup (b.map serD))), some (.fz (.tup (ps.map fun i : Nat => D.int (i : Nat)))), none] rfl rfl rfl (by have := big; omega) (fun p hp => ⟨[some (.fz (.tup (b.map serD))), some (.fz (.tup (ps.map fun i : Nat => D.int (i : Nat)))), some (.fz (.int (p : Nat)))], rfl, ⟨rfl, rfl, rfl⟩, fun _ => ?_, rfl⟩) ?_
  · have hq := hl p hp
    have hl : bltD .len [.tup (b.map serD)] = some (.fz (.int b.length)) := by show some (Val.fz (D.int (b.map serD).length)) = _; rw [List.length_map]
    have le : ((b.map serD).length : Int) = b.length := by rw [List.length_map]
    have w2 := is_from (gl := gl) (S := S) hP.toHasFrom (n := n) (by omega) (d := .int p) rfl (lo := 0) (hi := (b.length : Int) - 1)
    have t2 : fromD 0 ((b.length : Int) - 1) (.int p) = true := by simp only [fromD, Bool.and_eq_true, decide_eq_true_eq]; omega
    rw [t2] at w2
    clear t2 hp hq
    walk_at "eng*"
    exact ⟨trivial, trivial, trivial⟩
  · rw [filt1]
    have ha := all_map2 (fun _ : Nat => true) ps
    have hb : (ps.all fun _ => true) = true := by simp
    rw [hb] at ha
    have w := rises_t (gl := gl) (S := S) hP.toHasLists (n := n) (by omega) (ds := ps.map fun i : Nat => D.int (i : Nat)) (by rw [List.length_map]; exact hs) (lt := D.ltb) (lt_ints ps) (look_ints ps)
    rw [adj_up (up_ints hp)] at w
    clear hl hb hp
    walk_at "eng*"
    exact ⟨trivial, trivial⟩
theorem inn_ints (ps : List Nat) (p : Nat) : inD (.int (p : Nat)) (.tup (ps.map fun i : Nat => D.int (i : Nat))) = some (decide (p ∈ ps)) := by
  have e0 : (ps.map fun i : Nat => D.int (i : Nat)) = (ps.map fun i : Nat => (i : Int)).map D.int := by rw [List.map_map]; rfl
  show (if (true && D.pls (ps.map fun i : Nat => D.int (i : Nat)) && decide (min (D.deps (ps.map fun i : Nat => D.int (i : Nat))) 0 ≤ 64)) = true then some ((ps.map fun i : Nat => D.int (i : Nat)).any fun y => D.eqv y (.int (p : Nat))) else none) = _
  have e1 : D.pls (ps.map fun i : Nat => D.int (i : Nat)) = true := by rw [e0, pls_ints]
  rw [e1, if_pos (by simp), List.any_map]
  congr 1
  rw [Bool.eq_iff_iff, List.any_eq_true, decide_eq_true_eq]
  constructor
  · rintro ⟨x, hx, h⟩
    have h : ((x : Int) == (p : Int)) = true := h
    have : x = p := by have := eq_of_beq h; omega
    subst this; exact hx
  · intro h
    refine ⟨p, h, ?_⟩
    show ((p : Int) == (p : Int)) = true
    simp
theorem AlbumAt.zero (h : AlbumAt S a k b nm c) (s : Stm) (hs : s ∉ pos b c) : c s = 0 := by
  obtain ⟨ks, vs, _, hc⟩ := h.dict
  by_cases q : 0 < c s
  · exact absurd (List.mem_filter.mpr ⟨mem_stamps.mpr (hc.okS q), decide_eq_true q⟩) hs
  · have := hc.nn s; omega
theorem addL_skip {d c : Stm → Int} {xs : List Stm} {i : Nat} {s : Stm} (h : xs[i]? = some s) (hc : c s = 0) (t : Stm) : addL d c (xs.take i) t = addL d c (xs.take (i + 1)) t := by
  have ht : xs.take (i + 1) = xs.take i ++ [s] := by rw [List.take_add_one, h]; rfl
  unfold addL
  rw [ht]
  by_cases q : t = s
  · subst q; simp [hc]
  · simp [q]
theorem addL_fin {c c' : Stm → Int} (hz : ∀ s, s ∉ pos b c → c s = 0) {s : Stm} (h : c s = 0 → c' s = 0) : addL (fun _ => 0) c' (pos b c) s = c' s := by
  unfold addL
  split
  · show (0 : Int) + c' s = c' s
    omega
  · rename_i e
    rw [h (hz s e)]; rfl
theorem parted (hP : HasAlbum P gl) (hQ : HasPart P) (hn : 8 ≤ n) (hA : GoodA b nm) (h : AlbumAt S a k b nm c) {ps : List Nat} (hp : ps.Pairwise (· < ·)) (hl : ∀ p ∈ ps, p < b.length) (hs : ps.length ≤ 100000) {C : Val → Store → Prop} {X : Ex → Store → Prop}
    (hC : ∀ T a1 k1 a2 k2, Grow S T → S.length ≤ a1 → S.length ≤ k1 → S.length ≤ a2 → S.length ≤ k2 → k1 ≠ k2 → a1 ≠ k2 → a2 ≠ k1 → AlbumAt T a1 k1 b nm (fun s => if s.1 ∈ ps then c s else 0) → AlbumAt T a2 k2 b nm (fun s => if s.1 ∈ ps then 0 else c s) → C (.fz (.tup [.ref a1, .ref a2])) T) :
    (callN P gl n "parted" [.ref a, .tup (ps.map fun i : Nat => D.int (i : Nat))] S).wp C X := by
  obtain ⟨n, rfl⟩ : ∃ m, n = m + 1 := ⟨n - 1, by omega⟩
  rw [callN_run hQ.parted rfl]
  show (RS.done (exs (callN P gl n) gl f_parted.body [some (.fz (.ref a)), some (.fz (.tup (ps.map fun i : Nat => D.int (i : Nat)))), none, none, none, none] S)).wp _ _
  unfold f_parted
  have i1 := h.ins "book" rfl
  have i2 := h.ins "called" rfl
  have b1 := book (gl := gl) (n := n) hP (by omega) h
  have b2 := called (gl := gl) (n := n) hP (by omega) h
  have w1 := are_sets (gl := gl) (S := S) (n := n) hP hQ (by omega) hp hl hs
  have m2 := fun x y z => made2 (gl := gl) (n := n) (S := S ++ [.ins "Album" [] []]) hP x y z
  clear hp hl
  walk_at "eng*"
  refine made hP (by omega) hA .non (fun s hs => nomatch hs) (Nat.zero_le _) fun T k1 hG1 hk1 hT1 => ?_
  clear i1 i2 b1 b2 w1 m2
  have h1 := h.grow hG1
  have i1 := h1.ins "book" rfl
  have i2 := h1.ins "called" rfl
  have b1 := book (gl := gl) (n := n) hP (by omega) h1
  have b2 := called (gl := gl) (n := n) hP (by omega) h1
  have m2 := fun x y z => made2 (gl := gl) (n := n) (S := T ++ [.ins "Album" [] []]) hP x y z
  walk_at "eng*"
  refine made hP (by omega) hA .non (fun s hs => nomatch hs) (Nat.zero_le _) fun T2 k2 hG2 hk2 hT2 => ?_
  clear i1 i2 b1 b2 m2
  have hG := hG1.trans hG2
  have h2 := h.grow hG
  have lt1 := hT1.lt
  have hT1 := hT1.grow hG2
  have i1 := h2.ins "all_of" rfl
  have w := all_of (gl := gl) (n := n) hP (by omega) hA.book h2
  have hz := h2.zero
  have le1 := hG1.le
  walk_at "eng*"
  refine wp_loopM (fun s => D.tup [stD s, .int (c s)]) (xs := pos b c) (fun i fr U => Grow S U ∧ AlbumAt U S.length k1 b nm (addL (fun _ => 0) (fun s => if s.1 ∈ ps then c s else 0) ((pos b c).take i)) ∧ AlbumAt U T.length k2 b nm (addL (fun _ => 0) (fun s => if s.1 ∈ ps then 0 else c s) ((pos b c).take i)) ∧ ∃ x y, fr = [some (.fz (.ref a)), some (.fz (.tup (ps.map fun i : Nat => D.int (i : Nat)))), some (.fz (.ref S.length)), some (.fz (.ref T.length)), x, y]) ⟨hG, hT1.congr (addL_nil _ _), hT2.congr (addL_nil _ _), none, none, rfl⟩ ?_ ?_
  · rintro i s fr U hi ⟨hU, hB1, hB2, x, y, rfl⟩
    refine ⟨[some (.fz (.ref a)), some (.fz (.tup (ps.map fun i : Nat => D.int (i : Nat)))), some (.fz (.ref S.length)), some (.fz (.ref T.length)), some (.fz (stD s)), some (.fz (.int (c s)))], rfl, ?_⟩
    have hs := pos_mem (List.mem_of_getElem? hi)
    have i2 := hB1.ins "put" rfl
    have i3 := hB2.ins "put" rfl
    have lk : look U (stD s) = stD s := rfl
    have sb : subD (stD s) (.int 0) = some (.int (s.1 : Nat)) := rfl
    have ii : cmpD .inn (.int (s.1 : Nat)) (.tup (ps.map fun i : Nat => D.int (i : Nat))) = some (decide (s.1 ∈ ps)) := inn_ints ps s.1
    clear w i1 hz hT1 hT2 h2 hG
    by_cases q : s.1 ∈ ps
    · rw [decide_eq_true q] at ii
      walk_at "eng*"
      refine put hP (by omega) hA.book hB1 hs.1 (by omega) fun V hV hV2 => ?_
      have q1 := hV.grow hU hk1
      have q2 := hV2.congr (fun t => by
        have := addL_take (d := fun _ => 0) (c := fun s => if s.1 ∈ ps then c s else 0) (pos_nodup b c) hi t
        simp only [if_pos q] at this; exact this)
      have q3 := (hB2.but (j := k1) hV (show T.length ≠ k1 by omega) (show k2 ≠ k1 by omega)).congr (addL_skip (c := fun s : Stm => if s.1 ∈ ps then 0 else c s) hi (if_pos q))
      clear i2 i3 hV hV2 hs hB1 hB2 lk sb ii
      walk_at "eng*"
      exact ⟨trivial, trivial, trivial, _, _, rfl⟩
    · rw [decide_eq_false q] at ii
      walk_at "eng*"
      refine put hP (by omega) hA.book hB2 hs.1 (by omega) fun V hV hV2 => ?_
      have q1 := hV.grow hU (by omega)
      have q2 := hV2.congr (fun t => by
        have := addL_take (d := fun _ => 0) (c := fun s => if s.1 ∈ ps then 0 else c s) (pos_nodup b c) hi t
        simp only [if_neg q] at this; exact this)
      have q3 := (hB1.but (j := k2) hV (show S.length ≠ k2 by omega) (show k1 ≠ k2 by omega)).congr (addL_skip (c := fun s : Stm => if s.1 ∈ ps then c s else 0) hi (if_neg q))
      clear i2 i3 hV hV2 hs hB1 hB2 lk sb ii
      walk_at "eng*"
      exact ⟨trivial, trivial, trivial, _, _, rfl⟩
  · rintro fr U ⟨hU, hB1, hB2, x, y, rfl⟩
    rw [List.take_length] at hB1 hB2
    have fin := hC U S.length k1 T.length k2 hU (Nat.le_refl _) hk1 le1 (by omega) (by omega) (by omega) (by omega) (hB1.congr fun s => addL_fin hz (by intro e; split; exact e; rfl)) (hB2.congr fun s => addL_fin hz (by intro e; split; rfl; exact e))
    clear w i1 hC hG hT1 hT2 h2 hU hB1 hB2 hz
    walk_at "eng*"
def partD (b : Book) (c c2 : Stm → Int) : List D := ((stamps b).filter fun s => !decide (c s = c2 s)).map fun s => .tup [stD s, .int (c s), .int (c2 s)]
theorem take_filter {α : Type} {xs : List α} {i : Nat} {s : α} (h : xs[i]? = some s) (p : α → Bool) : (xs.take (i + 1)).filter p = (xs.take i).filter p ++ if p s then [s] else [] := by
  rw [List.take_add_one, h, List.filter_append]
  simp only [Option.toList_some, List.filter_cons, List.filter_nil]
theorem parting (hP : HasAlbum P gl) (hQ : HasParting P) (hn : 7 ≤ n) (hb : GoodBook b) (h : AlbumAt S a k b nm c) (h2 : AlbumAt S a2 k2 b nm2 c2) : callN P gl n "parting" [.ref a, .ref a2] S = .ok (.own (.lst (partD b c c2))) S := by
  obtain ⟨n, rfl⟩ : ∃ m, n = m + 1 := ⟨n - 1, by omega⟩
  rw [callN_run hQ.parting rfl]
  refine RC.eq_of ?_
  show (RS.done (exs (callN P gl n) gl f_parting.body [some (.fz (.ref a)), some (.fz (.ref a2)), none, none, none, none] S)).wp _ _
  unfold f_parting
  have i1 := h.ins "book" rfl
  have b1 := book (gl := gl) (n := n) hP (by omega) h
  have w := all_stamps (gl := gl) (S := S) hP.toHasLists (n := n) (by omega) hb
  walk_at "eng*"
  refine wp_loopM stD (fun i fr T => T = S ∧ ∃ x y z, fr = [some (.fz (.ref a)), some (.fz (.ref a2)), some (.own (.lst ((((stamps b).take i).filter fun s => !decide (c s = c2 s)).map fun s => .tup [stD s, .int (c s), .int (c2 s)]))), x, y, z]) ⟨rfl, none, none, none, rfl⟩ ?_ ?_
  · rintro i s fr T hi ⟨rfl, x, y, z, rfl⟩
    refine ⟨[some (.fz (.ref a)), some (.fz (.ref a2)), some (.own (.lst ((((stamps b).take i).filter fun s => !decide (c s = c2 s)).map fun s => .tup [stD s, .int (c s), .int (c2 s)]))), some (.fz (stD s)), y, z], rfl, ?_⟩
    have hs := mem_stamps.mp (List.mem_of_getElem? hi)
    have i2 := h.ins "count_of" rfl
    have i3 := h2.ins "count_of" rfl
    have c1 := count_of (gl := gl) (n := n) hP (by omega) h hs
    have c2' := count_of (gl := gl) (n := n) hP (by omega) h2 hs
    have tf0 := take_filter hi fun s => !decide (c s = c2 s)
    have lt : ((((stamps b).take i).filter fun s => !decide (c s = c2 s)).map fun s => D.tup [stD s, .int (c s), .int (c2 s)]).length < sizeLine := by
      rw [List.length_map]
      have := List.length_filter_le (fun s => !decide (c s = c2 s)) ((stamps b).take i)
      rw [List.length_take] at this
      have := stamps_len hb
      have := big
      omega
    by_cases q : c s = c2 s
    · have e : (c s == c2 s) = true := by rw [q]; simp
      have tf : ((stamps b).take (i + 1)).filter (fun s => !decide (c s = c2 s)) = ((stamps b).take i).filter (fun s => !decide (c s = c2 s)) := by rw [tf0]; simp [q]
      clear w i1 b1 lt h h2 hs hi q tf0
      walk_at "eng*"
      exact ⟨trivial, _, _, _, rfl⟩
    · have e : (c s == c2 s) = false := by simpa using q
      have tf : (((stamps b).take (i + 1)).filter fun s => !decide (c s = c2 s)).map (fun s => D.tup [stD s, .int (c s), .int (c2 s)]) = (((stamps b).take i).filter fun s => !decide (c s = c2 s)).map (fun s => D.tup [stD s, .int (c s), .int (c2 s)]) ++ [.tup [stD s, .int (c s), .int (c2 s)]] := by rw [tf0]; simp [q]
      have ap : ∀ d fr, fr[2]? = some (some (Val.own (.lst ((((stamps b).take i).filter fun s => !decide (c s = c2 s)).map fun s => .tup [stD s, .int (c s), .int (c2 s)])))) → appX 2 d fr T = .nx (fr.set 2 (some (.own (.lst ((((stamps b).take i).filter fun s => !decide (c s = c2 s)).map (fun s => .tup [stD s, .int (c s), .int (c2 s)]) ++ [d]))))) T := fun d fr hf => by
        unfold appX; simp only [hf]; rw [if_pos lt]
      have ap := ap (.tup [stD s, .int (c s), .int (c2 s)]) [some (.fz (.ref a)), some (.fz (.ref a2)), some (.own (.lst ((((stamps b).take i).filter fun s => !decide (c s = c2 s)).map fun s => .tup [stD s, .int (c s), .int (c2 s)]))), some (.fz (stD s)), some (.fz (.int (c s))), some (.fz (.int (c2 s)))] rfl
      rw [← tf] at ap
      clear w i1 b1 h h2 hs hi tf lt q tf0
      walk_at "eng*"
      exact ⟨trivial, _, _, _, rfl⟩
  · rintro fr T ⟨rfl, x, y, z, rfl⟩
    rw [List.take_length]
    clear w i1 b1
    walk_at "eng*"
    exact ⟨rfl, trivial⟩
end
end Al
end

section
/-! The draws of the laws: pens, lists, places, stamps. -/
namespace Al
open PySem L2 Eng
def f_law_list : Df := ⟨"_law_list", 1, 5, (.cons (.set 1 (.dic0 true)) (.cons (.loop (.nm 2) (.rng1 (.bin .add (.con (.int 1)) (.call "_law_draw" (.cons (.var 0) (.cons (.con (.int 4)) .nil))))) (.cons (.set 3 (.sub (.lst (.cons (.con (.str "a")) (.cons (.con (.str "b")) (.cons (.con (.str "ab")) (.cons (.con (.str "abcdefgh")) .nil))))) (.call "_law_draw" (.cons (.var 0) (.cons (.con (.int 4)) .nil))))) (.cons (.set 4 (.sub (.lst (.cons (.con (.int 1840)) (.cons (.con (.int 1900)) (.cons (.con (.int 2100)) (.cons (.bin .add (.con (.int 1840)) (.call "_law_draw" (.cons (.var 0) (.cons (.con (.int 261)) .nil)))) .nil))))) (.call "_law_draw" (.cons (.var 0) (.cons (.con (.int 4)) .nil))))) (.cons (.setd 1 (.tup (.cons (.var 3) (.cons (.var 4) .nil))) (.bin .add (.con (.int 1)) (.call "_law_draw" (.cons (.var 0) (.cons (.sub (.lst (.cons (.con (.int 2)) (.cons (.con (.int 6)) .nil))) (.call "_law_draw" (.cons (.var 0) (.cons (.con (.int 2)) .nil)))) .nil))))) .nil)))) (.cons (.ret (.blt .tuple (.cons (.comp (.tup (.cons (.var 3) (.cons (.var 4) (.cons (.subv 1 (.tup (.cons (.var 3) (.cons (.var 4) .nil)))) .nil)))) (.tp (.cons (.nm 3) (.cons (.nm 4) .nil))) (.seq (.bltv .sorted 1)) .nil) .nil))) .nil))), []⟩
def f_law_places : Df := ⟨"_law_places", 1, 7, (.cons (.set 1 (.lst .nil)) (.cons (.loop (.tp (.cons (.nm 2) (.cons (.tp (.cons (.nm 3) (.cons (.nm 4) (.cons (.nm 5) .nil)))) .nil))) (.enm (.var 0)) (.cons (.set 1 (.bin .add (.var 1) (.comp (.tup (.cons (.var 2) (.cons (.var 6) .nil))) (.nm 6) (.rng1 (.var 5)) .nil))) .nil)) (.cons (.ret (.var 1)) .nil))), []⟩
def f_law_stamps : Df := ⟨"_law_stamps", 3, 7, (.cons (.par 4 5 (.call "_law_places" (.cons (.var 1) .nil)) (.lst .nil)) (.cons (.loop (.nm 3) (.rng1 (.call "_law_draw" (.cons (.var 0) (.cons (.bin .add (.var 2) (.con (.int 1))) .nil)))) (.cons (.set 6 (.subv 4 (.call "_law_draw" (.cons (.var 0) (.cons (.bltv .len 4) .nil))))) (.cons (.set 5 (.bin .add (.var 5) (.bin .mul (.lst (.cons (.bin .add (.var 6) (.tup (.cons (.call "_law_draw" (.cons (.var 0) (.cons (.con (.int 2)) .nil))) .nil))) .nil)) (.sub (.lst (.cons (.con (.int 1)) (.cons (.con (.int 1)) (.cons (.con (.int 2)) (.cons (.con (.int 4)) .nil))))) (.call "_law_draw" (.cons (.var 0) (.cons (.con (.int 4)) .nil))))))) .nil))) (.cons (.ret (.bltv .tuple 5)) .nil))), []⟩
open Fn
structure HasLawList (P : Str → Option Df) : Prop extends HasDraw P where
  list : P "_law_list" = some f_law_list
structure HasLawPlaces (P : Str → Option Df) : Prop where
  places : P "_law_places" = some f_law_places
structure HasLawStamps (P : Str → Option Df) : Prop extends HasDraw P, HasLawPlaces P where
  stamps : P "_law_stamps" = some f_law_stamps
def words : List Str := ["a", "b", "ab", "abcdefgh"]
theorem words_ok : ∀ l ∈ words, wordB 1 (.str l) = true ∧ l.length ≤ 8 := by decide +kernel
structure Lst (ks : List (List Key)) (vs : List D) : Prop where
  len : ks.length = vs.length
  nd : ks.Nodup
  key : ∀ k ∈ ks, ∃ (l : Str) (y : Int) (m : Nat), k = [.inr l, .inl y] ∧ l ∈ words ∧ 1840 ≤ y ∧ y ≤ 2100 ∧ findK ks vs k = some (.int m) ∧ 1 ≤ m ∧ m ≤ 6
theorem Lst.put {ks : List (List Key)} {vs : List D} (h : Lst ks vs) {l : Str} {y : Int} {m : Nat} (hl : l ∈ words) (hy : 1840 ≤ y) (hy2 : y ≤ 2100) (hm : 1 ≤ m) (hm2 : m ≤ 6) : Lst (putKs ks [.inr l, .inl y]) (putVs ks vs [.inr l, .inl y] (.int m)) := by
  refine ⟨(put_len h.len _ _).1, ?_, ?_⟩
  · unfold putKs
    split
    · exact h.nd
    · rename_i e
      rw [List.nodup_append]
      exact ⟨h.nd, by simp, fun x hx y hy => by rw [List.mem_singleton] at hy; subst hy; exact fun e2 => e (e2 ▸ hx)⟩
  · intro k hk
    rw [findK_put h.len]
    by_cases q : k = [.inr l, .inl y]
    · exact ⟨l, y, m, q, hl, hy, hy2, if_pos q, hm, hm2⟩
    · have hk : k ∈ ks := by
        unfold putKs at hk
        split at hk
        · exact hk
        · rcases List.mem_append.mp hk with hk | hk
          · exact hk
          · rw [List.mem_singleton] at hk; exact absurd hk q
      obtain ⟨l', y', m', e, r1, r2, r3, r4, r5⟩ := h.key k hk
      exact ⟨l', y', m', e, r1, r2, r3, by rw [if_neg q]; exact r4, r5⟩
def unI : D → Nat
  | .int i => i.toNat
  | _ => 0
def unH (ks : List (List Key)) (vs : List D) : D → Ser
  | .tup [.str l, .int y] => (l, y, unI ((findK ks vs [.inr l, .inl y]).getD .non))
  | _ => e0
def keysD (ks : List (List Key)) : List D := ks.map fun k => D.tup (k.map keyD)
theorem Lst.un {ks : List (List Key)} {vs : List D} (h : Lst ks vs) {x : D} (hx : x ∈ keysD ks) : ∃ e : Ser, unH ks vs x = e ∧ hdD e = x ∧ e.1 ∈ words ∧ 1840 ≤ e.2.1 ∧ e.2.1 ≤ 2100 ∧ 1 ≤ e.2.2 ∧ e.2.2 ≤ 6 ∧ subD (.dit ks vs) x = some (.int e.2.2) := by
  obtain ⟨k, hk, rfl⟩ := List.mem_map.mp hx
  obtain ⟨l, y, m, rfl, r1, r2, r3, r4, r5, r6⟩ := h.key k hk
  refine ⟨(l, y, m), ?_, rfl, r1, r2, r3, r5, r6, r4⟩
  show (l, y, unI ((findK ks vs [.inr l, .inl y]).getD .non)) = _
  rw [r4]; rfl
theorem pls_mem : ∀ {xs : List D}, (∀ x ∈ xs, D.pl x = true) → D.pls xs = true
  | [], _ => rfl
  | x :: xs, h => by
    show (D.pl x && D.pls xs) = true
    rw [h x (List.mem_cons_self ..), pls_mem fun y hy => h y (List.mem_cons_of_mem _ hy)]; rfl
theorem deps_mem2 : ∀ {xs : List D} {j : Nat}, (∀ x ∈ xs, D.dep x ≤ j) → D.deps xs ≤ j
  | [], _, _ => Nat.zero_le _
  | x :: xs, j, h => by
    show max (D.dep x) (D.deps xs) ≤ j
    have := h x (List.mem_cons_self ..)
    have := deps_mem2 (xs := xs) (j := j) fun y hy => h y (List.mem_cons_of_mem _ hy)
    omega
theorem srtOk_map {α : Type} (f : α → D) (xs : List α) (h1 : ∀ x, tupNe (f x) = true ∧ D.pl (f x) = true ∧ D.dep (f x) ≤ 60 ∧ D.isNon (f x) = false) (h2 : ∀ x y, PySem.W.alike (f x).toP (f y).toP = true) (hl : xs.length ≤ 100000) : srtOk (xs.map f) = true := by
  unfold srtOk alkD
  have a1 : D.pls (xs.map f) = true := pls_mem fun x hx => by obtain ⟨y, _, rfl⟩ := List.mem_map.mp hx; exact (h1 y).2.1
  have a2 : D.deps (xs.map f) ≤ 60 := deps_mem2 fun x hx => by obtain ⟨y, _, rfl⟩ := List.mem_map.mp hx; exact (h1 y).2.2.1
  have a3 : (xs.map f).all tupNe = true := List.all_eq_true.mpr fun x hx => by obtain ⟨y, _, rfl⟩ := List.mem_map.mp hx; exact (h1 y).1
  have a4 : ((xs.map f).all fun x => (!D.isNon x) && (xs.map f).all fun y => PySem.W.alike x.toP y.toP) = true := List.all_eq_true.mpr fun x hx => by
    obtain ⟨y, _, rfl⟩ := List.mem_map.mp hx
    rw [(h1 y).2.2.2]
    show ((xs.map f).all fun z => PySem.W.alike (f y).toP z.toP) = true
    exact List.all_eq_true.mpr fun z hz => by obtain ⟨w, _, rfl⟩ := List.mem_map.mp hz; exact h2 y w
  have a5 : (xs.map f).length ≤ sizeLine := by rw [List.length_map]; have := big; omega
  rw [a1, a3, a4, decide_eq_true a2, decide_eq_true a5]; rfl
/-- the list that is told by such a dict -/
def Lst.book (ks : List (List Key)) (vs : List D) : Book := (srtD (keysD ks)).map (unH ks vs)
theorem Lst.hd {ks : List (List Key)} {vs : List D} (h : Lst ks vs) : srtD (keysD ks) = (Lst.book ks vs).map hdD := by
  unfold Lst.book
  rw [List.map_map]
  conv => lhs; rw [← List.map_id (srtD (keysD ks))]
  refine List.map_congr_left fun x hx => ?_
  obtain ⟨e, e1, e2, _⟩ := h.un (srt_mem.mp hx)
  show x = hdD (unH ks vs x)
  rw [e1, e2]
theorem toks_hd {e f : Ser} (h : PySem.W.keyToks (hdD e).toP = PySem.W.keyToks (hdD f).toP) : hdD e = hdD f := by
  have h : [Sum.inl 1, Sum.inr e.1.cps.toList, .inl 1, .inl e.2.1, (.inl 0 : Int ⊕ List Nat)] = [.inl 1, .inr f.1.cps.toList, .inl 1, .inl f.2.1, .inl 0] := h
  injection h with _ h
  injection h with h1 h
  injection h with _ h
  injection h with h2 h
  have h1 := PySem.W.str_of_cps (Sum.inr.inj h1)
  have h2 := Sum.inl.inj h2
  unfold hdD
  rw [h1, h2]
theorem key2 {l l' : Str} {y y' : Int} (h : D.tup [.str l, .int y] = D.tup [.str l', .int y']) : l = l' ∧ y = y' := by
  injection h with h
  injection h with h1 h
  injection h with h2 h
  injection h1 with h1
  injection h2 with h2
  exact ⟨h1, h2⟩
theorem Lst.nodup {ks : List (List Key)} {vs : List D} (h : Lst ks vs) : (keysD ks).Nodup := by
  unfold keysD
  rw [List.Nodup, List.pairwise_map]
  have h3 : ks.Pairwise fun x y => x ∈ ks ∧ y ∈ ks := List.pairwise_of_forall_mem_list fun x hx y hy => ⟨hx, hy⟩
  refine (h.nd.and h3).imp fun {x y} q e => ?_
  obtain ⟨q1, q2, q3⟩ := q
  obtain ⟨l, z, m, rfl, _⟩ := h.key x q2
  obtain ⟨l', z', m', rfl, _⟩ := h.key y q3
  have := key2 e
  exact q1 (by rw [this.1, this.2])
theorem Lst.up {ks : List (List Key)} {vs : List D} (h : Lst ks vs) : Up ((Lst.book ks vs).map hdD) := by
  rw [← h.hd]
  refine srt_up (fun x hx y hy e => ?_) h.nodup
  obtain ⟨e1, _, q1, _⟩ := h.un hx
  obtain ⟨e2, _, q2, _⟩ := h.un hy
  subst q1; subst q2
  exact toks_hd e
theorem Lst.good {ks : List (List Key)} {vs : List D} (h : Lst ks vs) (h1 : 1 ≤ ks.length) (h4 : ks.length ≤ 4) : GoodBook (Lst.book ks vs) := by
  have hl : (Lst.book ks vs).length = ks.length := by unfold Lst.book; rw [List.length_map, srt_len]; exact List.length_map ..
  refine ⟨by omega, by omega, fun e he => ?_, h.up⟩
  obtain ⟨x, hx, rfl⟩ := List.mem_map.mp he
  obtain ⟨f, e1, e2, r1, r2, r3, r4, r5, _⟩ := h.un (srt_mem.mp hx)
  rw [e1]
  exact ⟨(words_ok _ r1).1, (words_ok _ r1).2, r2, r3, r4, r5⟩
theorem Lst.sub {ks : List (List Key)} {vs : List D} (h : Lst ks vs) {e : Ser} (he : e ∈ Lst.book ks vs) : subD (.dit ks vs) (.tup [.str e.1, .int e.2.1]) = some (.int e.2.2) := by
  obtain ⟨x, hx, rfl⟩ := List.mem_map.mp he
  obtain ⟨f, e1, e2, r1, r2, r3, r4, r5, r6⟩ := h.un (srt_mem.mp hx)
  rw [e1]
  subst e2
  exact r6
theorem Lst.sorted {ks : List (List Key)} {vs : List D} (h : Lst ks vs) (h4 : ks.length ≤ 4) : bltD .sorted [.dit ks vs] = some (.own (.lst ((Lst.book ks vs).map hdD))) := by
  show (if srtOk (keysD ks) then some (Val.own (.lst (srtD (keysD ks)))) else none) = _
  have e : keysD ks = ((keysD ks).map (unH ks vs)).map hdD := by
    rw [List.map_map]
    conv => lhs; rw [← List.map_id (keysD ks)]
    refine List.map_congr_left fun x hx => ?_
    obtain ⟨e, e1, e2, _⟩ := h.un hx
    show x = hdD (unH ks vs x)
    rw [e1, e2]
  have q : srtOk (keysD ks) = true := by
    rw [e]
    refine srtOk_map hdD _ (fun x => ⟨rfl, rfl, by show 1 ≤ 60; omega, rfl⟩) (fun x y => rfl) ?_
    unfold keysD
    rw [List.length_map, List.length_map]; omega
  rw [if_pos q, h.hd]
section
variable {P : Str → Option Df} {gl : Str → Option D} {S : Store} {n p : Nat} {b : Book}
theorem setd_T {i : Nat} {fr : Eng.Frame} {ks : List (List Key)} {vs : List D} {k : List Key} {y d : D} {S : Store} (h : fr[i]? = some (some (.own (.dT ks vs)))) (hk : keyT y = some k) (hl : ks.length < sizeLine) : setdX i y d fr S = .nx (fr.set i (some (.own (.dT (putKs ks k) (putVs ks vs k d))))) S := by
  unfold setdX; simp only [h, hk, if_pos hl]
theorem law_list (hP : HasLawList P) (hn : 2 ≤ n) (h : PenAt S p) {C : Val → Store → Prop} {X : Ex → Store → Prop} (hC : ∀ b T, GoodBook b → Moved p S T → PenAt T p → C (.fz (.tup (b.map serD))) T) :
    (callN P gl n "_law_list" [.ref p] S).wp C X := by
  obtain ⟨n, rfl⟩ : ∃ m, n = m + 1 := ⟨n - 1, by omega⟩
  rw [callN_run hP.list rfl]
  show (RS.done (exs (callN P gl n) gl f_law_list.body [some (.fz (.ref p)), none, none, none, none] S)).wp _ _
  unfold f_law_list
  walk_at "eng*"
  refine drawn hP.toHasDraw (by omega) h (by omega) (by omega) fun v T v0 v1 hM hT => ?_
  obtain ⟨w, rfl⟩ : ∃ w : Nat, v = w := ⟨v.toNat, by omega⟩
  have hr : ∀ fr S, kRng1 (.int (1 + (w : Int))) fr S = .ok ((List.range (1 + w)).map fun q : Nat => D.int (q : Nat)) fr S := fun fr S => by
    have := kRng1_nat (j := 1 + w) (fr := fr) (S := S) (by omega)
    rw [show ((1 + w : Nat) : Int) = 1 + (w : Int) by omega] at this
    exact this
  walk_at "eng*"
  refine wp_loopM (fun q : Nat => D.int (q : Nat)) (fun i fr U => Moved p S U ∧ PenAt U p ∧ ∃ ks vs x y z, fr = [some (.fz (.ref p)), some (.own (.dT ks vs)), x, y, z] ∧ (∀ o, y ≠ some (.own o)) ∧ (∀ o, z ≠ some (.own o)) ∧ Lst ks vs ∧ ks.length ≤ i ∧ (1 ≤ i → 1 ≤ ks.length)) ⟨hM, hT, [], [], none, none, none, rfl, nofun, nofun, ⟨rfl, List.nodup_nil, fun k hk => nomatch hk⟩, Nat.le_refl _, fun e => absurd e (by omega)⟩ ?_ ?_
  · rintro i q fr U hi ⟨hM, hU, ks, vs, x, y, z, rfl, hy, hz, hL, hl1, hl2⟩
    have hi1 : i < 1 + w := by have := (List.getElem?_eq_some_iff.mp hi).1; rw [List.length_range] at this; exact this
    refine ⟨[some (.fz (.ref p)), some (.own (.dT ks vs)), some (.fz (.int (q : Nat))), y, z], rfl, ?_⟩
    clear hr hT hi
    walk_at "eng*"
    refine drawn hP.toHasDraw (by omega) hU (by omega) (by omega) fun v1 U1 p1 q1 hM1 hU1 => ?_
    obtain ⟨l, hl, el⟩ : ∃ l, l ∈ words ∧ atD [.str "a", .str "b", .str "ab", .str "abcdefgh"] v1 = some (.str l) := by
      obtain rfl | rfl | rfl | rfl : v1 = 0 ∨ v1 = 1 ∨ v1 = 2 ∨ v1 = 3 := by omega
      · exact ⟨"a", by decide +kernel, rfl⟩
      · exact ⟨"b", by decide +kernel, rfl⟩
      · exact ⟨"ab", by decide +kernel, rfl⟩
      · exact ⟨"abcdefgh", by decide +kernel, rfl⟩
    walk_at "eng*"
    refine drawn hP.toHasDraw (by omega) hU1 (by omega) (by omega) fun v2 U2 p2 q2 hM2 hU2 => ?_
    walk_at "eng*"
    refine drawn hP.toHasDraw (by omega) hU2 (by omega) (by omega) fun v3 U3 p3 q3 hM3 hU3 => ?_
    obtain ⟨ye, hye, hye2, ey⟩ : ∃ ye : Int, 1840 ≤ ye ∧ ye ≤ 2100 ∧ atD [.int 1840, .int 1900, .int 2100, .int (1840 + v2)] v3 = some (.int ye) := by
      obtain rfl | rfl | rfl | rfl : v3 = 0 ∨ v3 = 1 ∨ v3 = 2 ∨ v3 = 3 := by omega
      · exact ⟨1840, by omega, by omega, rfl⟩
      · exact ⟨1900, by omega, by omega, rfl⟩
      · exact ⟨2100, by omega, by omega, rfl⟩
      · exact ⟨1840 + v2, by omega, by omega, rfl⟩
    walk_at "eng*"
    refine drawn hP.toHasDraw (by omega) hU3 (by omega) (by omega) fun v4 U4 p4 q4 hM4 hU4 => ?_
    obtain ⟨mo, hmo, hmo2, em⟩ : ∃ mo : Int, 0 < mo ∧ mo ≤ 6 ∧ atD [.int 2, .int 6] v4 = some (.int mo) := by
      obtain rfl | rfl : v4 = 0 ∨ v4 = 1 := by omega
      · exact ⟨2, by omega, by omega, rfl⟩
      · exact ⟨6, by omega, by omega, rfl⟩
    walk_at "eng*"
    refine drawn hP.toHasDraw (by omega) hU4 hmo (by omega) fun v5 U5 p5 q5 hM5 hU5 => ?_
    obtain ⟨m, rfl⟩ : ∃ m : Nat, v5 = m := ⟨v5.toNat, by omega⟩
    have st : ∀ fr S, fr[1]? = some (some (Val.own (.dT ks vs))) → setdX 1 (.tup [.str l, .int ye]) (.int (1 + (m : Int))) fr S = .nx (fr.set 1 (some (.own (.dT (putKs ks [.inr l, .inl ye]) (putVs ks vs [.inr l, .inl ye] (.int ((1 + m : Nat) : Int))))))) S := fun fr S hf => by
      rw [setd_T hf (k := [.inr l, .inl ye]) rfl (by have := big; omega)]
      rw [show ((1 + m : Nat) : Int) = 1 + (m : Int) by omega]
    have st := fun a b c d S => st [a, some (Val.own (.dT ks vs)), b, c, d] S rfl
    have nL := hL.put (m := 1 + m) hl hye hye2 (by omega) (by omega)
    have nl := put_len hL.len [.inr l, .inl ye] (.int ((1 + m : Nat) : Int))
    have nl1 : 1 ≤ (putKs ks [Sum.inr l, Sum.inl ye]).length := by
      unfold putKs
      split
      · rename_i e; exact List.length_pos_of_mem e
      · simp
    have hMM := ((((hM.trans hM1).trans hM2).trans hM3).trans hM4).trans hM5
    clear hL hl2 hM hM1 hM2 hM3 hM4 hM5 hU hU1 hU2 hU3 hU4 p1 q1 p2 q2 p3 q3 p4 q4 p5 q5 hl hye hye2 hmo hmo2 hy hz
    walk_at "eng*"
    exact ⟨trivial, trivial, _, _, _, _, _, rfl, nofun, nofun, nL, by omega, fun _ => nl1⟩
  · rintro fr U ⟨hM, hU, ks, vs, x, y, z, rfl, hy, hz, hL, hl1, hl2⟩
    rw [List.length_range] at hl1 hl2
    have hl1 : ks.length ≤ 4 := by omega
    have hl2 : 1 ≤ ks.length := hl2 (by omega)
    have so := hL.sorted hl1
    have good := hL.good hl2 hl1
    have l4 := good.len4
    have fin := hC _ U good hM hU
    have sub := fun e he => hL.sub (e := e) he
    generalize Lst.book ks vs = bb at so good l4 fin sub
    clear hL hC hM hT hr good
    walk_at "eng*"
    have cl : calmF [some (.fz (.ref p)), some (.own (.dT ks vs)), x, y, z] [3, 4] = true := by
      unfold calmF
      cases y with
      | none => cases z with
        | none => rfl
        | some z => cases z with
          | fz _ => rfl
          | own o => exact absurd rfl (hz o)
      | some y => cases y with
        | own o => exact absurd rfl (hy o)
        | fz _ => cases z with
          | none => rfl
          | some z => cases z with
            | fz _ => rfl
            | own o => exact absurd rfl (hz o)
    refine wp_compM hdD serD (fun _ => true) bb [some (.fz (.ref p)), some (.own (.dT ks vs)), x, none, none] cl rfl rfl (by have := big; omega) (fun e he => ⟨[some (.fz (.ref p)), some (.own (.dT ks vs)), x, some (.fz (.str e.1)), some (.fz (.int e.2.1))], rfl, ⟨rfl, rfl, rfl⟩, fun _ => ?_, rfl⟩) ?_
    · have sb := sub e he
      clear so sub fin cl hy hz
      walk_at "eng*"
      exact ⟨rfl, trivial, trivial⟩
    · rw [filt1]
      clear so sub cl hy hz
      walk_at "eng*"
theorem pen (hP : HasDraw P) (hn : 1 ≤ n) {i : Int} {C : Val → Store → Prop} {X : Ex → Store → Prop} (hC : ∀ T, Grow S T → PenAt T S.length → C (.fz (.ref S.length)) T) : (callN P gl n "_law_pen" [.int i] S).wp C X := by
  obtain ⟨m, rfl⟩ : ∃ m, n = m + 1 := ⟨n - 1, by omega⟩
  rw [callN_run hP.pen rfl]
  show (RS.done (exs (callN P gl m) gl Fn.f_law_pen.body [some (.fz (.int i))] S)).wp _ _
  unfold Fn.f_law_pen
  have e1 : binD .pow (.int 10) (.int 18) = some (.fz (.int (10 ^ 18))) := by
    show (if 0 ≤ (18 : Int) ∧ (18 : Int) ≤ 1000000 ∧ (10 : Int).natAbs < 2 ^ 64 then some (Val.fz (.int ((10 : Int) ^ (18 : Int).toNat))) else none) = _
    rw [if_pos (by decide)]; rfl
  have e2 : binD .mod (.int i) (.int 1000000007) = some (.fz (.int (i % 1000000007))) := bin_modI (by omega)
  walk_at "eng*"
  exact hC _ (Grow.app _ _) ⟨i, _, 0, i % 1000000007, List.getElem?_concat_length, Int.emod_nonneg _ (by omega), Int.emod_lt_of_pos _ (by omega)⟩
theorem cell_at (hP : HasDraw P) (hn : 1 ≤ n) {ns : List Int} {j : Nat} {C : Val → Store → Prop} {X : Ex → Store → Prop} (hC : ∀ i : Int, C (.fz (.int i)) S) : (callN P gl n "_law_cell_at" [.scr (ns.map .int), .int j] S).wp C X := by
  obtain ⟨m, rfl⟩ : ∃ m, n = m + 1 := ⟨n - 1, by omega⟩
  rw [callN_run hP.cell_at rfl]
  show (RS.done (exs (callN P gl m) gl Fn.f_law_cell_at.body [some (.fz (.scr (ns.map .int))), some (.fz (.int j))] S)).wp _ _
  unfold Fn.f_law_cell_at
  by_cases h : j < ns.length
  · have e1 : decide ((j : Int) < ((ns.map D.int).length : Nat)) = true := by rw [List.length_map]; exact decide_eq_true (by omega)
    have e2 : atD (ns.map D.int) (j : Int) = some (.int ns[j]) := atD_nat rfl (by rw [List.getElem?_map, List.getElem?_eq_getElem h]; rfl)
    walk_at "eng*"
  · have e1 : decide ((j : Int) < ((ns.map D.int).length : Nat)) = false := by rw [List.length_map]; exact decide_eq_false (by omega)
    walk_at "eng*"
theorem law_places (hP : HasLawPlaces P) (hn : 1 ≤ n) (h : GoodBook b) : callN P gl n "_law_places" [.tup (b.map serD)] S = .ok (.own (.lst ((places b).map plD))) S := by
  obtain ⟨k, rfl⟩ : ∃ k, n = k + 1 := ⟨n - 1, by omega⟩
  rw [callN_run hP.places rfl]
  refine RC.eq_of ?_
  show (RS.done (exs (callN P gl k) gl f_law_places.body [some (.fz (.tup (b.map serD))), none, none, none, none, none, none] S)).wp _ _
  unfold f_law_places
  have he := enumD_map serD b e0
  have hb := big
  walk_at "eng*"
  refine wp_loopM (fun i : Nat => D.tup [.int (i : Nat), serD (b.getD i e0)]) (fun i fr T => T = S ∧ ∃ x y z w, fr = [some (.fz (.tup (b.map serD))), some (.own (.lst ((placesTo b i).map plD))), x, y, z, w, none]) ⟨rfl, none, none, none, none, rfl⟩ ?_ ?_
  · rintro i p fr T hi ⟨rfl, x, y, z, w, rfl⟩
    obtain ⟨hi1, hi2⟩ := List.getElem?_eq_some_iff.mp hi
    rw [List.length_range] at hi1
    rw [List.getElem_range] at hi2
    subst hi2
    refine ⟨[some (.fz (.tup (b.map serD))), some (.own (.lst ((placesTo b i).map plD))), some (.fz (.int (i : Nat))), some (.fz (.str (b.getD i e0).1)), some (.fz (.int (b.getD i e0).2.1)), some (.fz (.int (b.getD i e0).2.2)), none], rfl, ?_⟩
    have hm := h.many hi1
    have hr : ∀ fr, kRng1 (.int ((b.getD i e0).2.2 : Int)) fr T = .ok ((List.range (b.getD i e0).2.2).map fun q : Nat => D.int (q : Nat)) fr T := fun fr => kRng1_nat (by omega)
    clear he
    walk_at "eng*"
    refine wp_compM (fun q : Nat => D.int (q : Nat)) (fun q => plD (i, q)) (fun _ => true) (List.range (b.getD i e0).2.2) _ rfl rfl rfl (by rw [List.length_range]; omega) (fun q hq => ⟨[some (.fz (.tup (b.map serD))), some (.fz (.lst ((placesTo b i).map plD))), some (.fz (.int (i : Nat))), some (.fz (.str (b.getD i e0).1)), some (.fz (.int (b.getD i e0).2.1)), some (.fz (.int (b.getD i e0).2.2)), some (.fz (.int (q : Nat)))], rfl, ⟨rfl, rfl, rfl⟩, fun _ => ?_, rfl⟩) ?_
    · clear hr
      walk_at "eng*"
      exact ⟨rfl, trivial, trivial⟩
    · rw [filt1]
      have hx : binD .add (.lst ((placesTo b i).map plD)) (.lst ((List.range (b.getD i e0).2.2).map fun q => plD (i, q))) = some (.own (.lst ((placesTo b (i + 1)).map plD))) := by
        rw [placesTo_succ, List.map_append, List.map_map]
        exact if_pos (e := none) (by have := placesTo_len h (i := i) (by omega); have := h.len4; rw [List.length_map, List.length_map, List.length_range]; omega)
      clear hr
      walk_at "eng*"
      exact ⟨trivial, _, _, _, _, rfl⟩
  · rintro fr T ⟨rfl, x, y, z, w, rfl⟩
    rw [List.length_range]
    clear he
    walk_at "eng*"
    exact ⟨rfl, trivial⟩
theorem bin_mulL {xs : List D} {k : Nat} (h : xs.length * k ≤ sizeLine) (hk : k < 1000) : binD .mul (.lst xs) (.int (k : Nat)) = some (.own (.lst (List.replicate k xs).flatten)) := by
  simp only [binD, Int.toNat_natCast]
  rw [if_pos ⟨by omega, by omega, h⟩]
theorem places_ne {b : Book} (h : GoodBook b) : 1 ≤ (places b).length := List.length_pos_of_mem (mem_places.mpr ⟨h.len1, (h.many h.len1).1⟩)
theorem law_stamps (hP : HasLawStamps P) (hn : 2 ≤ n) (hb : GoodBook b) (h : PenAt S p) {m : Nat} (hm : m ≤ 100) {C : Val → Store → Prop} {X : Ex → Store → Prop} (hC : ∀ (xs : List Stm) T, (∀ s ∈ xs, okS b s) → xs.length ≤ 4 * m → Moved p S T → PenAt T p → C (.fz (.tup (xs.map stD))) T) :
    (callN P gl n "_law_stamps" [.ref p, .tup (b.map serD), .int (m : Nat)] S).wp C X := by
  obtain ⟨n, rfl⟩ : ∃ k, n = k + 1 := ⟨n - 1, by omega⟩
  rw [callN_run hP.stamps rfl]
  show (RS.done (exs (callN P gl n) gl f_law_stamps.body [some (.fz (.ref p)), some (.fz (.tup (b.map serD))), some (.fz (.int (m : Nat))), none, none, none, none] S)).wp _ _
  unfold f_law_stamps
  have w := law_places (gl := gl) (S := S) (n := n) hP.toHasLawPlaces (by omega) hb
  walk_at "eng*"
  refine drawn hP.toHasDraw (by omega) h (by omega) (by omega) fun v T v0 v1 hM hT => ?_
  obtain ⟨z, rfl⟩ : ∃ z : Nat, v = z := ⟨v.toNat, by omega⟩
  have hr : ∀ fr, kRng1 (.int (z : Int)) fr T = .ok ((List.range z).map fun q : Nat => D.int (q : Nat)) fr T := fun fr => kRng1_nat (by omega)
  clear w
  walk_at "eng*"
  have pl := places_len hb
  have pl1 := places_ne hb
  refine wp_loopM (fun q : Nat => D.int (q : Nat)) (fun i fr U => Moved p S U ∧ PenAt U p ∧ ∃ (xs : List Stm) (x y : Option Val), fr = [some (.fz (.ref p)), some (.fz (.tup (b.map serD))), some (.fz (.int (m : Nat))), x, some (.own (.lst ((places b).map plD))), some (.own (.lst (xs.map stD))), y] ∧ (∀ s ∈ xs, okS b s) ∧ xs.length ≤ 4 * i) ⟨hM, hT, [], none, none, rfl, (fun s hs => nomatch hs), Nat.le_refl _⟩ ?_ ?_
  · rintro i q fr U hi ⟨hM, hU, xs, x, y, rfl, hx, hl⟩
    have hi1 : i < z := by have := (List.getElem?_eq_some_iff.mp hi).1; rw [List.length_range] at this; exact this
    refine ⟨[some (.fz (.ref p)), some (.fz (.tup (b.map serD))), some (.fz (.int (m : Nat))), some (.fz (.int (q : Nat))), some (.own (.lst ((places b).map plD))), some (.own (.lst (xs.map stD))), y], rfl, ?_⟩
    have le : (((places b).map plD).length : Int) = ((places b).length : Nat) := by rw [List.length_map]
    clear hr hT hi
    walk_at "eng*"
    refine drawn hP.toHasDraw (by omega) hU (by omega) (by omega) fun v2 U1 p1 q1 hM1 hU1 => ?_
    obtain ⟨w, rfl⟩ : ∃ w : Nat, v2 = w := ⟨v2.toNat, by omega⟩
    have hw : w < (places b).length := by omega
    have at1 : atD ((places b).map plD) (w : Int) = some (plD (places b)[w]) := atD_nat rfl (by rw [List.getElem?_map, List.getElem?_eq_getElem hw]; rfl)
    have pm := List.getElem_mem hw
    generalize (places b)[w] = pq at at1 pm
    have pm := mem_places.mp (show (pq.1, pq.2) ∈ places b from pm)
    walk_at "eng*"
    refine drawn hP.toHasDraw (by omega) hU1 (by omega) (by omega) fun v3 U2 p2 q2 hM2 hU2 => ?_
    obtain ⟨g, rfl⟩ : ∃ g : Nat, v3 = g := ⟨v3.toNat, by omega⟩
    have pt := plus_tup pq g
    have lk : look U2 (plD pq) = plD pq := rfl
    walk_at "eng*"
    refine drawn hP.toHasDraw (by omega) hU2 (by omega) (by omega) fun v4 U3 p3 q3 hM3 hU3 => ?_
    obtain ⟨k, k4, ek⟩ : ∃ k : Nat, k ≤ 4 ∧ atD [.int 1, .int 1, .int 2, .int 4] v4 = some (.int (k : Nat)) := by
      obtain rfl | rfl | rfl | rfl : v4 = 0 ∨ v4 = 1 ∨ v4 = 2 ∨ v4 = 3 := by omega
      · exact ⟨1, by omega, rfl⟩
      · exact ⟨1, by omega, rfl⟩
      · exact ⟨2, by omega, rfl⟩
      · exact ⟨4, by omega, rfl⟩
    have e1 : binD .mul (.lst [stD (pq.1, pq.2, g)]) (.int (k : Nat)) = some (.own (.lst ((List.replicate k (pq.1, pq.2, g)).map stD))) := by
      have : (List.replicate k [stD (pq.1, pq.2, g)]).flatten = (List.replicate k (pq.1, pq.2, g)).map stD := by rw [List.map_replicate, List.flatten_replicate_singleton]
      rw [← this]
      exact bin_mulL (by show 1 * k ≤ sizeLine; have := big; omega) (by omega)
    have e2 : binD .add (.lst (xs.map stD)) (.lst ((List.replicate k (pq.1, pq.2, g)).map stD)) = some (.own (.lst ((xs ++ List.replicate k (pq.1, pq.2, g)).map stD))) := by
      rw [List.map_append]
      exact if_pos (e := none) (by rw [List.length_map, List.length_map, List.length_replicate]; have := big; omega)
    have hMM := ((hM.trans hM1).trans hM2).trans hM3
    have nx : ∀ s ∈ xs ++ List.replicate k (pq.1, pq.2, g), okS b s := fun s hs => by
      rcases List.mem_append.mp hs with hs | hs
      · exact hx s hs
      · rw [List.eq_of_mem_replicate hs]; exact ⟨pm.1, pm.2, by show g < 2; omega⟩
    have nl : (xs ++ List.replicate k (pq.1, pq.2, g)).length ≤ 4 * (i + 1) := by rw [List.length_append, List.length_replicate]; omega
    clear hM hM1 hM2 hM3 hU hU1 hU2 hx hl pm p1 q1 p2 q2 p3 q3 k4 hw
    walk_at "eng*"
    exact ⟨trivial, trivial, _, _, _, rfl, nx, nl⟩
  · rintro fr U ⟨hM, hU, xs, x, y, rfl, hx, hl⟩
    rw [List.length_range] at hl
    have fin := hC xs U hx (by omega) hM hU
    clear hC hM hT hr hx
    walk_at "eng*"
end
end Al
end

section
/-! The counts of the laws. -/
namespace Al
open PySem L2 Eng
def f_law_counts : Df := ⟨"_law_counts", 1, 3, (.cons (.set 1 (.dic0 true)) (.cons (.loop (.nm 2) (.seq (.var 0)) (.cons (.setd 1 (.var 2) (.bin .add (.mthv .get2 1 (.cons (.var 2) (.cons (.con (.int 0)) .nil))) (.con (.int 1)))) .nil)) (.cons (.ret (.var 1)) .nil))), []⟩
def f_law_all : Df := ⟨"_law_all", 1, 2, (.cons (.ret (.comp (.tup (.cons (.var 1) (.cons (.subv 0 (.var 1)) .nil))) (.nm 1) (.seq (.bltv .sorted 0)) (.cons (.cmp .gt (.subv 0 (.var 1)) (.con (.int 0))) .nil))) .nil), []⟩
def f_law_apart : Df := ⟨"_law_apart", 3, 6, (.cons (.set 3 (.lst .nil)) (.cons (.loop (.nm 4) (.seq (.call "_law_places" (.cons (.var 0) .nil))) (.cons (.loop (.nm 5) (.seq (.tup (.cons (.bin .add (.var 4) (.tup (.cons (.con (.int 0)) .nil))) (.cons (.bin .add (.var 4) (.tup (.cons (.con (.int 1)) .nil))) .nil)))) (.cons (.cond (.cmp .ne (.mthv .get2 1 (.cons (.var 5) (.cons (.con (.int 0)) .nil))) (.mthv .get2 2 (.cons (.var 5) (.cons (.con (.int 0)) .nil)))) (.cons (.appv 3 (.tup (.cons (.var 5) (.cons (.mthv .get2 1 (.cons (.var 5) (.cons (.con (.int 0)) .nil))) (.cons (.mthv .get2 2 (.cons (.var 5) (.cons (.con (.int 0)) .nil))) .nil))))) .nil) .nil) .nil)) .nil)) (.cons (.ret (.var 3)) .nil))), []⟩
open Fn
structure HasCounts (P : Str → Option Df) : Prop where
  counts : P "_law_counts" = some f_law_counts
structure HasAll (P : Str → Option Df) : Prop where
  all : P "_law_all" = some f_law_all
structure HasApart (P : Str → Option Df) : Prop extends HasLawPlaces P where
  apart : P "_law_apart" = some f_law_apart
def unS : D → Stm
  | .tup [.int p, .int q, .int g] => (p.toNat, q.toNat, g.toNat)
  | _ => (0, 0, 0)
theorem unS_st (s : Stm) : unS (stD s) = s := rfl
def hasK (ks : List (List Key)) (s : Stm) : Bool := ks.any fun k => decide (k = stK s)
theorem hasK_iff {ks : List (List Key)} {s : Stm} : hasK ks s = true ↔ stK s ∈ ks := by
  unfold hasK
  rw [List.any_eq_true]
  constructor
  · rintro ⟨k, hk, e⟩
    rw [← of_decide_eq_true e]; exact hk
  · intro h
    exact ⟨_, h, decide_eq_true rfl⟩
section
variable {b : Book} {ks : List (List Key)} {vs : List D} {c : Stm → Int}
theorem Cnt.memD (h : Cnt b ks vs c) {x : D} : x ∈ keysD ks ↔ ∃ s, stK s ∈ ks ∧ x = stD s := by
  unfold keysD
  rw [List.mem_map]
  constructor
  · rintro ⟨k, hk, rfl⟩
    obtain ⟨s, _, rfl⟩ := h.key k hk
    exact ⟨s, hk, rfl⟩
  · rintro ⟨s, hs, rfl⟩
    exact ⟨_, hs, rfl⟩
theorem Cnt.typed (h : Cnt b ks vs c) : keysD ks = ((keysD ks).map unS).map stD := by
  rw [List.map_map]
  conv => lhs; rw [← List.map_id (keysD ks)]
  refine List.map_congr_left fun x hx => ?_
  obtain ⟨s, _, rfl⟩ := h.memD.mp hx
  rfl
theorem Cnt.sortedD (h : Cnt b ks vs c) : srtD (keysD ks) = ((stamps b).filter (hasK ks)).map stD := by
  refine up_eq (srt_up (fun x hx y hy e => ?_) ?_) ?_ ?_
  · obtain ⟨s, _, rfl⟩ := h.memD.mp hx
    obtain ⟨t, _, rfl⟩ := h.memD.mp hy
    exact toks_st e
  · unfold keysD
    rw [List.Nodup, List.pairwise_map]
    have h3 : ks.Pairwise fun x y => x ∈ ks ∧ y ∈ ks := List.pairwise_of_forall_mem_list fun x hx y hy => ⟨hx, hy⟩
    refine (h.nd.and h3).imp fun {x y} q e => ?_
    obtain ⟨q1, q2, q3⟩ := q
    obtain ⟨s, _, rfl⟩ := h.key x q2
    obtain ⟨t, _, rfl⟩ := h.key y q3
    exact q1 (by rw [stD_inj e])
  · have := stamps_up b
    rw [Up, List.pairwise_map] at this ⊢
    exact List.Pairwise.filter _ this
  · intro x
    rw [srt_mem, h.memD, List.mem_map]
    constructor
    · rintro ⟨s, hs, rfl⟩
      obtain ⟨t, ht, e⟩ := h.key _ hs
      exact ⟨s, List.mem_filter.mpr ⟨mem_stamps.mpr (by rw [stK_inj e]; exact ht), hasK_iff.mpr hs⟩, rfl⟩
    · rintro ⟨s, hs, rfl⟩
      exact ⟨s, hasK_iff.mp (List.mem_filter.mp hs).2, rfl⟩
theorem Cnt.sorted (h : Cnt b ks vs c) (hb : GoodBook b) : bltD .sorted [.dit ks vs] = some (.own (.lst (((stamps b).filter (hasK ks)).map stD))) := by
  show (if srtOk (keysD ks) then some (Val.own (.lst (srtD (keysD ks)))) else none) = _
  have q : srtOk (keysD ks) = true := by
    rw [h.typed]
    refine srtOk_map stD _ (fun x => ⟨rfl, rfl, by show 1 ≤ 60; omega, rfl⟩) (fun x y => rfl) ?_
    unfold keysD
    rw [List.length_map, List.length_map]
    have := h.short hb
    omega
  rw [if_pos q, h.sortedD]
end
section
variable {P : Str → Option Df} {gl : Str → Option D} {S : Store} {n : Nat} {b : Book} {ks ks2 : List (List Key)} {vs vs2 : List D} {c c2 : Stm → Int}
theorem law_counts (hP : HasCounts P) (hn : 1 ≤ n) (hb : GoodBook b) {d : D} {xs : List Stm} (hd : d = .tup (xs.map stD) ∨ d = .lst (xs.map stD)) (hx : ∀ s ∈ xs, okS b s) {C : Val → Store → Prop} {X : Ex → Store → Prop}
    (hC : ∀ ks vs, Cnt b ks vs (cnt xs) → C (.own (.dT ks vs)) S) : (callN P gl n "_law_counts" [d] S).wp C X := by
  obtain ⟨n, rfl⟩ : ∃ k, n = k + 1 := ⟨n - 1, by omega⟩
  rw [callN_run hP.counts rfl]
  show (RS.done (exs (callN P gl n) gl f_law_counts.body [some (.fz d), none, none] S)).wp _ _
  unfold f_law_counts
  have loop : ∀ {N : Eng.Frame → Store → Prop} {R : Val → Eng.Frame → Store → Prop} {E : EK}, (∀ x ks vs, Cnt b ks vs (cnt xs) → N [some (.fz d), some (.own (.dT ks vs)), x] S) →
      (loopGo (.nm 2) (exs (callN P gl n) gl (.cons (.setd 1 (.var 2) (.bin .add (.mthv .get2 1 (.cons (.var 2) (.cons (.con (.int 0)) .nil))) (.con (.int 1)))) .nil)) (xs.map stD) [some (.fz d), some (.own (.dT [] [])), none] S).wp N R E := by
    intro N R E hN
    refine wp_loopM stD (fun i fr T => T = S ∧ ∃ ks vs x, fr = [some (.fz d), some (.own (.dT ks vs)), x] ∧ Cnt b ks vs (cnt (xs.take i))) ⟨rfl, [], [], none, rfl, Cnt.empty b⟩ ?_ ?_
    · rintro i s fr T hi ⟨rfl, ks, vs, x, rfl, hc⟩
      refine ⟨[some (.fz d), some (.own (.dT ks vs)), some (.fz (stD s))], rfl, ?_⟩
      have hs := hx s (List.mem_of_getElem? hi)
      have hg := hc.get2 s
      have st : setdX 1 (stD s) (.int (cnt (xs.take i) s + 1)) [some (.fz d), some (.own (.dT ks vs)), some (.fz (stD s))] T = .nx [some (.fz d), some (.own (.dT (putKs ks (stK s)) (putVs ks vs (stK s) (.int (cnt (xs.take i) s + 1))))), some (.fz (stD s))] T := setd_T (k := stK s) rfl rfl (by have := hc.short hb; have := big; omega)
      have nc := (hc.put hs (m := 1) (by omega)).congr (cnt_take hi)
      clear hc hs hi hd
      walk_at "eng*"
      exact ⟨trivial, _, _, _, rfl, nc⟩
    · rintro fr T ⟨rfl, ks, vs, x, rfl, hc⟩
      rw [List.take_length] at hc
      exact hN x ks vs hc
  rcases hd with rfl | rfl
  · walk_at "eng"
    refine loop fun x ks vs hc => ?_
    have fin := hC ks vs hc
    clear hc hC loop
    walk_at "eng*"
  · walk_at "eng"
    refine loop fun x ks vs hc => ?_
    have fin := hC ks vs hc
    clear hc hC loop
    walk_at "eng*"
theorem law_all (hP : HasAll P) (hn : 1 ≤ n) (hb : GoodBook b) (hc : Cnt b ks vs c) : callN P gl n "_law_all" [.dit ks vs] S = .ok (.own (.lst (allOf b c))) S := by
  obtain ⟨n, rfl⟩ : ∃ k, n = k + 1 := ⟨n - 1, by omega⟩
  rw [callN_run hP.all rfl]
  refine RC.eq_of ?_
  show (RS.done (exs (callN P gl n) gl f_law_all.body [some (.fz (.dit ks vs)), none] S)).wp _ _
  unfold f_law_all
  have so := hc.sorted hb
  have k1 : look S (.dit ks vs) = .dit ks vs := rfl
  walk_at "eng*"
  refine wp_compM stD (fun s => .tup [stD s, .int (c s)]) (fun s => decide (0 < c s)) ((stamps b).filter (hasK ks)) [some (.fz (.dit ks vs)), none] rfl rfl rfl (by have := stamps_len hb; have := big; have := List.length_filter_le (hasK ks) (stamps b); omega) (fun s hs => ⟨[some (.fz (.dit ks vs)), some (.fz (stD s))], rfl, ?_, fun _ => ?_, rfl⟩) ?_
  · have hg := hc.sub (hasK_iff.mp (List.mem_filter.mp hs).2)
    clear so hc hs
    walk_at "eng*"
    exact ⟨trivial, trivial, trivial⟩
  · have hg := hc.sub (hasK_iff.mp (List.mem_filter.mp hs).2)
    clear so hc hs
    walk_at "eng*"
    exact ⟨trivial, trivial, trivial⟩
  · have e : ((stamps b).filter (hasK ks)).filter (fun s => decide (0 < c s)) = (stamps b).filter fun s => decide (0 < c s) := by
      rw [List.filter_filter]
      refine List.filter_congr fun s _ => ?_
      by_cases q : 0 < c s
      · rw [decide_eq_true q, hasK_iff.mpr (hc.mem q)]; rfl
      · rw [decide_eq_false q]; rfl
    rw [e]
    clear so hc e
    walk_at "eng*"
    exact ⟨rfl, trivial⟩
def apD (c c2 : Stm → Int) (xs : List Stm) : List D := (xs.filter fun s => !decide (c s = c2 s)).map fun s => .tup [stD s, .int (c s), .int (c2 s)]
theorem apD_app (xs ys : List Stm) : apD c c2 (xs ++ ys) = apD c c2 xs ++ apD c c2 ys := by unfold apD; rw [List.filter_append, List.map_append]
theorem apD_len (xs : List Stm) : (apD c c2 xs).length ≤ xs.length := by unfold apD; rw [List.length_map]; exact List.length_filter_le _ _
theorem apart_in {cf : CF} {bd : D} {pl : D} {x : Option Val} (hc : Cnt b ks vs c) (hc2 : Cnt b ks2 vs2 c2) {acc ys : List Stm} (hl : acc.length + ys.length ≤ 1000) {N : Eng.Frame → Store → Prop} {R : Val → Eng.Frame → Store → Prop} {E : EK} (hN : ∀ x, N [some (.fz bd), some (.fz (.dit ks vs)), some (.fz (.dit ks2 vs2)), some (.own (.lst (apD c c2 (acc ++ ys)))), some (.fz pl), x] S) :
    (loopGo (.nm 5) (exs cf gl (.cons (.cond (.cmp .ne (.mthv .get2 1 (.cons (.var 5) (.cons (.con (.int 0)) .nil))) (.mthv .get2 2 (.cons (.var 5) (.cons (.con (.int 0)) .nil)))) (.cons (.appv 3 (.tup (.cons (.var 5) (.cons (.mthv .get2 1 (.cons (.var 5) (.cons (.con (.int 0)) .nil))) (.cons (.mthv .get2 2 (.cons (.var 5) (.cons (.con (.int 0)) .nil))) .nil))))) .nil) .nil) .nil)) (ys.map stD) [some (.fz bd), some (.fz (.dit ks vs)), some (.fz (.dit ks2 vs2)), some (.own (.lst (apD c c2 acc))), some (.fz pl), x] S).wp N R E := by
  refine wp_loopM stD (fun i fr T => T = S ∧ ∃ x, fr = [some (.fz bd), some (.fz (.dit ks vs)), some (.fz (.dit ks2 vs2)), some (.own (.lst (apD c c2 (acc ++ ys.take i)))), some (.fz pl), x]) ⟨rfl, x, by rw [List.take_zero, List.append_nil]⟩ ?_ ?_
  · rintro i s fr T hi ⟨rfl, x, rfl⟩
    refine ⟨[some (.fz bd), some (.fz (.dit ks vs)), some (.fz (.dit ks2 vs2)), some (.own (.lst (apD c c2 (acc ++ ys.take i)))), some (.fz pl), some (.fz (stD s))], rfl, ?_⟩
    have k1 : look T (.dit ks vs) = .dit ks vs := rfl
    have k2 : look T (.dit ks2 vs2) = .dit ks2 vs2 := rfl
    have g1 := hc.get2 s
    have g2 := hc2.get2 s
    have ht : ys.take (i + 1) = ys.take i ++ [s] := by rw [List.take_add_one, hi]; rfl
    have lt : (apD c c2 (acc ++ ys.take i)).length < sizeLine := by
      have := apD_len (c := c) (c2 := c2) (acc ++ ys.take i)
      rw [List.length_append, List.length_take] at this
      have := big
      omega
    have hap : apD c c2 (acc ++ ys.take (i + 1)) = apD c c2 (acc ++ ys.take i) ++ apD c c2 [s] := by rw [ht, ← List.append_assoc, apD_app]
    have ap : ∀ d, appX 3 d [some (.fz bd), some (.fz (.dit ks vs)), some (.fz (.dit ks2 vs2)), some (.own (.lst (apD c c2 (acc ++ ys.take i)))), some (.fz pl), some (.fz (stD s))] T = .nx [some (.fz bd), some (.fz (.dit ks vs)), some (.fz (.dit ks2 vs2)), some (.own (.lst (apD c c2 (acc ++ ys.take i) ++ [d]))), some (.fz pl), some (.fz (stD s))] T := fun d => by
      unfold appX; exact if_pos lt
    by_cases q : c s = c2 s
    · have e : (c s == c2 s) = true := by rw [q]; simp
      have e1 : apD c c2 [s] = [] := by unfold apD; simp [q]
      rw [e1, List.append_nil] at hap
      clear hc hc2 hl ht lt q hi hN ap
      walk_at "eng*"
      exact ⟨trivial, _, rfl⟩
    · have e : (c s == c2 s) = false := by simpa using q
      have e1 : apD c c2 [s] = [.tup [stD s, .int (c s), .int (c2 s)]] := by unfold apD; simp [q]
      rw [e1] at hap
      clear hc hc2 hl ht lt q hi hN
      walk_at "eng*"
      exact ⟨trivial, _, rfl⟩
  · rintro fr T ⟨rfl, x, rfl⟩
    rw [List.take_length]
    exact hN x
theorem law_apart (hP : HasApart P) (hn : 2 ≤ n) (hb : GoodBook b) (hc : Cnt b ks vs c) (hc2 : Cnt b ks2 vs2 c2) : callN P gl n "_law_apart" [.tup (b.map serD), .dit ks vs, .dit ks2 vs2] S = .ok (.own (.lst (partD b c c2))) S := by
  obtain ⟨n, rfl⟩ : ∃ k, n = k + 1 := ⟨n - 1, by omega⟩
  rw [callN_run hP.apart rfl]
  refine RC.eq_of ?_
  show (RS.done (exs (callN P gl n) gl f_law_apart.body [some (.fz (.tup (b.map serD))), some (.fz (.dit ks vs)), some (.fz (.dit ks2 vs2)), none, none, none] S)).wp _ _
  unfold f_law_apart
  have w := law_places (gl := gl) (S := S) (n := n) hP.toHasLawPlaces (by omega) hb
  have hB := big
  walk_at "eng*"
  refine wp_loopM plD (fun i fr T => T = S ∧ ∃ x y, fr = [some (.fz (.tup (b.map serD))), some (.fz (.dit ks vs)), some (.fz (.dit ks2 vs2)), some (.own (.lst (apD c c2 (stampsTo b i)))), x, y]) ⟨rfl, none, none, rfl⟩ ?_ ?_
  · rintro i p fr T hi ⟨rfl, x, y, rfl⟩
    refine ⟨[some (.fz (.tup (b.map serD))), some (.fz (.dit ks vs)), some (.fz (.dit ks2 vs2)), some (.own (.lst (apD c c2 (stampsTo b i)))), some (.fz (plD p)), y], rfl, ?_⟩
    have p0 : binD .add (plD p) (.tup [.int 0]) = some (.fz (stD (p.1, p.2, 0))) := plus_tup p 0
    have p1 : binD .add (plD p) (.tup [.int 1]) = some (.fz (stD (p.1, p.2, 1))) := plus_tup p 1
    have lk : look T (plD p) = plD p := rfl
    have sl := stampsTo_len b i
    have pl := places_len hb
    clear w
    walk_at "eng*"
    refine apart_in (acc := stampsTo b i) (ys := [(p.1, p.2, 0), (p.1, p.2, 1)]) hc hc2 (by show _ + 2 ≤ _; omega) fun x => ?_
    rw [← stampsTo_succ b hi]
    clear p0 p1 lk hi
    walk_at "eng*"
    exact ⟨trivial, _, _, rfl⟩
  · rintro fr T ⟨rfl, x, y, rfl⟩
    have e : stampsTo b (places b).length = stamps b := by unfold stampsTo stamps; rw [List.take_length]
    rw [e]
    clear w
    walk_at "eng*"
    exact ⟨rfl, trivial⟩
end
end Al
end

section
/-! Like things are like; what stands through a turn of a law. -/
namespace Al
open PySem L2 Eng
open Fn
mutual
theorem eqv_refl : ∀ d : D, D.pl d = true → D.eqv d d = true
  | .non, _ => rfl
  | .bl b, _ => by show (b == b) = true; simp
  | .int i, _ => by show (i == i) = true; simp
  | .str x, _ => by show (x == x) = true; simp
  | .lst xs, h => eqvs_refl xs h
  | .tup xs, h => eqvs_refl xs h
  | .dic _ _, h => nomatch h
  | .dit _ _, h => nomatch h
  | .ref _, h => nomatch h
  | .scr _, h => nomatch h
theorem eqvs_refl : ∀ xs : List D, D.pls xs = true → D.eqvs xs xs = true
  | [], _ => rfl
  | x :: xs, h => by
    have h : (D.pl x && D.pls xs) = true := h
    rw [Bool.and_eq_true] at h
    show (D.eqv x x && D.eqvs xs xs) = true
    rw [eqv_refl x h.1, eqvs_refl xs h.2]; rfl
end
theorem ne_self {d : D} (h : D.pl d = true) (h2 : d.dep ≤ 64) : cmpD .ne d d = some false := by
  show (if D.fit d d then some (!D.eqv d d) else none) = _
  have : D.fit d d = true := by unfold D.fit; rw [h, decide_eq_true (by omega : min d.dep d.dep ≤ 64)]; rfl
  rw [if_pos this, eqv_refl d h]; rfl
theorem eq_self {d : D} (h : D.pl d = true) (h2 : d.dep ≤ 64) : cmpD .eq d d = some true := by
  show (if D.fit d d then some (D.eqv d d) else none) = _
  have : D.fit d d = true := by unfold D.fit; rw [h, decide_eq_true (by omega : min d.dep d.dep ≤ 64)]; rfl
  rw [if_pos this, eqv_refl d h]
theorem pl_map {α : Type} (f : α → D) (j : Nat) (h : ∀ x, D.pl (f x) = true ∧ D.dep (f x) ≤ j) (xs : List α) : D.pls (xs.map f) = true ∧ D.deps (xs.map f) ≤ j :=
  ⟨pls_mem fun x hx => by obtain ⟨y, _, rfl⟩ := List.mem_map.mp hx; exact (h y).1, deps_mem2 fun x hx => by obtain ⟨y, _, rfl⟩ := List.mem_map.mp hx; exact (h y).2⟩
theorem pl_allOf (b : Book) (c : Stm → Int) : D.pl (.lst (allOf b c)) = true ∧ D.dep (.lst (allOf b c)) ≤ 3 := by
  have := pl_map (fun s => D.tup [stD s, .int (c s)]) 2 (fun s => ⟨rfl, Nat.le_refl _⟩) ((stamps b).filter fun s => decide (0 < c s))
  exact ⟨this.1, by show D.deps (allOf b c) + 1 ≤ 3; have := this.2; unfold allOf; omega⟩
theorem pl_partD (b : Book) (c c2 : Stm → Int) : D.pl (.lst (partD b c c2)) = true ∧ D.dep (.lst (partD b c c2)) ≤ 3 := by
  have := pl_map (fun s => D.tup [stD s, .int (c s), .int (c2 s)]) 2 (fun s => ⟨rfl, Nat.le_refl _⟩) ((stamps b).filter fun s => !decide (c s = c2 s))
  exact ⟨this.1, by show D.deps (partD b c c2) + 1 ≤ 3; have := this.2; unfold partD; omega⟩
theorem pl_book (b : Book) : D.pl (.tup (b.map serD)) = true ∧ D.dep (.tup (b.map serD)) ≤ 2 := by
  have := pl_map serD 1 (fun s => ⟨rfl, Nat.le_refl _⟩) b
  exact ⟨this.1, by show D.deps (b.map serD) + 1 ≤ 2; have := this.2; omega⟩
theorem ne_allOf (b : Book) (c : Stm → Int) : cmpD .ne (.lst (allOf b c)) (.lst (allOf b c)) = some false := ne_self (pl_allOf b c).1 (by have := (pl_allOf b c).2; omega)
theorem ne_partD (b : Book) (c c2 : Stm → Int) : cmpD .ne (.lst (partD b c c2)) (.lst (partD b c c2)) = some false := ne_self (pl_partD b c c2).1 (by have := (pl_partD b c c2).2; omega)
theorem ne_book (b : Book) : cmpD .ne (.tup (b.map serD)) (.tup (b.map serD)) = some false := ne_self (pl_book b).1 (by have := (pl_book b).2; omega)
theorem ne_two {x y : D} (hx : D.pl x = true) (hy : D.pl y = true) (dx : x.dep ≤ 60) (dy : y.dep ≤ 60) : cmpD .ne (.lst [x, y]) (.lst [x, y]) = some false := by
  refine ne_self ?_ ?_
  · show (D.pl x && (D.pl y && true)) = true
    rw [hx, hy]; rfl
  · show max x.dep (max y.dep 0) + 1 ≤ 64
    omega
theorem partD_self (b : Book) (c : Stm → Int) : partD b c c = [] := by
  unfold partD
  rw [List.filter_eq_nil_iff.mpr (fun s _ => by simp)]; rfl
theorem partD_len {b : Book} (hb : GoodBook b) (c c2 : Stm → Int) : (partD b c c2).length ≤ 48 := by
  unfold partD
  rw [List.length_map]
  have := List.length_filter_le (fun s => !decide (c s = c2 s)) (stamps b)
  have := stamps_len hb
  omega
theorem cnt_app (xs ys : List Stm) (s : Stm) : cnt xs s + cnt ys s = cnt (xs ++ ys) s := by
  unfold cnt
  rw [List.count_append]; omega
theorem cnt_filter (xs : List Stm) (q : Stm → Bool) (s : Stm) : cnt (xs.filter q) s = if q s then cnt xs s else 0 := by
  unfold cnt
  cases e : q s with
  | true => rw [List.count_filter e]; rfl
  | false =>
    rw [List.count_eq_zero.mpr (fun h => by have := (List.mem_filter.mp h).2; rw [e] at this; cases this)]; rfl
/-- a pen and two albums of one list -/
structure Base (p a1 k1 a2 k2 : Nat) (b : Book) (n1 n2 : Str) (c1 c2 : Stm → Int) (T : Store) : Prop where
  pen : PenAt T p
  one : AlbumAt T a1 k1 b n1 c1
  other : AlbumAt T a2 k2 b n2 c2
theorem PenAt.grow {S T : Store} {p : Nat} (h : PenAt S p) (g : Grow S T) : PenAt T p := PenAt.of h (g.old _ (PenAt.lt h))
section
variable {p a1 k1 a2 k2 : Nat} {b : Book} {n1 n2 : Str} {c1 c2 : Stm → Int} {S T : Store}
theorem Base.grow (h : Base p a1 k1 a2 k2 b n1 n2 c1 c2 S) (g : Grow S T) : Base p a1 k1 a2 k2 b n1 n2 c1 c2 T := ⟨PenAt.grow h.pen g, h.one.grow g, h.other.grow g⟩
theorem Base.moved (h : Base p a1 k1 a2 k2 b n1 n2 c1 c2 S) (m : Moved p S T) (hp : PenAt T p) : Base p a1 k1 a2 k2 b n1 n2 c1 c2 T := ⟨hp, h.one.moved h.pen m, h.other.moved h.pen m⟩
end
def psD (ps : List Nat) : D := .tup (ps.map fun i : Nat => D.int (i : Nat))
theorem rg_nat (j : Nat) : rgD 0 (j : Int) = (List.range j).map fun q : Nat => D.int (q : Nat) := by
  unfold rgD
  rw [show ((j : Int) - 0).toNat = j by omega]
  exact List.map_congr_left fun i _ => by rw [Int.zero_add]
theorem kTuprg_nat {j : Nat} {fr : Eng.Frame} {S : Store} (h : j ≤ 1000000) : kTuprg (.int (j : Int)) fr S = .ok (.fz (.tup ((List.range j).map fun q : Nat => D.int (q : Nat)))) fr S := by
  rw [kTuprg_eq ⟨by unfold rgOk; exact decide_eq_true (by omega), by rw [Int.toNat_natCast]; omega⟩, rg_nat]
end Al
end

section
namespace K09
open PySem L2 Eng
def top (i : Nat) : Stmt := PySem.Challenge.pw_hingemount_k09_joined_parted_parting.main.body.getD i (.Pass ⟨0, 0, 0, 0⟩)
def f_is_whole : Df := ⟨"is_whole", 1, 1, (.cons (.ret (.and (.isi .int (.var 0)) (.not (.isi .bool (.var 0))))) .nil), []⟩
def f_is_from : Df := ⟨"is_from", 3, 3, (.cons (.ret (.and (.call "is_whole" (.cons (.var 0) .nil)) (.chain .le .le (.var 1) (.var 0) (.var 2)))) .nil), []⟩
def f_is_word : Df := ⟨"is_word", 2, 3, (.cons (.cond (.or (.not (.isi .str (.var 0))) (.not (.chain .le .le (.var 1) (.bltv .len 0) (.glo "MOST_LETTERS")))) (.cons (.ret (.con (.bl false))) .nil) .nil) (.cons (.ret (.blt .all (.cons (.comp (.cmpl .inn 2 (.glo "LETTERS")) (.nm 2) (.seq (.var 0)) .nil) .nil))) .nil)), []⟩
def f_rises : Df := ⟨"rises", 1, 3, (.cons (.ret (.blt .all (.cons (.comp (.cmpl .lt 1 (.var 2)) (.tp (.cons (.nm 1) (.cons (.nm 2) .nil))) (.zip (.var 0) (.slice (.var 0) (.con (.int 1)) .omit)) .nil) .nil))) .nil), []⟩
def f_is_set : Df := ⟨"is_set", 1, 1, (.cons (.cond (.or (.not (.isi .tuple (.var 0))) (.or (.cmp .ne (.bltv .len 0) (.con (.int 3))) (.not (.call "is_word" (.cons (.subv 0 (.con (.int 0))) (.cons (.con (.int 1)) .nil)))))) (.cons (.ret (.con (.bl false))) .nil) .nil) (.cons (.ret (.and (.call "is_from" (.cons (.subv 0 (.con (.int 1))) (.cons (.glo "FIRST_YEAR") (.cons (.glo "LAST_YEAR") .nil)))) (.call "is_from" (.cons (.subv 0 (.con (.int 2))) (.cons (.con (.int 1)) (.cons (.glo "MOST_MANY") .nil)))))) .nil)), []⟩
def f_is_list : Df := ⟨"is_list", 1, 2, (.cons (.cond (.or (.not (.isi .tuple (.var 0))) (.or (.not (.chain .le .le (.con (.int 1)) (.bltv .len 0) (.glo "MOST_SETS"))) (.not (.blt .all (.cons (.comp (.call "is_set" (.cons (.var 1) .nil)) (.nm 1) (.seq (.var 0)) .nil) .nil))))) (.cons (.ret (.con (.bl false))) .nil) .nil) (.cons (.ret (.call "rises" (.cons (.comp (.slice (.var 1) .omit (.con (.int 2))) (.nm 1) (.seq (.var 0)) .nil) .nil))) .nil)), []⟩
def f_is_place : Df := ⟨"is_place", 2, 2, (.cons (.cond (.or (.not (.isi .tuple (.var 1))) (.or (.cmp .ne (.bltv .len 1) (.con (.int 2))) (.not (.call "is_from" (.cons (.subv 1 (.con (.int 0))) (.cons (.con (.int 0)) (.cons (.bin .sub (.bltv .len 0) (.con (.int 1))) .nil))))))) (.cons (.ret (.con (.bl false))) .nil) .nil) (.cons (.ret (.call "is_from" (.cons (.subv 1 (.con (.int 1))) (.cons (.con (.int 0)) (.cons (.bin .sub (.sub (.subv 0 (.subv 1 (.con (.int 0)))) (.con (.int 2))) (.con (.int 1))) .nil))))) .nil)), []⟩
def f_is_stamp : Df := ⟨"is_stamp", 2, 2, (.cons (.cond (.or (.not (.isi .tuple (.var 1))) (.cmp .ne (.bltv .len 1) (.con (.int 3)))) (.cons (.ret (.con (.bl false))) .nil) .nil) (.cons (.ret (.and (.call "is_place" (.cons (.var 0) (.cons (.slice (.var 1) .omit (.con (.int 2))) .nil))) (.call "is_from" (.cons (.subv 1 (.con (.int 2))) (.cons (.con (.int 0)) (.cons (.con (.int 1)) .nil)))))) .nil)), []⟩
def f_need_stamp : Df := ⟨"need_stamp", 2, 2, (.cons (.cond (.not (.call "is_stamp" (.cons (.var 0) (.cons (.var 1) .nil)))) (.cons (.raise "NoStamp") .nil) .nil) .nil), []⟩
def f_need_number : Df := ⟨"need_number", 2, 2, (.cons (.cond (.or (.not (.call "is_whole" (.cons (.var 0) .nil))) (.cmpl .lt 0 (.var 1))) (.cons (.raise "NoNumber") .nil) .nil) .nil), []⟩
def f_all_places : Df := ⟨"all_places", 1, 7, (.cons (.set 1 (.lst .nil)) (.cons (.loop (.tp (.cons (.nm 2) (.cons (.tp (.cons (.nm 3) (.cons (.nm 4) (.cons (.nm 5) .nil)))) .nil))) (.enm (.var 0)) (.cons (.extv 1 (.comp (.tup (.cons (.var 2) (.cons (.var 6) .nil))) (.nm 6) (.rng1 (.var 5)) .nil)) .nil)) (.cons (.ret (.var 1)) .nil))), []⟩
def f_all_stamps : Df := ⟨"all_stamps", 1, 3, (.cons (.set 1 (.lst .nil)) (.cons (.loop (.nm 2) (.seq (.call "all_places" (.cons (.var 0) .nil))) (.cons (.extv 1 (.lst (.cons (.bin .add (.var 2) (.tup (.cons (.con (.int 0)) .nil))) (.cons (.bin .add (.var 2) (.tup (.cons (.con (.int 1)) .nil))) .nil)))) .nil)) (.cons (.ret (.var 1)) .nil))), []⟩
def f_are_stamps : Df := ⟨"are_stamps", 2, 3, (.cons (.cond (.cmpl .isN 1 (.con .non)) (.cons (.ret (.con (.bl true))) .nil) .nil) (.cons (.ret (.and (.isi .tuple (.var 1)) (.blt .all (.cons (.comp (.call "is_stamp" (.cons (.var 0) (.cons (.var 2) .nil))) (.nm 2) (.seq (.var 1)) .nil) .nil)))) .nil)), []⟩
def f_Album__init_ : Df := ⟨"Album.__init__", 4, 5, (.cons (.cond (.not (.call "is_list" (.cons (.var 1) .nil))) (.cons (.raise "NoList") .nil) .nil) (.cons (.cond (.not (.call "is_word" (.cons (.var 2) (.cons (.con (.int 0)) .nil)))) (.cons (.raise "NoName") .nil) .nil) (.cons (.cond (.not (.call "are_stamps" (.cons (.var 1) (.cons (.var 3) .nil)))) (.cons (.raise "NoStamps") .nil) .nil) (.cons (.setf "Album" "sets" (.var 0) (.var 1)) (.cons (.setf "Album" "name" (.var 0) (.var 2)) (.cons (.setf "Album" "many" (.var 0) (.dic0 true)) (.cons (.loop (.nm 4) (.seq (.orv (.var 3) (.tup .nil))) (.cons (.setrd (.fld "Album" "many" (.var 0)) (.var 4) (.bin .add (.mth .get2 (.fld "Album" "many" (.var 0)) (.cons (.var 4) (.cons (.con (.int 0)) .nil))) (.con (.int 1)))) .nil)) .nil))))))), [.str "", .non]⟩
def f_Album_put : Df := ⟨"Album.put", 3, 3, (.cons (.exp (.call "need_stamp" (.cons (.fld "Album" "sets" (.var 0)) (.cons (.var 1) .nil)))) (.cons (.exp (.call "need_number" (.cons (.var 2) (.cons (.con (.int 1)) .nil)))) (.cons (.setrd (.fld "Album" "many" (.var 0)) (.var 1) (.bin .add (.mth .get2 (.fld "Album" "many" (.var 0)) (.cons (.var 1) (.cons (.con (.int 0)) .nil))) (.var 2))) .nil))), [.int 1]⟩
def f_Album_take : Df := ⟨"Album.take", 3, 3, (.cons (.exp .never) .nil), [.int 1]⟩
def f_Album_book : Df := ⟨"Album.book", 1, 1, (.cons (.ret (.fld "Album" "sets" (.var 0))) .nil), []⟩
def f_Album_called : Df := ⟨"Album.called", 1, 1, (.cons (.ret (.fld "Album" "name" (.var 0))) .nil), []⟩
def f_Album_count_of : Df := ⟨"Album.count_of", 2, 2, (.cons (.exp (.call "need_stamp" (.cons (.fld "Album" "sets" (.var 0)) (.cons (.var 1) .nil)))) (.cons (.ret (.mth .get2 (.fld "Album" "many" (.var 0)) (.cons (.var 1) (.cons (.con (.int 0)) .nil)))) .nil)), []⟩
def f_Album_all_of : Df := ⟨"Album.all_of", 1, 2, (.cons (.ret (.comp (.tup (.cons (.var 1) (.cons (.sub (.fld "Album" "many" (.var 0)) (.var 1)) .nil))) (.nm 1) (.seq (.call "all_stamps" (.cons (.fld "Album" "sets" (.var 0)) .nil))) (.cons (.cmp .gt (.mth .get2 (.fld "Album" "many" (.var 0)) (.cons (.var 1) (.cons (.con (.int 0)) .nil))) (.con (.int 0))) .nil))) .nil), []⟩
def f_Album_has_place : Df := ⟨"Album.has_place", 2, 2, (.cons (.exp .never) .nil), []⟩
def f_Album_gaps : Df := ⟨"Album.gaps", 2, 2, (.cons (.exp .never) .nil), []⟩
def f_Album_doubles : Df := ⟨"Album.doubles", 1, 1, (.cons (.exp .never) .nil), []⟩
def f_Album_whole_sets : Df := ⟨"Album.whole_sets", 1, 1, (.cons (.exp .never) .nil), []⟩
def f_Album_twin : Df := ⟨"Album.twin", 1, 4, (.cons (.set 1 (.make "Album" "Album.__init__" (.cons (.fld "Album" "sets" (.var 0)) (.cons (.fld "Album" "name" (.var 0)) .nil)))) (.cons (.loop (.tp (.cons (.nm 2) (.cons (.nm 3) .nil))) (.seq (.meth "Album" "all_of" "Album.all_of" (.var 0) .nil)) (.cons (.exp (.meth "Album" "put" "Album.put" (.var 1) (.cons (.var 2) (.cons (.var 3) .nil)))) .nil)) (.cons (.ret (.var 1)) .nil))), []⟩
def f_Album_all_many : Df := ⟨"Album.all_many", 1, 3, (.cons (.ret (.blt .sum (.cons (.comp (.var 2) (.tp (.cons (.nm 1) (.cons (.nm 2) .nil))) (.seq (.meth "Album" "all_of" "Album.all_of" (.var 0) .nil)) .nil) .nil))) .nil), []⟩
def f_Album__len_ : Df := ⟨"Album.__len__", 1, 1, (.cons (.ret (.blt .len (.cons (.meth "Album" "all_of" "Album.all_of" (.var 0) .nil) .nil))) .nil), []⟩
def f_Album__eq_ : Df := ⟨"Album.__eq__", 2, 2, (.cons (.ret (.and (.isc "Album" (.var 1)) (.and (.cmp .eq (.fld "Album" "sets" (.var 0)) (.fld "Album" "sets" (.var 1))) (.cmp .eq (.meth "Album" "all_of" "Album.all_of" (.var 0) .nil) (.meth "Album" "all_of" "Album.all_of" (.var 1) .nil))))) .nil), []⟩
def f_Album__repr_ : Df := ⟨"Album.__repr__", 1, 1, (.cons (.ret .never) .nil), []⟩
def f_Album__str_ : Df := ⟨"Album.__str__", 1, 1, (.cons (.ret (.mth .join (.con (.str "\n")) (.cons (.meth "Album" "rows" "Album.rows" (.var 0) .nil) .nil))) .nil), []⟩
def f_Album_rows : Df := ⟨"Album.rows", 1, 10, (.cons (.set 1 (.mth .join (.con (.str ";")) (.cons (.comp .never (.tp (.cons (.nm 8) (.cons (.nm 9) (.cons (.nm 3) .nil)))) (.seq (.fld "Album" "sets" (.var 0))) .nil) .nil))) (.cons (.set 2 (.lst (.cons (.ife (.cmp .ne (.fld "Album" "name" (.var 0)) (.con (.str ""))) .never (.con (.str "album"))) (.cons .never .nil)))) (.cons (.loop (.tp (.cons (.tp (.cons (.nm 5) (.cons (.nm 6) (.cons (.nm 7) .nil)))) (.cons (.nm 3) .nil))) (.seq (.meth "Album" "all_of" "Album.all_of" (.var 0) .nil)) (.cons (.set 4 (.sub (.lst (.cons (.con (.str "hinged")) (.cons (.con (.str "whole")) .nil))) (.var 7))) (.cons (.appv 2 .never) .nil))) (.cons (.ret (.var 2)) .nil)))), []⟩
def f_joined : Df := ⟨"joined", 2, 5, (.cons (.set 2 (.meth "Album" "twin" "Album.twin" (.var 0) .nil)) (.cons (.loop (.tp (.cons (.nm 3) (.cons (.nm 4) .nil))) (.seq (.meth "Album" "all_of" "Album.all_of" (.var 1) .nil)) (.cons (.exp (.meth "Album" "put" "Album.put" (.var 2) (.cons (.var 3) (.cons (.var 4) .nil)))) .nil)) (.cons (.ret (.var 2)) .nil))), []⟩
def f_are_sets : Df := ⟨"are_sets", 2, 3, (.cons (.ret (.and (.isi .tuple (.var 1)) (.and (.blt .all (.cons (.comp (.call "is_from" (.cons (.var 2) (.cons (.con (.int 0)) (.cons (.bin .sub (.bltv .len 0) (.con (.int 1))) .nil)))) (.nm 2) (.seq (.var 1)) .nil) .nil)) (.call "rises" (.cons (.var 1) .nil))))) .nil), []⟩
def f_parted : Df := ⟨"parted", 2, 6, (.cons (.cond (.not (.call "are_sets" (.cons (.meth "Album" "book" "Album.book" (.var 0) .nil) (.cons (.var 1) .nil)))) (.cons (.raise "NoSets") .nil) .nil) (.cons (.par 2 3 (.make "Album" "Album.__init__" (.cons (.meth "Album" "book" "Album.book" (.var 0) .nil) (.cons (.meth "Album" "called" "Album.called" (.var 0) .nil) .nil))) (.make "Album" "Album.__init__" (.cons (.meth "Album" "book" "Album.book" (.var 0) .nil) (.cons (.meth "Album" "called" "Album.called" (.var 0) .nil) .nil)))) (.cons (.loop (.tp (.cons (.nm 4) (.cons (.nm 5) .nil))) (.seq (.meth "Album" "all_of" "Album.all_of" (.var 0) .nil)) (.cons (.cond (.cmpv .inn (.subv 4 (.con (.int 0))) 1) (.cons (.exp (.meth "Album" "put" "Album.put" (.var 2) (.cons (.var 4) (.cons (.var 5) .nil)))) .nil) (.cons (.exp (.meth "Album" "put" "Album.put" (.var 3) (.cons (.var 4) (.cons (.var 5) .nil)))) .nil)) .nil)) (.cons (.ret (.tup (.cons (.var 2) (.cons (.var 3) .nil)))) .nil)))), []⟩
def f_parting : Df := ⟨"parting", 2, 6, (.cons (.set 2 (.lst .nil)) (.cons (.loop (.nm 3) (.seq (.call "all_stamps" (.cons (.meth "Album" "book" "Album.book" (.var 0) .nil) .nil))) (.cons (.par 4 5 (.meth "Album" "count_of" "Album.count_of" (.var 0) (.cons (.var 3) .nil)) (.meth "Album" "count_of" "Album.count_of" (.var 1) (.cons (.var 3) .nil))) (.cons (.cond (.cmpl .ne 4 (.var 5)) (.cons (.appv 2 (.tup (.cons (.var 3) (.cons (.var 4) (.cons (.var 5) .nil))))) .nil) .nil) .nil))) (.cons (.ret (.var 2)) .nil))), []⟩
def f_law_cell_at : Df := ⟨"_law_cell_at", 2, 2, (.cons (.cond (.cmpl .lt 1 (.bltv .len 0)) (.cons (.ret (.subv 0 (.var 1))) .nil) .nil) (.cons (.ret (.con (.int 0))) .nil)), []⟩
def f_law_pen : Df := ⟨"_law_pen", 1, 1, (.cons (.ret (.share (.lst (.cons (.var 0) (.cons (.blt .int (.cons (.cmpl .ge 0 (.bin .pow (.con (.int 10)) (.con (.int 18)))) .nil)) (.cons (.con (.int 0)) (.cons (.bin .mod (.var 0) (.con (.int 1000000007))) .nil))))))) .nil), []⟩
def f_law_draw : Df := ⟨"_law_draw", 2, 4, (.cons (.cond (.and (.cmp .eq (.subv 0 (.con (.int 1))) (.con (.int 1))) (.cmp .gt (.subv 0 (.con (.int 0))) (.con (.int 0)))) (.cons (.set 3 (.bin .mod (.subv 0 (.con (.int 0))) (.var 1))) (.cons (.setr (.var 0) (.con (.int 0)) (.bin .fdiv (.subv 0 (.con (.int 0))) (.var 1))) (.cons (.ret (.var 3)) .nil))) .nil) (.cons (.setr (.var 0) (.con (.int 2)) (.bin .add (.subv 0 (.con (.int 2))) (.con (.int 1)))) (.cons (.set 2 (.bin .mod (.bin .mul (.bin .add (.subv 0 (.con (.int 3))) (.con (.int 17))) (.bin .add (.con (.int 69621)) (.bin .mul (.con (.int 2)) (.subv 0 (.con (.int 2)))))) (.con (.int 2147483647)))) (.cons (.set 2 (.bin .mod (.bin .add (.bin .add (.bin .mul (.var 2) (.var 2)) (.bin .mul (.con (.int 40503)) (.subv 0 (.con (.int 2))))) (.con (.int 5))) (.con (.int 2147483629)))) (.cons (.ret (.bin .mod (.bin .fdiv (.bin .mod (.bin .mul (.var 2) (.con (.int 48271))) (.con (.int 2147483647))) (.con (.int 32))) (.var 1))) .nil))))), []⟩
def f_law_list : Df := ⟨"_law_list", 1, 5, (.cons (.set 1 (.dic0 true)) (.cons (.loop (.nm 2) (.rng1 (.bin .add (.con (.int 1)) (.call "_law_draw" (.cons (.var 0) (.cons (.con (.int 4)) .nil))))) (.cons (.set 3 (.sub (.lst (.cons (.con (.str "a")) (.cons (.con (.str "b")) (.cons (.con (.str "ab")) (.cons (.con (.str "abcdefgh")) .nil))))) (.call "_law_draw" (.cons (.var 0) (.cons (.con (.int 4)) .nil))))) (.cons (.set 4 (.sub (.lst (.cons (.con (.int 1840)) (.cons (.con (.int 1900)) (.cons (.con (.int 2100)) (.cons (.bin .add (.con (.int 1840)) (.call "_law_draw" (.cons (.var 0) (.cons (.con (.int 261)) .nil)))) .nil))))) (.call "_law_draw" (.cons (.var 0) (.cons (.con (.int 4)) .nil))))) (.cons (.setd 1 (.tup (.cons (.var 3) (.cons (.var 4) .nil))) (.bin .add (.con (.int 1)) (.call "_law_draw" (.cons (.var 0) (.cons (.sub (.lst (.cons (.con (.int 2)) (.cons (.con (.int 6)) .nil))) (.call "_law_draw" (.cons (.var 0) (.cons (.con (.int 2)) .nil)))) .nil))))) .nil)))) (.cons (.ret (.blt .tuple (.cons (.comp (.tup (.cons (.var 3) (.cons (.var 4) (.cons (.subv 1 (.tup (.cons (.var 3) (.cons (.var 4) .nil)))) .nil)))) (.tp (.cons (.nm 3) (.cons (.nm 4) .nil))) (.seq (.bltv .sorted 1)) .nil) .nil))) .nil))), []⟩
def f_law_places : Df := ⟨"_law_places", 1, 7, (.cons (.set 1 (.lst .nil)) (.cons (.loop (.tp (.cons (.nm 2) (.cons (.tp (.cons (.nm 3) (.cons (.nm 4) (.cons (.nm 5) .nil)))) .nil))) (.enm (.var 0)) (.cons (.set 1 (.bin .add (.var 1) (.comp (.tup (.cons (.var 2) (.cons (.var 6) .nil))) (.nm 6) (.rng1 (.var 5)) .nil))) .nil)) (.cons (.ret (.var 1)) .nil))), []⟩
def f_law_name : Df := ⟨"_law_name", 1, 1, (.cons (.ret (.sub (.lst (.cons (.con (.str "")) (.cons (.con (.str "a")) (.cons (.con (.str "z")) (.cons (.con (.str "ann")) (.cons (.con (.str "bobbobbo")) .nil)))))) (.call "_law_draw" (.cons (.var 0) (.cons (.con (.int 5)) .nil))))) .nil), []⟩
def f_law_stamps : Df := ⟨"_law_stamps", 3, 7, (.cons (.par 4 5 (.call "_law_places" (.cons (.var 1) .nil)) (.lst .nil)) (.cons (.loop (.nm 3) (.rng1 (.call "_law_draw" (.cons (.var 0) (.cons (.bin .add (.var 2) (.con (.int 1))) .nil)))) (.cons (.set 6 (.subv 4 (.call "_law_draw" (.cons (.var 0) (.cons (.bltv .len 4) .nil))))) (.cons (.set 5 (.bin .add (.var 5) (.bin .mul (.lst (.cons (.bin .add (.var 6) (.tup (.cons (.call "_law_draw" (.cons (.var 0) (.cons (.con (.int 2)) .nil))) .nil))) .nil)) (.sub (.lst (.cons (.con (.int 1)) (.cons (.con (.int 1)) (.cons (.con (.int 2)) (.cons (.con (.int 4)) .nil))))) (.call "_law_draw" (.cons (.var 0) (.cons (.con (.int 4)) .nil))))))) .nil))) (.cons (.ret (.bltv .tuple 5)) .nil))), []⟩
def f_law_counts : Df := ⟨"_law_counts", 1, 3, (.cons (.set 1 (.dic0 true)) (.cons (.loop (.nm 2) (.seq (.var 0)) (.cons (.setd 1 (.var 2) (.bin .add (.mthv .get2 1 (.cons (.var 2) (.cons (.con (.int 0)) .nil))) (.con (.int 1)))) .nil)) (.cons (.ret (.var 1)) .nil))), []⟩
def f_law_all : Df := ⟨"_law_all", 1, 2, (.cons (.ret (.comp (.tup (.cons (.var 1) (.cons (.subv 0 (.var 1)) .nil))) (.nm 1) (.seq (.bltv .sorted 0)) (.cons (.cmp .gt (.subv 0 (.var 1)) (.con (.int 0))) .nil))) .nil), []⟩
def f_law_has : Df := ⟨"_law_has", 2, 2, (.cons (.ret (.cmp .gt (.bin .add (.mthv .get2 0 (.cons (.bin .add (.var 1) (.tup (.cons (.con (.int 0)) .nil))) (.cons (.con (.int 0)) .nil))) (.mthv .get2 0 (.cons (.bin .add (.var 1) (.tup (.cons (.con (.int 1)) .nil))) (.cons (.con (.int 0)) .nil)))) (.con (.int 0)))) .nil), []⟩
def f_law_gaps : Df := ⟨"_law_gaps", 3, 4, (.cons (.ret (.comp (.var 3) (.nm 3) (.rng1 (.sub (.subv 0 (.var 2)) (.con (.int 2)))) (.cons (.not (.call "_law_has" (.cons (.var 1) (.cons (.tup (.cons (.var 2) (.cons (.var 3) .nil))) .nil)))) .nil))) .nil), []⟩
def f_law_doubles : Df := ⟨"_law_doubles", 1, 5, (.cons (.set 1 (.lst .nil)) (.cons (.loop (.tp (.cons (.nm 2) (.cons (.nm 3) .nil))) (.seq (.call "_law_all" (.cons (.var 0) .nil))) (.cons (.set 4 (.con (.int 1))) (.cons (.cond (.and (.cmp .eq (.subv 2 (.con (.int 2))) (.con (.int 0))) (.cmp .gt (.mthv .get2 0 (.cons (.bin .add (.slice (.var 2) .omit (.con (.int 2))) (.tup (.cons (.con (.int 1)) .nil))) (.cons (.con (.int 0)) .nil))) (.con (.int 0)))) (.cons (.set 4 (.con (.int 0))) .nil) .nil) (.cons (.cond (.cmpl .gt 3 (.var 4)) (.cons (.appv 1 (.tup (.cons (.var 2) (.cons (.bin .sub (.var 3) (.var 4)) .nil)))) .nil) .nil) .nil)))) (.cons (.ret (.var 1)) .nil))), []⟩
def f_law_apart : Df := ⟨"_law_apart", 3, 6, (.cons (.set 3 (.lst .nil)) (.cons (.loop (.nm 4) (.seq (.call "_law_places" (.cons (.var 0) .nil))) (.cons (.loop (.nm 5) (.seq (.tup (.cons (.bin .add (.var 4) (.tup (.cons (.con (.int 0)) .nil))) (.cons (.bin .add (.var 4) (.tup (.cons (.con (.int 1)) .nil))) .nil)))) (.cons (.cond (.cmp .ne (.mthv .get2 1 (.cons (.var 5) (.cons (.con (.int 0)) .nil))) (.mthv .get2 2 (.cons (.var 5) (.cons (.con (.int 0)) .nil)))) (.cons (.appv 3 (.tup (.cons (.var 5) (.cons (.mthv .get2 1 (.cons (.var 5) (.cons (.con (.int 0)) .nil))) (.cons (.mthv .get2 2 (.cons (.var 5) (.cons (.con (.int 0)) .nil))) .nil))))) .nil) .nil) .nil)) .nil)) (.cons (.ret (.var 3)) .nil))), []⟩
def f_law_bare_right : Df := ⟨"_law_bare_right", 3, 5, (.cons (.set 3 (.bin .add (.lst (.cons (.call "joined" (.cons (.make "Album" "Album.__init__" (.cons (.var 0) (.cons (.con (.str "")) (.cons (.var 1) .nil)))) (.cons (.var 2) .nil))) .nil)) (.blt .list (.cons (.call "parted" (.cons (.make "Album" "Album.__init__" (.cons (.var 0) .nil)) (.cons (.tup (.cons (.con (.int 0)) .nil)) .nil))) .nil)))) (.cons (.ret (.cmp .eq (.comp (.meth "Album" "called" "Album.called" (.var 4) .nil) (.nm 4) (.seq (.var 3)) .nil) (.lst (.cons (.con (.str "")) (.cons (.con (.str "")) (.cons (.con (.str "")) .nil)))))) .nil)), []⟩
def f_law : Df := ⟨"law", 1, 21, (.cons (.loop (.nm 1) (.rng1 (.blt .max2 (.cons (.con (.int 1)) (.cons (.blt .min2 (.cons (.bltv .len 0) (.cons (.con (.int 3)) .nil))) .nil)))) (.cons (.set 2 (.call "_law_pen" (.cons (.call "_law_cell_at" (.cons (.var 0) (.cons (.var 1) .nil))) .nil))) (.cons (.set 3 (.call "_law_list" (.cons (.var 2) .nil))) (.cons (.par 5 6 (.call "_law_stamps" (.cons (.var 2) (.cons (.var 3) (.cons (.con (.int 8)) .nil)))) (.call "_law_stamps" (.cons (.var 2) (.cons (.var 3) (.cons (.con (.int 8)) .nil))))) (.cons (.par 7 8 (.make "Album" "Album.__init__" (.cons (.var 3) (.cons (.con (.str "one")) (.cons (.var 5) .nil)))) (.make "Album" "Album.__init__" (.cons (.var 3) (.cons (.con (.str "other")) (.cons (.var 6) .nil))))) (.cons (.loop (.nm 4) (.seq (.tup (.cons (.con (.int 0)) (.cons (.con (.int 1)) .nil)))) (.cons (.set 9 (.call "joined" (.cons (.var 7) (.cons (.var 8) .nil)))) (.cons (.cond (.or (.cmp .ne (.meth "Album" "all_of" "Album.all_of" (.var 9) .nil) (.call "_law_all" (.cons (.call "_law_counts" (.cons (.bin .add (.var 5) (.var 6)) .nil)) .nil))) (.or (.cmp .ne (.meth "Album" "called" "Album.called" (.var 9) .nil) (.con (.str "one"))) (.cmpv .ne (.meth "Album" "book" "Album.book" (.var 9) .nil) 3))) (.cons (.ret (.con (.bl false))) .nil) .nil) (.cons (.exp (.meth "Album" "put" "Album.put" (.var 9) (.cons (.tup (.cons (.con (.int 0)) (.cons (.con (.int 0)) (.cons (.con (.int 0)) .nil)))) .nil))) (.cons (.set 10 (.blt .tuple (.cons (.comp (.var 19) (.nm 19) (.rng1 (.bltv .len 3)) (.cons (.cmp .eq (.call "_law_draw" (.cons (.var 2) (.cons (.con (.int 2)) .nil))) (.con (.int 0))) .nil)) .nil))) (.cons (.loop (.nm 11) (.seq (.tup (.cons (.var 10) (.cons (.tup .nil) (.cons (.tuprg (.bltv .len 3)) .nil))))) (.cons (.asg (.tp (.cons (.nm 17) (.cons (.nm 18) .nil))) (.call "parted" (.cons (.var 7) (.cons (.var 11) .nil)))) (.cons (.set 13 (.comp (.var 20) (.nm 20) (.seq (.var 5)) (.cons (.cmpv .inn (.subv 20 (.con (.int 0))) 11) .nil))) (.cons (.set 14 (.comp (.var 20) (.nm 20) (.seq (.var 5)) (.cons (.cmpv .nin (.subv 20 (.con (.int 0))) 11) .nil))) (.cons (.cond (.cmp .ne (.lst (.cons (.meth "Album" "all_of" "Album.all_of" (.var 17) .nil) (.cons (.meth "Album" "all_of" "Album.all_of" (.var 18) .nil) .nil))) (.lst (.cons (.call "_law_all" (.cons (.call "_law_counts" (.cons (.var 13) .nil)) .nil)) (.cons (.call "_law_all" (.cons (.call "_law_counts" (.cons (.var 14) .nil)) .nil)) .nil)))) (.cons (.ret (.con (.bl false))) .nil) .nil) (.cons (.cond (.cmp .ne (.lst (.cons (.meth "Album" "called" "Album.called" (.var 17) .nil) (.cons (.meth "Album" "called" "Album.called" (.var 18) .nil) (.cons (.meth "Album" "book" "Album.book" (.var 17) .nil) (.cons (.meth "Album" "book" "Album.book" (.var 18) .nil) .nil))))) (.lst (.cons (.con (.str "one")) (.cons (.con (.str "one")) (.cons (.var 3) (.cons (.var 3) .nil)))))) (.cons (.ret (.con (.bl false))) .nil) .nil) (.cons (.exp (.meth "Album" "put" "Album.put" (.var 17) (.cons (.tup (.cons (.con (.int 0)) (.cons (.con (.int 0)) (.cons (.con (.int 1)) .nil)))) .nil))) (.cons (.exp (.meth "Album" "put" "Album.put" (.var 18) (.cons (.tup (.cons (.con (.int 0)) (.cons (.con (.int 0)) (.cons (.con (.int 1)) .nil)))) .nil))) .nil)))))))) (.cons (.par 15 16 (.call "_law_counts" (.cons (.var 5) .nil)) (.call "_law_counts" (.cons (.var 6) .nil))) (.cons (.set 12 (.call "parting" (.cons (.var 7) (.cons (.var 8) .nil)))) (.cons (.cond (.cmpl .ne 12 (.call "_law_apart" (.cons (.var 3) (.cons (.var 15) (.cons (.var 16) .nil))))) (.cons (.ret (.con (.bl false))) .nil) .nil) (.cons (.appv 12 (.con (.int 0))) (.cons (.cond (.or (.cmp .ne (.meth "Album" "all_of" "Album.all_of" (.var 7) .nil) (.call "_law_all" (.cons (.var 15) .nil))) (.or (.cmp .ne (.meth "Album" "all_of" "Album.all_of" (.var 8) .nil) (.call "_law_all" (.cons (.var 16) .nil))) (.cmp .ne (.call "parting" (.cons (.var 7) (.cons (.var 7) .nil))) (.lst .nil)))) (.cons (.ret (.con (.bl false))) .nil) .nil) .nil))))))))))) (.cons (.cond (.not (.call "_law_bare_right" (.cons (.var 3) (.cons (.var 5) (.cons (.var 8) .nil))))) (.cons (.ret (.con (.bl false))) .nil) .nil) .nil))))))) (.cons (.ret (.con (.bl true))) .nil)), []⟩
def r_is_whole : Rw := ⟨⟨("is_whole", none), "is_whole", "is_whole", defArgs (top 17), defBody (top 17), defScope (top 17), [], []⟩, f_is_whole, ["thing"]⟩
def r_is_from : Rw := ⟨⟨("is_from", none), "is_from", "is_from", defArgs (top 18), defBody (top 18), defScope (top 18), [], []⟩, f_is_from, ["thing", "low", "high"]⟩
def r_is_word : Rw := ⟨⟨("is_word", none), "is_word", "is_word", defArgs (top 19), defBody (top 19), defScope (top 19), [], []⟩, f_is_word, ["thing", "least", "sign"]⟩
def r_rises : Rw := ⟨⟨("rises", none), "rises", "rises", defArgs (top 20), defBody (top 20), defScope (top 20), [], []⟩, f_rises, ["things", "one", "other"]⟩
def r_is_set : Rw := ⟨⟨("is_set", none), "is_set", "is_set", defArgs (top 21), defBody (top 21), defScope (top 21), [], []⟩, f_is_set, ["thing"]⟩
def r_is_list : Rw := ⟨⟨("is_list", none), "is_list", "is_list", defArgs (top 22), defBody (top 22), defScope (top 22), [], []⟩, f_is_list, ["thing", "one"]⟩
def r_is_place : Rw := ⟨⟨("is_place", none), "is_place", "is_place", defArgs (top 23), defBody (top 23), defScope (top 23), [], []⟩, f_is_place, ["book", "thing"]⟩
def r_is_stamp : Rw := ⟨⟨("is_stamp", none), "is_stamp", "is_stamp", defArgs (top 24), defBody (top 24), defScope (top 24), [], []⟩, f_is_stamp, ["book", "thing"]⟩
def r_need_stamp : Rw := ⟨⟨("need_stamp", none), "need_stamp", "need_stamp", defArgs (top 25), defBody (top 25), defScope (top 25), [], []⟩, f_need_stamp, ["book", "thing"]⟩
def r_need_number : Rw := ⟨⟨("need_number", none), "need_number", "need_number", defArgs (top 26), defBody (top 26), defScope (top 26), [], []⟩, f_need_number, ["thing", "low"]⟩
def r_all_places : Rw := ⟨⟨("all_places", none), "all_places", "all_places", defArgs (top 27), defBody (top 27), defScope (top 27), [], []⟩, f_all_places, ["book", "found", "at", "land", "year", "many", "number"]⟩
def r_all_stamps : Rw := ⟨⟨("all_stamps", none), "all_stamps", "all_stamps", defArgs (top 28), defBody (top 28), defScope (top 28), [], []⟩, f_all_stamps, ["book", "found", "place"]⟩
def r_are_stamps : Rw := ⟨⟨("are_stamps", none), "are_stamps", "are_stamps", defArgs (top 30), defBody (top 30), defScope (top 30), [], []⟩, f_are_stamps, ["book", "thing", "one"]⟩
def r_Album__init_ : Rw := ⟨⟨("Album", some "__init__"), "__init__", "Album.__init__", defArgs (inClass (top 31) 0), defBody (inClass (top 31) 0), defScope (inClass (top 31) 0), [.str "", .non], []⟩, f_Album__init_, ["self", "book", "name", "stamps", "stamp"]⟩
def r_Album_put : Rw := ⟨⟨("Album", some "put"), "put", "Album.put", defArgs (inClass (top 31) 1), defBody (inClass (top 31) 1), defScope (inClass (top 31) 1), [.int 1], []⟩, f_Album_put, ["self", "stamp", "many"]⟩
def r_Album_take : Rw := ⟨⟨("Album", some "take"), "take", "Album.take", defArgs (inClass (top 31) 2), defBody (inClass (top 31) 2), defScope (inClass (top 31) 2), [.int 1], []⟩, f_Album_take, ["self", "stamp", "many"]⟩
def r_Album_book : Rw := ⟨⟨("Album", some "book"), "book", "Album.book", defArgs (inClass (top 31) 3), defBody (inClass (top 31) 3), defScope (inClass (top 31) 3), [], []⟩, f_Album_book, ["self"]⟩
def r_Album_called : Rw := ⟨⟨("Album", some "called"), "called", "Album.called", defArgs (inClass (top 31) 4), defBody (inClass (top 31) 4), defScope (inClass (top 31) 4), [], []⟩, f_Album_called, ["self"]⟩
def r_Album_count_of : Rw := ⟨⟨("Album", some "count_of"), "count_of", "Album.count_of", defArgs (inClass (top 31) 5), defBody (inClass (top 31) 5), defScope (inClass (top 31) 5), [], []⟩, f_Album_count_of, ["self", "stamp"]⟩
def r_Album_all_of : Rw := ⟨⟨("Album", some "all_of"), "all_of", "Album.all_of", defArgs (inClass (top 31) 6), defBody (inClass (top 31) 6), defScope (inClass (top 31) 6), [], []⟩, f_Album_all_of, ["self", "stamp"]⟩
def r_Album_has_place : Rw := ⟨⟨("Album", some "has_place"), "has_place", "Album.has_place", defArgs (inClass (top 31) 7), defBody (inClass (top 31) 7), defScope (inClass (top 31) 7), [], []⟩, f_Album_has_place, ["self", "place"]⟩
def r_Album_gaps : Rw := ⟨⟨("Album", some "gaps"), "gaps", "Album.gaps", defArgs (inClass (top 31) 8), defBody (inClass (top 31) 8), defScope (inClass (top 31) 8), [], []⟩, f_Album_gaps, ["self", "place"]⟩
def r_Album_doubles : Rw := ⟨⟨("Album", some "doubles"), "doubles", "Album.doubles", defArgs (inClass (top 31) 9), defBody (inClass (top 31) 9), defScope (inClass (top 31) 9), [], []⟩, f_Album_doubles, ["self"]⟩
def r_Album_whole_sets : Rw := ⟨⟨("Album", some "whole_sets"), "whole_sets", "Album.whole_sets", defArgs (inClass (top 31) 10), defBody (inClass (top 31) 10), defScope (inClass (top 31) 10), [], []⟩, f_Album_whole_sets, ["self"]⟩
def r_Album_twin : Rw := ⟨⟨("Album", some "twin"), "twin", "Album.twin", defArgs (inClass (top 31) 11), defBody (inClass (top 31) 11), defScope (inClass (top 31) 11), [], []⟩, f_Album_twin, ["self", "other", "stamp", "many"]⟩
def r_Album_all_many : Rw := ⟨⟨("Album", some "all_many"), "all_many", "Album.all_many", defArgs (inClass (top 31) 12), defBody (inClass (top 31) 12), defScope (inClass (top 31) 12), [], []⟩, f_Album_all_many, ["self", "stamp", "many"]⟩
def r_Album__len_ : Rw := ⟨⟨("Album", some "__len__"), "__len__", "Album.__len__", defArgs (inClass (top 31) 13), defBody (inClass (top 31) 13), defScope (inClass (top 31) 13), [], []⟩, f_Album__len_, ["self"]⟩
def r_Album__eq_ : Rw := ⟨⟨("Album", some "__eq__"), "__eq__", "Album.__eq__", defArgs (inClass (top 31) 14), defBody (inClass (top 31) 14), defScope (inClass (top 31) 14), [], []⟩, f_Album__eq_, ["self", "other"]⟩
def r_Album__repr_ : Rw := ⟨⟨("Album", some "__repr__"), "__repr__", "Album.__repr__", defArgs (inClass (top 31) 15), defBody (inClass (top 31) 15), defScope (inClass (top 31) 15), [], []⟩, f_Album__repr_, ["self"]⟩
def r_Album__str_ : Rw := ⟨⟨("Album", some "__str__"), "__str__", "Album.__str__", defArgs (inClass (top 31) 16), defBody (inClass (top 31) 16), defScope (inClass (top 31) 16), [], []⟩, f_Album__str_, ["self"]⟩
def r_Album_rows : Rw := ⟨⟨("Album", some "rows"), "rows", "Album.rows", defArgs (inClass (top 31) 17), defBody (inClass (top 31) 17), defScope (inClass (top 31) 17), [], []⟩, f_Album_rows, ["self", "sets", "found", "many", "word", "place", "number", "grade", "land", "year"]⟩
def r_joined : Rw := ⟨⟨("joined", none), "joined", "joined", defArgs (top 32), defBody (top 32), defScope (top 32), [], []⟩, f_joined, ["one", "other", "found", "stamp", "many"]⟩
def r_are_sets : Rw := ⟨⟨("are_sets", none), "are_sets", "are_sets", defArgs (top 33), defBody (top 33), defScope (top 33), [], []⟩, f_are_sets, ["book", "thing", "one"]⟩
def r_parted : Rw := ⟨⟨("parted", none), "parted", "parted", defArgs (top 34), defBody (top 34), defScope (top 34), [], []⟩, f_parted, ["album", "places", "kept", "rest", "stamp", "many"]⟩
def r_parting : Rw := ⟨⟨("parting", none), "parting", "parting", defArgs (top 35), defBody (top 35), defScope (top 35), [], []⟩, f_parting, ["one", "other", "found", "stamp", "mine", "its"]⟩
def r_law_cell_at : Rw := ⟨⟨("_law_cell_at", none), "_law_cell_at", "_law_cell_at", defArgs (top 37), defBody (top 37), defScope (top 37), [], []⟩, f_law_cell_at, ["_law_script", "_law_k"]⟩
def r_law_pen : Rw := ⟨⟨("_law_pen", none), "_law_pen", "_law_pen", defArgs (top 38), defBody (top 38), defScope (top 38), [], []⟩, f_law_pen, ["_law_cell"]⟩
def r_law_draw : Rw := ⟨⟨("_law_draw", none), "_law_draw", "_law_draw", defArgs (top 39), defBody (top 39), defScope (top 39), [], []⟩, f_law_draw, ["_law_pen_here", "_law_bound", "_law_stir", "_law_found"]⟩
def r_law_list : Rw := ⟨⟨("_law_list", none), "_law_list", "_law_list", defArgs (top 40), defBody (top 40), defScope (top 40), [], []⟩, f_law_list, ["_law_pen_here", "_law_found", "_law_k", "_law_land", "_law_year"]⟩
def r_law_places : Rw := ⟨⟨("_law_places", none), "_law_places", "_law_places", defArgs (top 41), defBody (top 41), defScope (top 41), [], []⟩, f_law_places, ["_law_sets", "_law_found", "_law_at", "_law_land", "_law_year", "_law_many", "_law_number"]⟩
def r_law_name : Rw := ⟨⟨("_law_name", none), "_law_name", "_law_name", defArgs (top 42), defBody (top 42), defScope (top 42), [], []⟩, f_law_name, ["_law_pen_here"]⟩
def r_law_stamps : Rw := ⟨⟨("_law_stamps", none), "_law_stamps", "_law_stamps", defArgs (top 43), defBody (top 43), defScope (top 43), [], []⟩, f_law_stamps, ["_law_pen_here", "_law_sets", "_law_most", "_law_k", "_law_places_here", "_law_found", "_law_place"]⟩
def r_law_counts : Rw := ⟨⟨("_law_counts", none), "_law_counts", "_law_counts", defArgs (top 44), defBody (top 44), defScope (top 44), [], []⟩, f_law_counts, ["_law_stamps_here", "_law_found", "_law_stamp"]⟩
def r_law_all : Rw := ⟨⟨("_law_all", none), "_law_all", "_law_all", defArgs (top 45), defBody (top 45), defScope (top 45), [], []⟩, f_law_all, ["_law_counts_here", "_law_stamp"]⟩
def r_law_has : Rw := ⟨⟨("_law_has", none), "_law_has", "_law_has", defArgs (top 46), defBody (top 46), defScope (top 46), [], []⟩, f_law_has, ["_law_counts_here", "_law_place"]⟩
def r_law_gaps : Rw := ⟨⟨("_law_gaps", none), "_law_gaps", "_law_gaps", defArgs (top 47), defBody (top 47), defScope (top 47), [], []⟩, f_law_gaps, ["_law_sets", "_law_counts_here", "_law_at", "_law_number"]⟩
def r_law_doubles : Rw := ⟨⟨("_law_doubles", none), "_law_doubles", "_law_doubles", defArgs (top 48), defBody (top 48), defScope (top 48), [], []⟩, f_law_doubles, ["_law_counts_here", "_law_found", "_law_stamp", "_law_many", "_law_kept"]⟩
def r_law_apart : Rw := ⟨⟨("_law_apart", none), "_law_apart", "_law_apart", defArgs (top 49), defBody (top 49), defScope (top 49), [], []⟩, f_law_apart, ["_law_sets", "_law_counts_here", "_law_others", "_law_found", "_law_place", "_law_stamp"]⟩
def r_law_bare_right : Rw := ⟨⟨("_law_bare_right", none), "_law_bare_right", "_law_bare_right", defArgs (top 50), defBody (top 50), defScope (top 50), [], []⟩, f_law_bare_right, ["_law_sets", "_law_mine", "_law_other", "_law_bare", "_law_album"]⟩
def r_law : Rw := ⟨⟨("law", none), "law", "law", defArgs (top 51), defBody (top 51), defScope (top 51), [], []⟩, f_law, ["_law_script", "_law_k", "_law_pen_here", "_law_sets", "_law_lap", "_law_mine", "_law_its", "_law_one", "_law_other", "_law_both", "_law_some", "_law_places_here", "_law_row", "_law_due", "_law_left", "_law_counts_here", "_law_others", "_law_kept", "_law_rest", "_law_at", "_law_stamp"]⟩
def rows : List Rw := [r_is_whole, r_is_from, r_is_word, r_rises, r_is_set, r_is_list, r_is_place, r_is_stamp, r_need_stamp, r_need_number, r_all_places, r_all_stamps, r_are_stamps, r_Album__init_, r_Album_put, r_Album_take, r_Album_book, r_Album_called, r_Album_count_of, r_Album_all_of, r_Album_has_place, r_Album_gaps, r_Album_doubles, r_Album_whole_sets, r_Album_twin, r_Album_all_many, r_Album__len_, r_Album__eq_, r_Album__repr_, r_Album__str_, r_Album_rows, r_joined, r_are_sets, r_parted, r_parting, r_law_cell_at, r_law_pen, r_law_draw, r_law_list, r_law_places, r_law_name, r_law_stamps, r_law_counts, r_law_all, r_law_has, r_law_gaps, r_law_doubles, r_law_apart, r_law_bare_right, r_law]
def pr : Pr := ⟨rows, ["NoStamp", "NoNumber", "NoSets", "NoList", "NoName", "NoStamps"], [("FIRST_YEAR", 1840), ("LAST_YEAR", 2100), ("MOST_SETS", 4), ("MOST_MANY", 6), ("MOST_LETTERS", 8)], [("LETTERS", "abcdefghijklmnopqrstuvwxyz")], ["Album"], [("Album", "sets"), ("Album", "name"), ("Album", "many")]⟩
theorem ok_is_whole : Rw.ok pr r_is_whole = true := by decide +kernel
theorem bp_is_whole : BP r_is_whole.d := ⟨fun _ _ _ _ _ _ _ us hl => match us, hl with | [_], _ => rfl, fun h => absurd rfl h⟩
theorem ok_is_from : Rw.ok pr r_is_from = true := by decide +kernel
theorem bp_is_from : BP r_is_from.d := ⟨fun _ _ _ _ _ _ _ us hl => match us, hl with | [_, _, _], _ => rfl, fun h => absurd rfl h⟩
theorem ok_is_word : Rw.ok pr r_is_word = true := by decide +kernel
theorem bp_is_word : BP r_is_word.d := ⟨fun _ _ _ _ _ _ _ us hl => match us, hl with | [_, _], _ => rfl, fun h => absurd rfl h⟩
theorem ok_rises : Rw.ok pr r_rises = true := by decide +kernel
theorem bp_rises : BP r_rises.d := ⟨fun _ _ _ _ _ _ _ us hl => match us, hl with | [_], _ => rfl, fun h => absurd rfl h⟩
theorem ok_is_set : Rw.ok pr r_is_set = true := by decide +kernel
theorem bp_is_set : BP r_is_set.d := ⟨fun _ _ _ _ _ _ _ us hl => match us, hl with | [_], _ => rfl, fun h => absurd rfl h⟩
theorem ok_is_list : Rw.ok pr r_is_list = true := by decide +kernel
theorem bp_is_list : BP r_is_list.d := ⟨fun _ _ _ _ _ _ _ us hl => match us, hl with | [_], _ => rfl, fun h => absurd rfl h⟩
theorem ok_is_place : Rw.ok pr r_is_place = true := by decide +kernel
theorem bp_is_place : BP r_is_place.d := ⟨fun _ _ _ _ _ _ _ us hl => match us, hl with | [_, _], _ => rfl, fun h => absurd rfl h⟩
theorem ok_is_stamp : Rw.ok pr r_is_stamp = true := by decide +kernel
theorem bp_is_stamp : BP r_is_stamp.d := ⟨fun _ _ _ _ _ _ _ us hl => match us, hl with | [_, _], _ => rfl, fun h => absurd rfl h⟩
theorem ok_need_stamp : Rw.ok pr r_need_stamp = true := by decide +kernel
theorem bp_need_stamp : BP r_need_stamp.d := ⟨fun _ _ _ _ _ _ _ us hl => match us, hl with | [_, _], _ => rfl, fun h => absurd rfl h⟩
theorem ok_need_number : Rw.ok pr r_need_number = true := by decide +kernel
theorem bp_need_number : BP r_need_number.d := ⟨fun _ _ _ _ _ _ _ us hl => match us, hl with | [_, _], _ => rfl, fun h => absurd rfl h⟩
theorem ok_all_places : Rw.ok pr r_all_places = true := by decide +kernel
theorem bp_all_places : BP r_all_places.d := ⟨fun _ _ _ _ _ _ _ us hl => match us, hl with | [_], _ => rfl, fun h => absurd rfl h⟩
theorem ok_all_stamps : Rw.ok pr r_all_stamps = true := by decide +kernel
theorem bp_all_stamps : BP r_all_stamps.d := ⟨fun _ _ _ _ _ _ _ us hl => match us, hl with | [_], _ => rfl, fun h => absurd rfl h⟩
theorem ok_are_stamps : Rw.ok pr r_are_stamps = true := by decide +kernel
theorem bp_are_stamps : BP r_are_stamps.d := ⟨fun _ _ _ _ _ _ _ us hl => match us, hl with | [_, _], _ => rfl, fun h => absurd rfl h⟩
theorem ok_Album__init_ : Rw.ok pr r_Album__init_ = true := by decide +kernel
theorem bp_Album__init_ : BP r_Album__init_.d := ⟨fun h => (nomatch h), fun _ j hj T kV doc pm an cdv ct us its hu hi => by
  have hj : j ≤ 2 := hj
  have hi : its.length = 2 := hi
  have hu : us.length + (2 - j) = 4 := hu
  rcases (by omega : j = 0 ∨ j = 1 ∨ j = 2) with rfl | rfl | rfl
  · have hu : us.length = 2 := by omega
    match us, hu, its, hi with | [_, _], _, [_, _], _ => exact ⟨_, rfl, rfl⟩
  · have hu : us.length = 3 := by omega
    match us, hu, its, hi with | [_, _, _], _, [_, _], _ => exact ⟨_, rfl, rfl⟩
  · have hu : us.length = 4 := by omega
    match us, hu, its, hi with | [_, _, _, _], _, [_, _], _ => exact ⟨_, rfl, rfl⟩⟩
theorem ok_Album_put : Rw.ok pr r_Album_put = true := by decide +kernel
theorem bp_Album_put : BP r_Album_put.d := ⟨fun h => (nomatch h), fun _ j hj T kV doc pm an cdv ct us its hu hi => by
  have hj : j ≤ 1 := hj
  have hi : its.length = 1 := hi
  have hu : us.length + (1 - j) = 3 := hu
  rcases (by omega : j = 0 ∨ j = 1) with rfl | rfl
  · have hu : us.length = 2 := by omega
    match us, hu, its, hi with | [_, _], _, [_], _ => exact ⟨_, rfl, rfl⟩
  · have hu : us.length = 3 := by omega
    match us, hu, its, hi with | [_, _, _], _, [_], _ => exact ⟨_, rfl, rfl⟩⟩
theorem ok_Album_take : Rw.ok pr r_Album_take = true := by decide +kernel
theorem bp_Album_take : BP r_Album_take.d := ⟨fun h => (nomatch h), fun _ j hj T kV doc pm an cdv ct us its hu hi => by
  have hj : j ≤ 1 := hj
  have hi : its.length = 1 := hi
  have hu : us.length + (1 - j) = 3 := hu
  rcases (by omega : j = 0 ∨ j = 1) with rfl | rfl
  · have hu : us.length = 2 := by omega
    match us, hu, its, hi with | [_, _], _, [_], _ => exact ⟨_, rfl, rfl⟩
  · have hu : us.length = 3 := by omega
    match us, hu, its, hi with | [_, _, _], _, [_], _ => exact ⟨_, rfl, rfl⟩⟩
theorem ok_Album_book : Rw.ok pr r_Album_book = true := by decide +kernel
theorem bp_Album_book : BP r_Album_book.d := ⟨fun _ _ _ _ _ _ _ us hl => match us, hl with | [_], _ => rfl, fun h => absurd rfl h⟩
theorem ok_Album_called : Rw.ok pr r_Album_called = true := by decide +kernel
theorem bp_Album_called : BP r_Album_called.d := ⟨fun _ _ _ _ _ _ _ us hl => match us, hl with | [_], _ => rfl, fun h => absurd rfl h⟩
theorem ok_Album_count_of : Rw.ok pr r_Album_count_of = true := by decide +kernel
theorem bp_Album_count_of : BP r_Album_count_of.d := ⟨fun _ _ _ _ _ _ _ us hl => match us, hl with | [_, _], _ => rfl, fun h => absurd rfl h⟩
theorem ok_Album_all_of : Rw.ok pr r_Album_all_of = true := by decide +kernel
theorem bp_Album_all_of : BP r_Album_all_of.d := ⟨fun _ _ _ _ _ _ _ us hl => match us, hl with | [_], _ => rfl, fun h => absurd rfl h⟩
theorem ok_Album_has_place : Rw.ok pr r_Album_has_place = true := by decide +kernel
theorem bp_Album_has_place : BP r_Album_has_place.d := ⟨fun _ _ _ _ _ _ _ us hl => match us, hl with | [_, _], _ => rfl, fun h => absurd rfl h⟩
theorem ok_Album_gaps : Rw.ok pr r_Album_gaps = true := by decide +kernel
theorem bp_Album_gaps : BP r_Album_gaps.d := ⟨fun _ _ _ _ _ _ _ us hl => match us, hl with | [_, _], _ => rfl, fun h => absurd rfl h⟩
theorem ok_Album_doubles : Rw.ok pr r_Album_doubles = true := by decide +kernel
theorem bp_Album_doubles : BP r_Album_doubles.d := ⟨fun _ _ _ _ _ _ _ us hl => match us, hl with | [_], _ => rfl, fun h => absurd rfl h⟩
theorem ok_Album_whole_sets : Rw.ok pr r_Album_whole_sets = true := by decide +kernel
theorem bp_Album_whole_sets : BP r_Album_whole_sets.d := ⟨fun _ _ _ _ _ _ _ us hl => match us, hl with | [_], _ => rfl, fun h => absurd rfl h⟩
theorem ok_Album_twin : Rw.ok pr r_Album_twin = true := by decide +kernel
theorem bp_Album_twin : BP r_Album_twin.d := ⟨fun _ _ _ _ _ _ _ us hl => match us, hl with | [_], _ => rfl, fun h => absurd rfl h⟩
theorem ok_Album_all_many : Rw.ok pr r_Album_all_many = true := by decide +kernel
theorem bp_Album_all_many : BP r_Album_all_many.d := ⟨fun _ _ _ _ _ _ _ us hl => match us, hl with | [_], _ => rfl, fun h => absurd rfl h⟩
theorem ok_Album__len_ : Rw.ok pr r_Album__len_ = true := by decide +kernel
theorem bp_Album__len_ : BP r_Album__len_.d := ⟨fun _ _ _ _ _ _ _ us hl => match us, hl with | [_], _ => rfl, fun h => absurd rfl h⟩
theorem ok_Album__eq_ : Rw.ok pr r_Album__eq_ = true := by decide +kernel
theorem bp_Album__eq_ : BP r_Album__eq_.d := ⟨fun _ _ _ _ _ _ _ us hl => match us, hl with | [_, _], _ => rfl, fun h => absurd rfl h⟩
theorem ok_Album__repr_ : Rw.ok pr r_Album__repr_ = true := by decide +kernel
theorem bp_Album__repr_ : BP r_Album__repr_.d := ⟨fun _ _ _ _ _ _ _ us hl => match us, hl with | [_], _ => rfl, fun h => absurd rfl h⟩
theorem ok_Album__str_ : Rw.ok pr r_Album__str_ = true := by decide +kernel
theorem bp_Album__str_ : BP r_Album__str_.d := ⟨fun _ _ _ _ _ _ _ us hl => match us, hl with | [_], _ => rfl, fun h => absurd rfl h⟩
theorem ok_Album_rows : Rw.ok pr r_Album_rows = true := by decide +kernel
theorem bp_Album_rows : BP r_Album_rows.d := ⟨fun _ _ _ _ _ _ _ us hl => match us, hl with | [_], _ => rfl, fun h => absurd rfl h⟩
theorem ok_joined : Rw.ok pr r_joined = true := by decide +kernel
theorem bp_joined : BP r_joined.d := ⟨fun _ _ _ _ _ _ _ us hl => match us, hl with | [_, _], _ => rfl, fun h => absurd rfl h⟩
theorem ok_are_sets : Rw.ok pr r_are_sets = true := by decide +kernel
theorem bp_are_sets : BP r_are_sets.d := ⟨fun _ _ _ _ _ _ _ us hl => match us, hl with | [_, _], _ => rfl, fun h => absurd rfl h⟩
theorem ok_parted : Rw.ok pr r_parted = true := by decide +kernel
theorem bp_parted : BP r_parted.d := ⟨fun _ _ _ _ _ _ _ us hl => match us, hl with | [_, _], _ => rfl, fun h => absurd rfl h⟩
theorem ok_parting : Rw.ok pr r_parting = true := by decide +kernel
theorem bp_parting : BP r_parting.d := ⟨fun _ _ _ _ _ _ _ us hl => match us, hl with | [_, _], _ => rfl, fun h => absurd rfl h⟩
theorem ok_law_cell_at : Rw.ok pr r_law_cell_at = true := by decide +kernel
theorem bp_law_cell_at : BP r_law_cell_at.d := ⟨fun _ _ _ _ _ _ _ us hl => match us, hl with | [_, _], _ => rfl, fun h => absurd rfl h⟩
theorem ok_law_pen : Rw.ok pr r_law_pen = true := by decide +kernel
theorem bp_law_pen : BP r_law_pen.d := ⟨fun _ _ _ _ _ _ _ us hl => match us, hl with | [_], _ => rfl, fun h => absurd rfl h⟩
theorem ok_law_draw : Rw.ok pr r_law_draw = true := by decide +kernel
theorem bp_law_draw : BP r_law_draw.d := ⟨fun _ _ _ _ _ _ _ us hl => match us, hl with | [_, _], _ => rfl, fun h => absurd rfl h⟩
theorem ok_law_list : Rw.ok pr r_law_list = true := by decide +kernel
theorem bp_law_list : BP r_law_list.d := ⟨fun _ _ _ _ _ _ _ us hl => match us, hl with | [_], _ => rfl, fun h => absurd rfl h⟩
theorem ok_law_places : Rw.ok pr r_law_places = true := by decide +kernel
theorem bp_law_places : BP r_law_places.d := ⟨fun _ _ _ _ _ _ _ us hl => match us, hl with | [_], _ => rfl, fun h => absurd rfl h⟩
theorem ok_law_name : Rw.ok pr r_law_name = true := by decide +kernel
theorem bp_law_name : BP r_law_name.d := ⟨fun _ _ _ _ _ _ _ us hl => match us, hl with | [_], _ => rfl, fun h => absurd rfl h⟩
theorem ok_law_stamps : Rw.ok pr r_law_stamps = true := by decide +kernel
theorem bp_law_stamps : BP r_law_stamps.d := ⟨fun _ _ _ _ _ _ _ us hl => match us, hl with | [_, _, _], _ => rfl, fun h => absurd rfl h⟩
theorem ok_law_counts : Rw.ok pr r_law_counts = true := by decide +kernel
theorem bp_law_counts : BP r_law_counts.d := ⟨fun _ _ _ _ _ _ _ us hl => match us, hl with | [_], _ => rfl, fun h => absurd rfl h⟩
theorem ok_law_all : Rw.ok pr r_law_all = true := by decide +kernel
theorem bp_law_all : BP r_law_all.d := ⟨fun _ _ _ _ _ _ _ us hl => match us, hl with | [_], _ => rfl, fun h => absurd rfl h⟩
theorem ok_law_has : Rw.ok pr r_law_has = true := by decide +kernel
theorem bp_law_has : BP r_law_has.d := ⟨fun _ _ _ _ _ _ _ us hl => match us, hl with | [_, _], _ => rfl, fun h => absurd rfl h⟩
theorem ok_law_gaps : Rw.ok pr r_law_gaps = true := by decide +kernel
theorem bp_law_gaps : BP r_law_gaps.d := ⟨fun _ _ _ _ _ _ _ us hl => match us, hl with | [_, _, _], _ => rfl, fun h => absurd rfl h⟩
theorem ok_law_doubles : Rw.ok pr r_law_doubles = true := by decide +kernel
theorem bp_law_doubles : BP r_law_doubles.d := ⟨fun _ _ _ _ _ _ _ us hl => match us, hl with | [_], _ => rfl, fun h => absurd rfl h⟩
theorem ok_law_apart : Rw.ok pr r_law_apart = true := by decide +kernel
theorem bp_law_apart : BP r_law_apart.d := ⟨fun _ _ _ _ _ _ _ us hl => match us, hl with | [_, _, _], _ => rfl, fun h => absurd rfl h⟩
theorem ok_law_bare_right : Rw.ok pr r_law_bare_right = true := by decide +kernel
theorem bp_law_bare_right : BP r_law_bare_right.d := ⟨fun _ _ _ _ _ _ _ us hl => match us, hl with | [_, _, _], _ => rfl, fun h => absurd rfl h⟩
theorem ok_law : Rw.ok pr r_law = true := by decide +kernel
theorem bp_law : BP r_law.d := ⟨fun _ _ _ _ _ _ _ us hl => match us, hl with | [_], _ => rfl, fun h => absurd rfl h⟩
theorem ok : pr.ok = true := by
  show rows.all (Rw.ok pr) = true
  simp only [rows, List.all_cons, List.all_nil, ok_is_whole, ok_is_from, ok_is_word, ok_rises, ok_is_set, ok_is_list, ok_is_place, ok_is_stamp, ok_need_stamp, ok_need_number, ok_all_places, ok_all_stamps, ok_are_stamps, ok_Album__init_, ok_Album_put, ok_Album_take, ok_Album_book, ok_Album_called, ok_Album_count_of, ok_Album_all_of, ok_Album_has_place, ok_Album_gaps, ok_Album_doubles, ok_Album_whole_sets, ok_Album_twin, ok_Album_all_many, ok_Album__len_, ok_Album__eq_, ok_Album__repr_, ok_Album__str_, ok_Album_rows, ok_joined, ok_are_sets, ok_parted, ok_parting, ok_law_cell_at, ok_law_pen, ok_law_draw, ok_law_list, ok_law_places, ok_law_name, ok_law_stamps, ok_law_counts, ok_law_all, ok_law_has, ok_law_gaps, ok_law_doubles, ok_law_apart, ok_law_bare_right, ok_law, Bool.and_true]
theorem nd : pr.nd = true := by decide +kernel
theorem bp : ∀ r ∈ pr.defs, BP r.d := by
  intro r hr
  have hr' : r ∈ rows := hr
  simp only [rows, List.mem_cons, List.not_mem_nil, or_false] at hr'
  rcases hr' with rfl | rfl | rfl | rfl | rfl | rfl | rfl | rfl | rfl | rfl | rfl | rfl | rfl | rfl | rfl | rfl | rfl | rfl | rfl | rfl | rfl | rfl | rfl | rfl | rfl | rfl | rfl | rfl | rfl | rfl | rfl | rfl | rfl | rfl | rfl | rfl | rfl | rfl | rfl | rfl | rfl | rfl | rfl | rfl | rfl | rfl | rfl | rfl | rfl | rfl
  · exact bp_is_whole
  · exact bp_is_from
  · exact bp_is_word
  · exact bp_rises
  · exact bp_is_set
  · exact bp_is_list
  · exact bp_is_place
  · exact bp_is_stamp
  · exact bp_need_stamp
  · exact bp_need_number
  · exact bp_all_places
  · exact bp_all_stamps
  · exact bp_are_stamps
  · exact bp_Album__init_
  · exact bp_Album_put
  · exact bp_Album_take
  · exact bp_Album_book
  · exact bp_Album_called
  · exact bp_Album_count_of
  · exact bp_Album_all_of
  · exact bp_Album_has_place
  · exact bp_Album_gaps
  · exact bp_Album_doubles
  · exact bp_Album_whole_sets
  · exact bp_Album_twin
  · exact bp_Album_all_many
  · exact bp_Album__len_
  · exact bp_Album__eq_
  · exact bp_Album__repr_
  · exact bp_Album__str_
  · exact bp_Album_rows
  · exact bp_joined
  · exact bp_are_sets
  · exact bp_parted
  · exact bp_parting
  · exact bp_law_cell_at
  · exact bp_law_pen
  · exact bp_law_draw
  · exact bp_law_list
  · exact bp_law_places
  · exact bp_law_name
  · exact bp_law_stamps
  · exact bp_law_counts
  · exact bp_law_all
  · exact bp_law_has
  · exact bp_law_gaps
  · exact bp_law_doubles
  · exact bp_law_apart
  · exact bp_law_bare_right
  · exact bp_law
end K09
end

section
/-! The law itself. -/
namespace K09
open PySem L2 Eng Fn Al

theorem hasFrom : HasFrom pr.P := ⟨rfl, rfl⟩
theorem hasLists : HasLists pr.P pr.gl := ⟨hasFrom, rfl, rfl, rfl, rfl, rfl, rfl, rfl, rfl, rfl, rfl, rfl, rfl, rfl, rfl⟩
theorem hasNeed : HasNeed pr.P := ⟨rfl, rfl⟩
theorem hasAlbum : HasAlbum pr.P pr.gl := ⟨hasLists, hasNeed, rfl, rfl, rfl, rfl, rfl, rfl, rfl, rfl⟩
theorem hasJoin : HasJoin pr.P := ⟨rfl⟩
theorem hasPart : HasPart pr.P := ⟨rfl, rfl⟩
theorem hasParting : HasParting pr.P := ⟨rfl⟩
theorem hasDraw : HasDraw pr.P := ⟨rfl, rfl, rfl⟩
theorem hasLawList : HasLawList pr.P := ⟨hasDraw, rfl⟩
theorem hasLawPlaces : HasLawPlaces pr.P := ⟨rfl⟩
theorem hasLawStamps : HasLawStamps pr.P := ⟨hasDraw, hasLawPlaces, rfl⟩
theorem hasCounts : HasCounts pr.P := ⟨rfl⟩
theorem hasAll : HasAll pr.P := ⟨rfl⟩
theorem hasApart : HasApart pr.P := ⟨hasLawPlaces, rfl⟩
theorem goodOne {b : Book} (hb : GoodBook b) : GoodA b "one" := ⟨hb, by decide +kernel, by decide +kernel⟩
theorem goodOther {b : Book} (hb : GoodBook b) : GoodA b "other" := ⟨hb, by decide +kernel, by decide +kernel⟩
theorem goodNone {b : Book} (hb : GoodBook b) : GoodA b "" := ⟨hb, by decide +kernel, by decide +kernel⟩
theorem bare {S : Store} {a k : Nat} {b : Book} {xs : List Stm} {nm : Str} {c : Stm → Int} (hb : GoodBook b) (hx : ∀ s ∈ xs, okS b s) (hl : xs.length ≤ 100000) (h : AlbumAt S a k b nm c) {C : Val → Store → Prop} {X : Ex → Store → Prop} (hC : ∀ T, C (.fz (.bl true)) T) :
    (callN pr.P pr.gl 19 "_law_bare_right" [.tup (b.map serD), .tup (xs.map stD), .ref a] S).wp C X := by
  rw [callN_run (d := f_law_bare_right) rfl rfl]
  show (RS.done (exs (callN pr.P pr.gl 18) pr.gl f_law_bare_right.body [some (.fz (.tup (b.map serD))), some (.fz (.tup (xs.map stD))), some (.fz (.ref a)), none, none] S)).wp _ _
  unfold f_law_bare_right
  walk_at "eng*"
  refine made hasAlbum (by omega) (goodNone hb) (.some xs) hx hl fun T k1 hG hk hT => ?_
  have h1 := h.grow hG
  walk_at "eng*"
  refine joined hasAlbum hasJoin (by omega) (goodNone hb) hT h1 fun T2 a2 k2 hG2 _ _ hT2 => ?_
  have m1 := fun x y => made1 (gl := pr.gl) (n := 18) (S := T2 ++ [.ins "Album" [] []]) hasAlbum x y
  walk_at "eng*"
  refine made hasAlbum (by omega) (goodNone hb) .non (fun s hs => nomatch hs) (Nat.zero_le _) fun T3 k3 hG3 hk3 hT3 => ?_
  clear m1
  walk_at "eng*"
  refine parted (ps := [0]) hasAlbum hasPart (by omega) (goodNone hb) hT3 (by simp) (by have := hb.len1; simp; omega) (by decide) fun T4 a4 k4 a5 k5 hG4 _ _ _ _ _ _ _ hT4 hT5 => ?_
  have hT24 := hT2.grow (hG3.trans hG4)
  have ba : binD .add (.lst [.ref a2]) (.lst [.ref a4, .ref a5]) = some (.own (.lst [.ref a2, .ref a4, .ref a5])) := by
    show (if [D.ref a2].length + [D.ref a4, D.ref a5].length ≤ sizeLine then some (Val.own (.lst [.ref a2, .ref a4, .ref a5])) else none) = _
    rw [if_pos (by have := big; show 1 + 2 ≤ sizeLine; omega)]
  walk_at "eng*"
  refine wp_compM D.ref (fun _ => .str "") (fun _ => true) [a2, a4, a5] [some (.fz (.tup (b.map serD))), some (.fz (.tup (xs.map stD))), some (.fz (.ref a)), some (.fz (.lst [.ref a2, .ref a4, .ref a5])), none] rfl rfl rfl (by have := big; show 3 ≤ sizeLine; omega) (fun q hq => ⟨[some (.fz (.tup (b.map serD))), some (.fz (.tup (xs.map stD))), some (.fz (.ref a)), some (.fz (.lst [.ref a2, .ref a4, .ref a5])), some (.fz (.ref q))], rfl, ⟨rfl, rfl, rfl⟩, fun _ => ?_, rfl⟩) ?_
  · have : ∃ k c, AlbumAt T4 q k b "" c := by
      rcases List.mem_cons.mp hq with rfl | hq
      · exact ⟨_, _, hT24⟩
      rcases List.mem_cons.mp hq with rfl | hq
      · exact ⟨_, _, hT4⟩
      rcases List.mem_cons.mp hq with rfl | hq
      · exact ⟨_, _, hT5⟩
      · cases hq
    obtain ⟨k, c, hq⟩ := this
    have i1 := hq.ins "called" rfl
    have w := called (gl := pr.gl) (n := 18) hasAlbum (by omega) hq
    walk_at "eng*"
    exact ⟨trivial, trivial, trivial⟩
  · have e : cmpD .eq (.lst (([a2, a4, a5].filter fun _ => true).map fun _ => D.str "")) (.lst [.str "", .str "", .str ""]) = some true := eq_self (d := .lst [.str "", .str "", .str ""]) rfl (by decide)
    walk_at "eng*"
theorem part_turn {T : Store} {ns : List Int} {p a1 k1 a2 k2 : Nat} {b : Book} {xs ys : List Stm} {x1 x4 x9 x10 x11 x12 x13 x14 x15 x16 x17 x18 : Option Val} (hb : GoodBook b) (hx : ∀ s ∈ xs, okS b s) (hl : xs.length ≤ 1000) (hB : Base p a1 k1 a2 k2 b "one" "other" (cnt xs) (cnt ys) T) {ps : List Nat} (hp : ps.Pairwise (· < ·)) (hq : ∀ i ∈ ps, i < b.length) (hs : ps.length ≤ 1000)
    {N : Eng.Frame → Store → Prop} {R : Val → Eng.Frame → Store → Prop} {E : EK} (hN : ∀ U x13 x14 x17 x18, Base p a1 k1 a2 k2 b "one" "other" (cnt xs) (cnt ys) U → N [some (.fz (.scr (ns.map .int))), x1, some (.fz (.ref p)), some (.fz (.tup (b.map serD))), x4, some (.fz (.tup (xs.map stD))), some (.fz (.tup (ys.map stD))), some (.fz (.ref a1)), some (.fz (.ref a2)), x9, x10, some (.fz (.tup (ps.map fun i : Nat => D.int (i : Nat)))), x12, x13, x14, x15, x16, x17, x18, none, none] U) :
    (exs (callN pr.P pr.gl 19) pr.gl (.cons (.asg (.tp (.cons (.nm 17) (.cons (.nm 18) .nil))) (.call "parted" (.cons (.var 7) (.cons (.var 11) .nil)))) (.cons (.set 13 (.comp (.var 20) (.nm 20) (.seq (.var 5)) (.cons (.cmpv .inn (.subv 20 (.con (.int 0))) 11) .nil))) (.cons (.set 14 (.comp (.var 20) (.nm 20) (.seq (.var 5)) (.cons (.cmpv .nin (.subv 20 (.con (.int 0))) 11) .nil))) (.cons (.cond (.cmp .ne (.lst (.cons (.meth "Album" "all_of" "Album.all_of" (.var 17) .nil) (.cons (.meth "Album" "all_of" "Album.all_of" (.var 18) .nil) .nil))) (.lst (.cons (.call "_law_all" (.cons (.call "_law_counts" (.cons (.var 13) .nil)) .nil)) (.cons (.call "_law_all" (.cons (.call "_law_counts" (.cons (.var 14) .nil)) .nil)) .nil)))) (.cons (.ret (.con (.bl false))) .nil) .nil) (.cons (.cond (.cmp .ne (.lst (.cons (.meth "Album" "called" "Album.called" (.var 17) .nil) (.cons (.meth "Album" "called" "Album.called" (.var 18) .nil) (.cons (.meth "Album" "book" "Album.book" (.var 17) .nil) (.cons (.meth "Album" "book" "Album.book" (.var 18) .nil) .nil))))) (.lst (.cons (.con (.str "one")) (.cons (.con (.str "one")) (.cons (.var 3) (.cons (.var 3) .nil)))))) (.cons (.ret (.con (.bl false))) .nil) .nil) (.cons (.exp (.meth "Album" "put" "Album.put" (.var 17) (.cons (.tup (.cons (.con (.int 0)) (.cons (.con (.int 0)) (.cons (.con (.int 1)) .nil)))) .nil))) (.cons (.exp (.meth "Album" "put" "Album.put" (.var 18) (.cons (.tup (.cons (.con (.int 0)) (.cons (.con (.int 0)) (.cons (.con (.int 1)) .nil)))) .nil))) .nil))))))) [some (.fz (.scr (ns.map .int))), x1, some (.fz (.ref p)), some (.fz (.tup (b.map serD))), x4, some (.fz (.tup (xs.map stD))), some (.fz (.tup (ys.map stD))), some (.fz (.ref a1)), some (.fz (.ref a2)), x9, x10, some (.fz (.tup (ps.map fun i : Nat => D.int (i : Nat)))), x12, x13, x14, x15, x16, x17, x18, none, none] T).wp N R E := by
  walk_at "eng*"
  refine parted hasAlbum hasPart (by omega) (goodOne hb) hB.one hp hq (by omega) fun U a3 k3 a4 k4 hG ha3 hk3 ha4 hk4 n1 n2 n3 hK hR => ?_
  have hK := hK.congr (c' := cnt (xs.filter fun s => decide (s.1 ∈ ps))) fun s => by rw [cnt_filter]; simp
  have hR := hR.congr (c' := cnt (xs.filter fun s => !decide (s.1 ∈ ps))) fun s => by rw [cnt_filter]; by_cases q : s.1 ∈ ps <;> simp [q]
  have hB1 := hB.grow hG
  have as : asg (.tp (.cons (.nm 17) (.cons (.nm 18) .nil))) (.tup [.ref a3, .ref a4]) [some (.fz (.scr (ns.map .int))), x1, some (.fz (.ref p)), some (.fz (.tup (b.map serD))), x4, some (.fz (.tup (xs.map stD))), some (.fz (.tup (ys.map stD))), some (.fz (.ref a1)), some (.fz (.ref a2)), x9, x10, some (.fz (.tup (ps.map fun i : Nat => D.int (i : Nat)))), x12, x13, x14, x15, x16, x17, x18, none, none] = some [some (.fz (.scr (ns.map .int))), x1, some (.fz (.ref p)), some (.fz (.tup (b.map serD))), x4, some (.fz (.tup (xs.map stD))), some (.fz (.tup (ys.map stD))), some (.fz (.ref a1)), some (.fz (.ref a2)), x9, x10, some (.fz (.tup (ps.map fun i : Nat => D.int (i : Nat)))), x12, x13, x14, x15, x16, some (.fz (.ref a3)), some (.fz (.ref a4)), none, none] := rfl
  walk_at "eng*"
  clear as
  have cm : ∀ s : Stm, cmpD .inn (.int (s.1 : Nat)) (.tup (ps.map fun i : Nat => D.int (i : Nat))) = some (decide (s.1 ∈ ps)) := fun s => inn_ints ps s.1
  have cn : ∀ s : Stm, cmpD .nin (.int (s.1 : Nat)) (.tup (ps.map fun i : Nat => D.int (i : Nat))) = some (!decide (s.1 ∈ ps)) := fun s => by
    show (inD _ _).map _ = _
    rw [inn_ints ps s.1]; rfl
  refine wp_compM stD stD (fun s => decide (s.1 ∈ ps)) xs [some (.fz (.scr (ns.map .int))), x1, some (.fz (.ref p)), some (.fz (.tup (b.map serD))), x4, some (.fz (.tup (xs.map stD))), some (.fz (.tup (ys.map stD))), some (.fz (.ref a1)), some (.fz (.ref a2)), x9, x10, some (.fz (.tup (ps.map fun i : Nat => D.int (i : Nat)))), x12, x13, x14, x15, x16, some (.fz (.ref a3)), some (.fz (.ref a4)), none, none] rfl rfl rfl (by have := big; omega) (fun s hs => ⟨[some (.fz (.scr (ns.map .int))), x1, some (.fz (.ref p)), some (.fz (.tup (b.map serD))), x4, some (.fz (.tup (xs.map stD))), some (.fz (.tup (ys.map stD))), some (.fz (.ref a1)), some (.fz (.ref a2)), x9, x10, some (.fz (.tup (ps.map fun i : Nat => D.int (i : Nat)))), x12, x13, x14, x15, x16, some (.fz (.ref a3)), some (.fz (.ref a4)), none, some (.fz (stD s))], rfl, ?_, fun _ => ?_, rfl⟩) ?_
  · have sb : subD (stD s) (.int 0) = some (.int (s.1 : Nat)) := rfl
    have lk : look U (stD s) = stD s := rfl
    have cm := cm s
    clear cn
    walk_at "eng*"
    exact ⟨trivial, trivial, trivial⟩
  · clear cm cn
    walk_at "eng*"
    exact ⟨trivial, trivial, trivial⟩
  clear cm
  walk_at "eng*"
  refine wp_compM stD stD (fun s => !decide (s.1 ∈ ps)) xs [some (.fz (.scr (ns.map .int))), x1, some (.fz (.ref p)), some (.fz (.tup (b.map serD))), x4, some (.fz (.tup (xs.map stD))), some (.fz (.tup (ys.map stD))), some (.fz (.ref a1)), some (.fz (.ref a2)), x9, x10, some (.fz (.tup (ps.map fun i : Nat => D.int (i : Nat)))), x12, some (.own (.lst ((xs.filter fun s => decide (s.1 ∈ ps)).map stD))), x14, x15, x16, some (.fz (.ref a3)), some (.fz (.ref a4)), none, none] rfl rfl rfl (by have := big; omega) (fun s hs => ⟨[some (.fz (.scr (ns.map .int))), x1, some (.fz (.ref p)), some (.fz (.tup (b.map serD))), x4, some (.fz (.tup (xs.map stD))), some (.fz (.tup (ys.map stD))), some (.fz (.ref a1)), some (.fz (.ref a2)), x9, x10, some (.fz (.tup (ps.map fun i : Nat => D.int (i : Nat)))), x12, some (.own (.lst ((xs.filter fun s => decide (s.1 ∈ ps)).map stD))), x14, x15, x16, some (.fz (.ref a3)), some (.fz (.ref a4)), none, some (.fz (stD s))], rfl, ?_, fun _ => ?_, rfl⟩) ?_
  · have sb : subD (stD s) (.int 0) = some (.int (s.1 : Nat)) := rfl
    have lk : look U (stD s) = stD s := rfl
    have cn := cn s
    walk_at "eng*"
    exact ⟨trivial, trivial, trivial⟩
  · clear cn
    walk_at "eng*"
    exact ⟨trivial, trivial, trivial⟩
  clear cn
  generalize hx1 : (xs.filter fun s => decide (s.1 ∈ ps)) = xs1 at hK
  generalize hx2 : (xs.filter fun s => !decide (s.1 ∈ ps)) = xs2 at hR
  have o1 : ∀ s ∈ xs1, okS b s := fun s hs => hx s (by rw [← hx1] at hs; exact (List.mem_filter.mp hs).1)
  have o2 : ∀ s ∈ xs2, okS b s := fun s hs => hx s (by rw [← hx2] at hs; exact (List.mem_filter.mp hs).1)
  clear hx1 hx2
  have i1 := hK.ins "all_of" rfl
  have i2 := hR.ins "all_of" rfl
  have w1 := all_of (gl := pr.gl) (n := 19) hasAlbum (by omega) hb hK
  have w2 := all_of (gl := pr.gl) (n := 19) hasAlbum (by omega) hb hR
  walk_at "eng*"
  refine law_counts hasCounts (by omega) hb (.inr rfl) o1 fun ks1 vs1 hc1 => ?_
  have w3 := law_all (gl := pr.gl) (S := U) (n := 19) hasAll (by omega) hb hc1
  walk_at "eng*"
  refine law_counts hasCounts (by omega) hb (.inr rfl) o2 fun ks2 vs2 hc2 => ?_
  have w4 := law_all (gl := pr.gl) (S := U) (n := 19) hasAll (by omega) hb hc2
  have ne := ne_two (pl_allOf b (cnt xs1)).1 (pl_allOf b (cnt xs2)).1 (Nat.le_trans (pl_allOf b (cnt xs1)).2 (by omega)) (Nat.le_trans (pl_allOf b (cnt xs2)).2 (by omega))
  have j1 := hK.ins "called" rfl
  have j2 := hR.ins "called" rfl
  have l1 := hK.ins "book" rfl
  have l2 := hR.ins "book" rfl
  have v1 := called (gl := pr.gl) (n := 19) hasAlbum (by omega) hK
  have v2 := called (gl := pr.gl) (n := 19) hasAlbum (by omega) hR
  have v3 := book (gl := pr.gl) (n := 19) hasAlbum (by omega) hK
  have v4 := book (gl := pr.gl) (n := 19) hasAlbum (by omega) hR
  have ne2 : cmpD .ne (.lst [.str "one", .str "one", .tup (b.map serD), .tup (b.map serD)]) (.lst [.str "one", .str "one", .tup (b.map serD), .tup (b.map serD)]) = some false := by
    have hpb := pl_book b
    refine ne_self ?_ ?_
    · show (true && (true && (D.pl (.tup (b.map serD)) && (D.pl (.tup (b.map serD)) && true)))) = true
      rw [hpb.1]; rfl
    · show max 0 (max 0 (max (D.dep (.tup (b.map serD))) (max (D.dep (.tup (b.map serD))) 0))) + 1 ≤ 64
      have := hpb.2
      omega
  have m1 := hK.ins "put" rfl
  have pu1 := fun x y => put1 (gl := pr.gl) (S := U) (n := 19) hasAlbum x y
  have hB0 := hB
  clear o1 o2 hc1 hc2 hx hB hp hq
  walk_at "eng*"
  refine put (s := (0, 0, 1)) hasAlbum (by omega) hb hK (ok000 hb (by omega)) (by omega) fun V hV hV2 => ?_
  have hR2 := hR.but hV n3 n1.symm
  have m2 := hR2.ins "put" rfl
  have pu2 := fun x y => put1 (gl := pr.gl) (S := V) (n := 19) hasAlbum x y
  clear i1 i2 w1 w2 w3 w4 ne j1 j2 l1 l2 v1 v2 v3 v4 ne2 m1 pu1
  walk_at "eng*"
  refine put (s := (0, 0, 1)) hasAlbum (by omega) hb hR2 (ok000 hb (by omega)) (by omega) fun W hW hW2 => ?_
  have gW := hB0.grow (hW.grow (hV.grow hG hk3) hk4)
  have fin := hN W
  clear m2 pu2
  walk_at "eng"
  exact fin _ _ _ _ gW
end K09
end

section
/-! The law itself. -/
namespace K09
open PySem L2 Eng Fn Al

theorem lap {T : Store} {ns : List Int} {p a1 k1 a2 k2 : Nat} {b : Book} {xs ys : List Stm} {x1 x4 x9 x10 x11 x12 x13 x14 x15 x16 x17 x18 : Option Val} (hb : GoodBook b) (hx : ∀ s ∈ xs, okS b s) (hy : ∀ s ∈ ys, okS b s) (hl : xs.length ≤ 1000) (hl2 : ys.length ≤ 1000) (hB : Base p a1 k1 a2 k2 b "one" "other" (cnt xs) (cnt ys) T)
    {N : Eng.Frame → Store → Prop} {R : Val → Eng.Frame → Store → Prop} {E : EK} (hN : ∀ U x9 x10 x11 x12 x13 x14 x15 x16 x17 x18, Base p a1 k1 a2 k2 b "one" "other" (cnt xs) (cnt ys) U → N [some (.fz (.scr (ns.map .int))), x1, some (.fz (.ref p)), some (.fz (.tup (b.map serD))), x4, some (.fz (.tup (xs.map stD))), some (.fz (.tup (ys.map stD))), some (.fz (.ref a1)), some (.fz (.ref a2)), x9, x10, x11, x12, x13, x14, x15, x16, x17, x18, none, none] U) :
    (exs (callN pr.P pr.gl 19) pr.gl (.cons (.set 9 (.call "joined" (.cons (.var 7) (.cons (.var 8) .nil)))) (.cons (.cond (.or (.cmp .ne (.meth "Album" "all_of" "Album.all_of" (.var 9) .nil) (.call "_law_all" (.cons (.call "_law_counts" (.cons (.bin .add (.var 5) (.var 6)) .nil)) .nil))) (.or (.cmp .ne (.meth "Album" "called" "Album.called" (.var 9) .nil) (.con (.str "one"))) (.cmpv .ne (.meth "Album" "book" "Album.book" (.var 9) .nil) 3))) (.cons (.ret (.con (.bl false))) .nil) .nil) (.cons (.exp (.meth "Album" "put" "Album.put" (.var 9) (.cons (.tup (.cons (.con (.int 0)) (.cons (.con (.int 0)) (.cons (.con (.int 0)) .nil)))) .nil))) (.cons (.set 10 (.blt .tuple (.cons (.comp (.var 19) (.nm 19) (.rng1 (.bltv .len 3)) (.cons (.cmp .eq (.call "_law_draw" (.cons (.var 2) (.cons (.con (.int 2)) .nil))) (.con (.int 0))) .nil)) .nil))) (.cons (.loop (.nm 11) (.seq (.tup (.cons (.var 10) (.cons (.tup .nil) (.cons (.tuprg (.bltv .len 3)) .nil))))) (.cons (.asg (.tp (.cons (.nm 17) (.cons (.nm 18) .nil))) (.call "parted" (.cons (.var 7) (.cons (.var 11) .nil)))) (.cons (.set 13 (.comp (.var 20) (.nm 20) (.seq (.var 5)) (.cons (.cmpv .inn (.subv 20 (.con (.int 0))) 11) .nil))) (.cons (.set 14 (.comp (.var 20) (.nm 20) (.seq (.var 5)) (.cons (.cmpv .nin (.subv 20 (.con (.int 0))) 11) .nil))) (.cons (.cond (.cmp .ne (.lst (.cons (.meth "Album" "all_of" "Album.all_of" (.var 17) .nil) (.cons (.meth "Album" "all_of" "Album.all_of" (.var 18) .nil) .nil))) (.lst (.cons (.call "_law_all" (.cons (.call "_law_counts" (.cons (.var 13) .nil)) .nil)) (.cons (.call "_law_all" (.cons (.call "_law_counts" (.cons (.var 14) .nil)) .nil)) .nil)))) (.cons (.ret (.con (.bl false))) .nil) .nil) (.cons (.cond (.cmp .ne (.lst (.cons (.meth "Album" "called" "Album.called" (.var 17) .nil) (.cons (.meth "Album" "called" "Album.called" (.var 18) .nil) (.cons (.meth "Album" "book" "Album.book" (.var 17) .nil) (.cons (.meth "Album" "book" "Album.book" (.var 18) .nil) .nil))))) (.lst (.cons (.con (.str "one")) (.cons (.con (.str "one")) (.cons (.var 3) (.cons (.var 3) .nil)))))) (.cons (.ret (.con (.bl false))) .nil) .nil) (.cons (.exp (.meth "Album" "put" "Album.put" (.var 17) (.cons (.tup (.cons (.con (.int 0)) (.cons (.con (.int 0)) (.cons (.con (.int 1)) .nil)))) .nil))) (.cons (.exp (.meth "Album" "put" "Album.put" (.var 18) (.cons (.tup (.cons (.con (.int 0)) (.cons (.con (.int 0)) (.cons (.con (.int 1)) .nil)))) .nil))) .nil)))))))) (.cons (.par 15 16 (.call "_law_counts" (.cons (.var 5) .nil)) (.call "_law_counts" (.cons (.var 6) .nil))) (.cons (.set 12 (.call "parting" (.cons (.var 7) (.cons (.var 8) .nil)))) (.cons (.cond (.cmpl .ne 12 (.call "_law_apart" (.cons (.var 3) (.cons (.var 15) (.cons (.var 16) .nil))))) (.cons (.ret (.con (.bl false))) .nil) .nil) (.cons (.appv 12 (.con (.int 0))) (.cons (.cond (.or (.cmp .ne (.meth "Album" "all_of" "Album.all_of" (.var 7) .nil) (.call "_law_all" (.cons (.var 15) .nil))) (.or (.cmp .ne (.meth "Album" "all_of" "Album.all_of" (.var 8) .nil) (.call "_law_all" (.cons (.var 16) .nil))) (.cmp .ne (.call "parting" (.cons (.var 7) (.cons (.var 7) .nil))) (.lst .nil)))) (.cons (.ret (.con (.bl false))) .nil) .nil) .nil)))))))))) [some (.fz (.scr (ns.map .int))), x1, some (.fz (.ref p)), some (.fz (.tup (b.map serD))), x4, some (.fz (.tup (xs.map stD))), some (.fz (.tup (ys.map stD))), some (.fz (.ref a1)), some (.fz (.ref a2)), x9, x10, x11, x12, x13, x14, x15, x16, x17, x18, none, none] T).wp N R E := by
  walk_at "eng*"
  refine joined hasAlbum hasJoin (by omega) (goodOne hb) hB.one hB.other fun U a3 k3 hG ha3 hk3 hJ => ?_
  have hJ := hJ.congr (cnt_app xs ys)
  have hB1 := hB.grow hG
  have i1 := hJ.ins "all_of" rfl
  have i2 := hJ.ins "called" rfl
  have i3 := hJ.ins "book" rfl
  have i4 := hJ.ins "put" rfl
  have w1 := all_of (gl := pr.gl) (n := 19) hasAlbum (by omega) hb hJ
  have w2 := called (gl := pr.gl) (n := 19) hasAlbum (by omega) hJ
  have w3 := book (gl := pr.gl) (n := 19) hasAlbum (by omega) hJ
  have ad : binD .add (.tup (xs.map stD)) (.tup (ys.map stD)) = some (.fz (.tup ((xs ++ ys).map stD))) := by
    rw [List.map_append]
    exact if_pos (e := none) (by rw [List.length_map, List.length_map]; have := big; omega)
  have hxy : ∀ s ∈ xs ++ ys, okS b s := fun s hs => by
    rcases List.mem_append.mp hs with h | h
    · exact hx s h
    · exact hy s h
  walk_at "eng*"
  refine law_counts hasCounts (by omega) hb (.inl rfl) hxy fun ks vs hc => ?_
  have w4 := law_all (gl := pr.gl) (S := U) (n := 19) hasAll (by omega) hb hc
  have n1 := ne_allOf b (cnt (xs ++ ys))
  have n2 : cmpD .ne (.str "one") (.str "one") = some false := ne_self rfl (by decide)
  have n3 := ne_book b
  have pu1 := fun x y => put1 (gl := pr.gl) (S := U) (n := 19) hasAlbum x y
  clear hxy hc ad
  walk_at "eng*"
  refine put (s := (0, 0, 0)) hasAlbum (by omega) hb hJ (ok000 hb (by omega)) (by omega) fun V hV _ => ?_
  have hBV := hB.grow (hV.grow hG hk3)
  clear i1 i2 i3 i4 w1 w2 w3 w4 n1 n2 n3 pu1 hJ hB1 hV hG hB ha3 hk3
  have le : ((b.map serD).length : Int) = (b.length : Nat) := by rw [List.length_map]
  have b4 := hb.len4
  have hr : ∀ fr S, kRng1 (.int (b.length : Int)) fr S = .ok ((List.range b.length).map fun q : Nat => D.int (q : Nat)) fr S := fun fr S => kRng1_nat (by omega)
  walk_at "eng*"
  refine wp_comp (frw := [some (.fz (.scr (ns.map .int))), x1, some (.fz (.ref p)), some (.fz (.tup (b.map serD))), x4, some (.fz (.tup (xs.map stD))), some (.fz (.tup (ys.map stD))), some (.fz (.ref a1)), some (.fz (.ref a2)), some (.fz (.ref a3)), x10, x11, x12, x13, x14, x15, x16, x17, x18, none, none]) (fun i acc fr W => fr = [some (.fz (.scr (ns.map .int))), x1, some (.fz (.ref p)), some (.fz (.tup (b.map serD))), x4, some (.fz (.tup (xs.map stD))), some (.fz (.tup (ys.map stD))), some (.fz (.ref a1)), some (.fz (.ref a2)), some (.fz (.ref a3)), x10, x11, x12, x13, x14, x15, x16, x17, x18, none, none] ∧ Base p a1 k1 a2 k2 b "one" "other" (cnt xs) (cnt ys) W ∧ ∃ ps : List Nat, acc = (ps.map fun i : Nat => D.int (i : Nat)) ∧ ps.Pairwise (· < ·) ∧ (∀ j ∈ ps, j < i) ∧ ps.length ≤ i) rfl rfl (by rw [List.length_map, List.length_range]; have := big; omega) ⟨rfl, hBV, [], rfl, List.Pairwise.nil, fun j hj => (nomatch hj), Nat.le_refl _⟩ ?_ ?_
  · rintro i d acc fr W hi ⟨rfl, hW, ps, rfl, q1, q2, q3⟩
    rw [List.getElem?_map] at hi
    obtain ⟨z, hz, rfl⟩ := Option.map_eq_some_iff.mp hi
    obtain ⟨hz1, hz2⟩ := List.getElem?_eq_some_iff.mp hz
    rw [List.getElem_range] at hz2
    subst hz2
    refine ⟨[some (.fz (.scr (ns.map .int))), x1, some (.fz (.ref p)), some (.fz (.tup (b.map serD))), x4, some (.fz (.tup (xs.map stD))), some (.fz (.tup (ys.map stD))), some (.fz (.ref a1)), some (.fz (.ref a2)), some (.fz (.ref a3)), x10, x11, x12, x13, x14, x15, x16, x17, x18, some (.fz (.int (i : Nat))), none], rfl, ?_⟩
    clear hr hi hz le
    walk_at "eng*"
    refine drawn hasDraw (by omega) hW.pen (by omega) (by omega) fun v W1 v0 v1 hM hW1 => ?_
    have hWW := hW.moved hM hW1
    walk_at "eng*"
    refine ⟨fun hv => ?_, fun hv => ?_⟩
    · refine ⟨rfl, trivial, ps ++ [i], by rw [List.map_append]; rfl, ?_, ?_, by rw [List.length_append]; show _ + 1 ≤ _; omega⟩
      · rw [List.pairwise_append]
        exact ⟨q1, List.pairwise_singleton _ _, fun x hx y hy => by rw [List.mem_singleton] at hy; subst hy; exact q2 x hx⟩
      · intro j hj
        rcases List.mem_append.mp hj with hj | hj
        · have := q2 j hj; omega
        · rw [List.mem_singleton] at hj; omega
    · exact ⟨rfl, trivial, ps, rfl, q1, fun j hj => by have := q2 j hj; omega, by omega⟩
  rintro acc fr' W ⟨rfl, hW, ps, rfl, q1, q2, q3⟩ _
  rw [List.length_map, List.length_range] at q2 q3
  show _
  have bk : backF [some (.fz (.scr (ns.map .int))), x1, some (.fz (.ref p)), some (.fz (.tup (b.map serD))), x4, some (.fz (.tup (xs.map stD))), some (.fz (.tup (ys.map stD))), some (.fz (.ref a1)), some (.fz (.ref a2)), some (.fz (.ref a3)), x10, x11, x12, x13, x14, x15, x16, x17, x18, none, none] [some (.fz (.scr (ns.map .int))), x1, some (.fz (.ref p)), some (.fz (.tup (b.map serD))), x4, some (.fz (.tup (xs.map stD))), some (.fz (.tup (ys.map stD))), some (.fz (.ref a1)), some (.fz (.ref a2)), some (.fz (.ref a3)), x10, x11, x12, x13, x14, x15, x16, x17, x18, none, none] (Tg.slots (.nm 19)) = [some (.fz (.scr (ns.map .int))), x1, some (.fz (.ref p)), some (.fz (.tup (b.map serD))), x4, some (.fz (.tup (xs.map stD))), some (.fz (.tup (ys.map stD))), some (.fz (.ref a1)), some (.fz (.ref a2)), some (.fz (.ref a3)), x10, x11, x12, x13, x14, x15, x16, x17, x18, none, none] := rfl
  rw [bk]
  have tr : ∀ fr S, kTuprg (.int (b.length : Int)) fr S = .ok (.fz (.tup ((List.range b.length).map fun q : Nat => D.int (q : Nat)))) fr S := fun fr S => kTuprg_nat (by omega)
  clear hr bk
  walk_at "eng*"
  refine wp_loopM psD (xs := [ps, [], List.range b.length]) (fun i fr V => Base p a1 k1 a2 k2 b "one" "other" (cnt xs) (cnt ys) V ∧ ∃ x11 x12 x13 x14 x15 x16 x17 x18, fr = [some (.fz (.scr (ns.map .int))), x1, some (.fz (.ref p)), some (.fz (.tup (b.map serD))), x4, some (.fz (.tup (xs.map stD))), some (.fz (.tup (ys.map stD))), some (.fz (.ref a1)), some (.fz (.ref a2)), some (.fz (.ref a3)), some (.fz (.tup (ps.map fun i : Nat => D.int (i : Nat)))), x11, x12, x13, x14, x15, x16, x17, x18, none, none]) ⟨hW, x11, x12, x13, x14, x15, x16, x17, x18, rfl⟩ ?_ ?_
  · rintro i qs fr V hi ⟨hV, x11, x12, x13, x14, x15, x16, x17, x18, rfl⟩
    have hqs : qs.Pairwise (· < ·) ∧ (∀ j ∈ qs, j < b.length) ∧ qs.length ≤ 1000 := by
      rcases List.mem_cons.mp (List.mem_of_getElem? hi) with rfl | h
      · exact ⟨q1, q2, by omega⟩
      rcases List.mem_cons.mp h with rfl | h
      · exact ⟨List.Pairwise.nil, (fun j hj => nomatch hj), by simp⟩
      rcases List.mem_cons.mp h with rfl | h
      · exact ⟨List.pairwise_lt_range, fun j hj => List.mem_range.mp hj, by rw [List.length_range]; omega⟩
      · cases h
    refine ⟨[some (.fz (.scr (ns.map .int))), x1, some (.fz (.ref p)), some (.fz (.tup (b.map serD))), x4, some (.fz (.tup (xs.map stD))), some (.fz (.tup (ys.map stD))), some (.fz (.ref a1)), some (.fz (.ref a2)), some (.fz (.ref a3)), some (.fz (.tup (ps.map fun i : Nat => D.int (i : Nat)))), some (.fz (.tup (qs.map fun i : Nat => D.int (i : Nat)))), x12, x13, x14, x15, x16, x17, x18, none, none], rfl, ?_⟩
    exact part_turn (x11 := x11) hb hx hl hV hqs.1 hqs.2.1 hqs.2.2 fun U x13 x14 x17 x18 hU => ⟨hU, _, _, _, _, _, _, _, _, rfl⟩
  rintro fr V ⟨hV, x11, x12, x13, x14, x15, x16, x17, x18, rfl⟩
  clear tr
  walk_at "eng*"
  refine law_counts hasCounts (by omega) hb (.inl rfl) hx fun ks vs hc => ?_
  walk_at "eng*"
  refine law_counts hasCounts (by omega) hb (.inl rfl) hy fun ks2 vs2 hc2 => ?_
  have w1 := parting (gl := pr.gl) (n := 19) hasAlbum hasParting (by omega) hb hV.one hV.other
  have w2 := law_apart (gl := pr.gl) (S := V) (n := 19) hasApart (by omega) hb hc hc2
  have n1 := ne_partD b (cnt xs) (cnt ys)
  have ap : ∀ d, appX 12 d [some (.fz (.scr (ns.map .int))), x1, some (.fz (.ref p)), some (.fz (.tup (b.map serD))), x4, some (.fz (.tup (xs.map stD))), some (.fz (.tup (ys.map stD))), some (.fz (.ref a1)), some (.fz (.ref a2)), some (.fz (.ref a3)), some (.fz (.tup (ps.map fun i : Nat => D.int (i : Nat)))), x11, some (.own (.lst (partD b (cnt xs) (cnt ys)))), x13, x14, some (.fz (.dit ks vs)), some (.fz (.dit ks2 vs2)), x17, x18, none, none] V = .nx [some (.fz (.scr (ns.map .int))), x1, some (.fz (.ref p)), some (.fz (.tup (b.map serD))), x4, some (.fz (.tup (xs.map stD))), some (.fz (.tup (ys.map stD))), some (.fz (.ref a1)), some (.fz (.ref a2)), some (.fz (.ref a3)), some (.fz (.tup (ps.map fun i : Nat => D.int (i : Nat)))), x11, some (.own (.lst (partD b (cnt xs) (cnt ys) ++ [d]))), x13, x14, some (.fz (.dit ks vs)), some (.fz (.dit ks2 vs2)), x17, x18, none, none] V := fun d => by
    unfold appX; exact if_pos (by have := partD_len hb (cnt xs) (cnt ys); have := big; omega)
  have i1 := hV.one.ins "all_of" rfl
  have i2 := hV.other.ins "all_of" rfl
  have w3 := all_of (gl := pr.gl) (n := 19) hasAlbum (by omega) hb hV.one
  have w4 := all_of (gl := pr.gl) (n := 19) hasAlbum (by omega) hb hV.other
  have w5 := law_all (gl := pr.gl) (S := V) (n := 19) hasAll (by omega) hb hc
  have w6 := law_all (gl := pr.gl) (S := V) (n := 19) hasAll (by omega) hb hc2
  have n2 := ne_allOf b (cnt xs)
  have n3 := ne_allOf b (cnt ys)
  have w7 := parting (gl := pr.gl) (n := 19) hasAlbum hasParting (by omega) hb hV.one hV.one
  rw [partD_self] at w7
  have n4 : cmpD .ne (.lst []) (.lst []) = some false := rfl
  have fin := fun x9 x10 x11 x12 x13 x14 x15 x16 x17 x18 => hN V x9 x10 x11 x12 x13 x14 x15 x16 x17 x18 hV
  clear hN hc hc2 hx hy
  walk_at "eng*"

theorem law_ok : ∀ ns : List Int, ns.length ≤ 63 → ∃ S, callN pr.P pr.gl 20 "law" [.scr (ns.map D.int)] [] = .ok (.fz (.bl true)) S := by
  intro ns hns
  refine RC.some_of ?_
  rw [callN_run (d := f_law) rfl rfl]
  show (RS.done (exs (callN pr.P pr.gl 19) pr.gl f_law.body [some (.fz (.scr (ns.map .int))), none, none, none, none, none, none, none, none, none, none, none, none, none, none, none, none, none, none, none, none] [])).wp _ _
  unfold f_law
  obtain ⟨w, hw1, hw⟩ : ∃ w : Nat, w ≤ 3 ∧ (if (if (3 : Int) < ((ns.map D.int).length : Nat) then 3 else (((ns.map D.int).length : Nat) : Int)) > 1 then (if (3 : Int) < ((ns.map D.int).length : Nat) then 3 else (((ns.map D.int).length : Nat) : Int)) else 1) = (w : Int) := by
    refine ⟨(if (if (3 : Int) < ((ns.map D.int).length : Nat) then 3 else (((ns.map D.int).length : Nat) : Int)) > 1 then (if (3 : Int) < ((ns.map D.int).length : Nat) then 3 else (((ns.map D.int).length : Nat) : Int)) else 1).toNat, ?_, ?_⟩
    · split
      · split <;> omega
      · omega
    · split
      · split <;> omega
      · omega
  have hr : ∀ fr S, kRng1 (.int (w : Int)) fr S = .ok ((List.range w).map fun q : Nat => D.int (q : Nat)) fr S := fun fr S => kRng1_nat (by omega)
  walk_at "eng"
  rw [hw, hr]
  clear hw
  walk_at "eng"
  refine wp_loopM (fun q : Nat => D.int (q : Nat)) (fun i fr T => ∃ x1 x2 x3 x4 x5 x6 x7 x8 x9 x10 x11 x12 x13 x14 x15 x16 x17 x18, fr = [some (.fz (.scr (ns.map .int))), x1, x2, x3, x4, x5, x6, x7, x8, x9, x10, x11, x12, x13, x14, x15, x16, x17, x18, none, none]) ⟨none, none, none, none, none, none, none, none, none, none, none, none, none, none, none, none, none, none, rfl⟩ ?_ ?_
  · rintro i z fr S hi ⟨x1, x2, x3, x4, x5, x6, x7, x8, x9, x10, x11, x12, x13, x14, x15, x16, x17, x18, rfl⟩
    refine ⟨[some (.fz (.scr (ns.map .int))), some (.fz (.int (z : Nat))), x2, x3, x4, x5, x6, x7, x8, x9, x10, x11, x12, x13, x14, x15, x16, x17, x18, none, none], rfl, ?_⟩
    clear hr hi
    walk_at "eng"
    refine cell_at hasDraw (by omega) fun v => ?_
    walk_at "eng"
    refine pen hasDraw (by omega) fun S1 hG1 hp => ?_
    generalize S.length = p at hp
    walk_at "eng"
    refine law_list hasLawList (by omega) hp fun b S2 hb hM2 hp2 => ?_
    walk_at "eng"
    refine law_stamps (m := 8) hasLawStamps (by omega) hb hp2 (by omega) fun xs S3 hx hl hM3 hp3 => ?_
    walk_at "eng"
    refine law_stamps (m := 8) hasLawStamps (by omega) hb hp3 (by omega) fun ys S4 hy hl2 hM4 hp4 => ?_
    walk_at "eng"
    refine made hasAlbum (by omega) (goodOne hb) (.some xs) hx (by omega) fun S5 k1 hG5 hk5 hA1 => ?_
    walk_at "eng"
    refine made hasAlbum (by omega) (goodOther hb) (.some ys) hy (by omega) fun S6 k2 hG6 hk6 hA2 => ?_
    have hB : Base p S4.length k1 S5.length k2 b "one" "other" (cnt xs) (cnt ys) S6 := ⟨PenAt.grow hp4 (hG5.trans hG6), hA1.grow hG6, hA2⟩
    generalize S4.length = a1 at hB hA1
    generalize S5.length = a2 at hB hA2
    clear hp hp2 hp3 hp4 hG1 hM2 hM3 hM4 hG5 hG6 hk5 hk6 hA1 hA2
    walk_at "eng"
    refine wp_loop (fun j fr T => Base p a1 k1 a2 k2 b "one" "other" (cnt xs) (cnt ys) T ∧ ∃ x4 x9 x10 x11 x12 x13 x14 x15 x16 x17 x18, fr = [some (.fz (.scr (ns.map .int))), some (.fz (.int (z : Nat))), some (.fz (.ref p)), some (.fz (.tup (b.map serD))), x4, some (.fz (.tup (xs.map stD))), some (.fz (.tup (ys.map stD))), some (.fz (.ref a1)), some (.fz (.ref a2)), x9, x10, x11, x12, x13, x14, x15, x16, x17, x18, none, none]) ⟨hB, x4, x9, x10, x11, x12, x13, x14, x15, x16, x17, x18, rfl⟩ ?_ ?_
    · rintro j d fr T hj ⟨hT, x4, x9, x10, x11, x12, x13, x14, x15, x16, x17, x18, rfl⟩
      refine ⟨[some (.fz (.scr (ns.map .int))), some (.fz (.int (z : Nat))), some (.fz (.ref p)), some (.fz (.tup (b.map serD))), some (.fz d), some (.fz (.tup (xs.map stD))), some (.fz (.tup (ys.map stD))), some (.fz (.ref a1)), some (.fz (.ref a2)), x9, x10, x11, x12, x13, x14, x15, x16, x17, x18, none, none], rfl, ?_⟩
      exact lap hb hx hy (by omega) (by omega) hT fun U x9 x10 x11 x12 x13 x14 x15 x16 x17 x18 hU => ⟨hU, _, _, _, _, _, _, _, _, _, _, _, rfl⟩
    rintro fr T ⟨hT, x4, x9, x10, x11, x12, x13, x14, x15, x16, x17, x18, rfl⟩
    walk_at "eng"
    refine bare hb hx (by omega) hT.other fun U => ?_
    walk_at "eng"
    exact ⟨_, _, _, _, _, _, _, _, _, _, _, _, _, _, _, _, _, _, rfl⟩
  · rintro fr T ⟨x1, x2, x3, x4, x5, x6, x7, x8, x9, x10, x11, x12, x13, x14, x15, x16, x17, x18, rfl⟩
    walk_at "eng"
end K09
end

section
namespace K09
open PySem PySem.Spec PyProof.Rows L2
abbrev R : PySem.W.OpenRow := PySem.W.OpenLaw.row PySem.Challenge.rw_hingemount_k09_joined_parted_parting
abbrev hk : PySem.W.Hook := Eng.hookP 6 pr
def ob (s : PySem.W.SharedT) : He.AlD × Bool := Eng.obsP 6 pr (HandSHeadRun.getT s)
theorem ob_eq (s : PySem.W.SharedT) : ob s = hk.obs s.abs := Eng.obsP_eq (HandSHeadRun.getT_eq s)
def names : List PySem.Str := ("_wall" : PySem.Str) :: ("HingeError" : PySem.Str) :: ("NoThing" : PySem.Str) :: ("NoList" : PySem.Str) :: ("NoStamp" : PySem.Str) :: ("NoStamps" : PySem.Str) :: ("NoSets" : PySem.Str) :: ("NoNumber" : PySem.Str) :: ("NoName" : PySem.Str) :: ("FIRST_YEAR" : PySem.Str) :: ("LAST_YEAR" : PySem.Str) :: ("MOST_SETS" : PySem.Str) :: ("MOST_MANY" : PySem.Str) :: ("MOST_LETTERS" : PySem.Str) :: ("LETTERS" : PySem.Str) :: ("is_whole" : PySem.Str) :: ("is_from" : PySem.Str) :: ("is_word" : PySem.Str) :: ("rises" : PySem.Str) :: ("is_set" : PySem.Str) :: ("is_list" : PySem.Str) :: ("is_place" : PySem.Str) :: ("is_stamp" : PySem.Str) :: ("need_stamp" : PySem.Str) :: ("need_number" : PySem.Str) :: ("all_places" : PySem.Str) :: ("all_stamps" : PySem.Str) :: ("are_stamps" : PySem.Str) :: ("Album" : PySem.Str) :: ("joined" : PySem.Str) :: ("are_sets" : PySem.Str) :: ("parted" : PySem.Str) :: ("parting" : PySem.Str) :: ("_law_cell_at" : PySem.Str) :: ("_law_pen" : PySem.Str) :: ("_law_draw" : PySem.Str) :: ("_law_list" : PySem.Str) :: ("_law_places" : PySem.Str) :: ("_law_name" : PySem.Str) :: ("_law_stamps" : PySem.Str) :: ("_law_counts" : PySem.Str) :: ("_law_all" : PySem.Str) :: ("_law_has" : PySem.Str) :: ("_law_gaps" : PySem.Str) :: ("_law_doubles" : PySem.Str) :: ("_law_apart" : PySem.Str) :: ("_law_bare_right" : PySem.Str) :: []
theorem run (w : World) : HandSHeadRun.RunEq R (PySem.W.view R.prog [51]) hk ob 4000 names w := by
  intro os
  kernel_rfl
end K09
end

section
open PySem PySem.W PySem.Calls PyProof.Rows
theorem PySem.Challenge.cw_hingemount_k09_joined_parted_parting_holds : PySem.Challenge.rw_hingemount_k09_joined_parted_parting.Holds := by
  w_on; o_law
  refine HandSHeadRun.head_any (r := OpenLaw.row PySem.Challenge.rw_hingemount_k09_joined_parted_parting) (q := view (OpenLaw.row PySem.Challenge.rw_hingemount_k09_joined_parted_parting).prog [51]) (H := K09.hk) (ob := K09.ob) (M := 4000) (loose := K09.names) (d := HandSHeadRun.topDef (OpenLaw.row PySem.Challenge.rw_hingemount_k09_joined_parted_parting).prog 51) (kwd := []) K09.ob_eq
    (by kernel_rfl) (fun s => by kernel_rfl) K09.run (by kernel_rfl) (by kernel_rfl) (by kernel_rfl) (by rfl) (by first | assumption | decide +kernel) (by decide +kernel) ⟨rfl, rfl, rfl, rfl, rfl, by decide +kernel⟩ ?hw ?hc
  case hw => w_witness2
  case hc => exact Eng.Pr.law (p := K09.pr) (n := 20) (x := "_law_script") rfl (by kernel_rfl) ⟨rfl, by decide, by decide⟩ K09.ok K09.nd K09.bp (by kernel_rfl) K09.r_law (by kernel_rfl) (by kernel_rfl) (by kernel_rfl) rfl K09.law_ok
end
