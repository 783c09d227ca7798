import PyProof.Rows.All
import Wide.All
import OpenK.AllK
import Wide.FinOn
import HandS.ForMost
import HandS.ForExc
import HandS.IsInst
import HandS.Walk
import HandS.TupAny
import HandS.Conv
import HandS.CallSlots
import KE.LtData
import HandS.Codes
import KE.DataEq
import KE.DataCmp
import HandS.Text
import HandS.SortInts
import PyProof.ReprRoads
import HandS.Zip
import KE.GoesEnum
import HandS.SetFor
import HandS.Strs
import HandS.SortKw
import KE.DataMinMax
import HandS.Small
import PyProof.Rows.RowBridgeK
import HandS.HeadHook2
import HandS.HeadEnd
import PyProof.ReprLen
import PySem.Challenge.RW_hingemount_k45_whole_a_false_stamp_takes
import HandS.Head0
import HandS.Head1
import HandS.Head2
import KE.KStateDown
import Lean
set_option Elab.async false
set_option linter.all false
set_option maxRecDepth 100000
set_option maxHeartbeats 0
section
/-! The engine, part A: structured values, the store, how they stand in the abstract heap. -/
namespace Eng
open PySem PySem.Spec PyProof.Rows L2

/-- a structured value: data that never changes, or a number of the store -/
inductive D where
  | non | bl (b : Bool) | int (i : Int) | str (x : Str)
  | lst (xs : List D) | tup (xs : List D) | dic (ks : List Key) (vs : List D) | dit (ks : List (List Key)) (vs : List D) | ref (n : Nat) | scr (xs : List D)

/-- an object that may change -/
inductive Cell where
  | lst (xs : List D) | dK (ks : List Key) (vs : List D) | dT (ks : List (List Key)) (vs : List D) | ins (c : Str) (ns : List Str) (vs : List D)
abbrev Store := List Cell
/-- a result: frozen, or an object that nobody else holds -/
inductive Val where
  | fz (d : D) | own (c : Cell)
abbrev Frame := List (Option Val)
/-- an exception: its class's name, its fields -/
structure Ex where
  c : Str
  ns : List Str
  vs : List D

/-- where the store's objects, the frame's own objects and others' own objects stand -/
structure Gh where
  rho : List Addr
  own : List Addr
  tmp : List Addr
def Gh.av (g : Gh) (a : Addr) : Prop := a ∈ g.rho ∨ a ∈ g.own ∨ a ∈ g.tmp

mutual
inductive RD (K : PySem.W.Frag) (g : Gh) (H : Hp) : D → V → Prop
  | non : RD K g H .non .non
  | bl (b : Bool) : RD K g H (.bl b) (.bl b)
  | int (i : Int) : RD K g H (.int i) (.int i)
  | str (x : Str) : RD K g H (.str x) (.str x)
  | lst {a : Addr} {xs : List D} {vs : List V} : H a = some (.lst vs) → ¬ g.av a → RDs K g H xs vs → RD K g H (.lst xs) (.ref a)
  | tup {a : Addr} {xs : List D} {vs : List V} : H a = some (.tup vs) → RDs K g H xs vs → RD K g H (.tup xs) (.ref a)
  | dic {a : Addr} {ks : List Key} {xs : List D} {vs : List V} : H a = some (.dK (ks.zip vs)) → ks.length = vs.length → ¬ g.av a → RDs K g H xs vs → RD K g H (.dic ks xs) (.ref a)
  | dit {a : Addr} {ks : List (List Key)} {xs : List D} {vs : List V} : H a = some (.dT (ks.zip vs)) → ks.length = vs.length → ¬ g.av a → RDs K g H xs vs → RD K g H (.dit ks xs) (.ref a)
  | ref {n : Nat} {a : Addr} : g.rho[n]? = some a → RD K g H (.ref n) (.ref a)
  | scr {a : Addr} {xs : List D} {vs : List V} : (Rd H a (.lst vs) ∧ ¬ g.av a) ∨ (∀ H' : Hp, SqL K H' a vs) → RDs K g H xs vs → RD K g H (.scr xs) (.ref a)
inductive RDs (K : PySem.W.Frag) (g : Gh) (H : Hp) : List D → List V → Prop
  | nil : RDs K g H [] []
  | cons {d : D} {ds : List D} {v : V} {vs : List V} : RD K g H d v → RDs K g H ds vs → RDs K g H (d :: ds) (v :: vs)
end

/-- what stands frozen stands on -/
structure Mono (K : PySem.W.Frag) (g : Gh) (H : Hp) (g' : Gh) (H' : Hp) : Prop where
  keep : ∀ a o, H a = some o → ¬ g.av a → H' a = some o ∧ ¬ g'.av a
  tups : ∀ a xs, H a = some (.tup xs) → H' a = some (.tup xs)
  pre : ∀ (n : Nat) a, g.rho[n]? = some a → g'.rho[n]? = some a

section
variable {K : PySem.W.Frag} {g g' g2 : Gh} {H H' H2 : Hp}
theorem Mono.rd (m : Mono K g H g' H') {a : Addr} {u : HO} (h : Rd H a u) (n : ¬ g.av a) : Rd H' a u ∧ ¬ g'.av a := by
  rcases h with h | ⟨o, h⟩
  · exact ⟨.inl (m.keep a _ h n).1, (m.keep a _ h n).2⟩
  · exact ⟨.inr ⟨o, (m.keep a _ h n).1⟩, (m.keep a _ h n).2⟩
theorem RD.mono (m : Mono K g H g' H') {d : D} {v : V} (h : RD K g H d v) : RD K g' H' d v := by
  refine RD.rec (motive_1 := fun d v _ => RD K g' H' d v) (motive_2 := fun ds vs _ => RDs K g' H' ds vs) .non .bl .int .str ?_ ?_ ?_ ?_ ?_ ?_ .nil ?_ h
  · intro a xs vs h n _ ih
    exact .lst (m.keep _ _ h n).1 (m.keep _ _ h n).2 ih
  · intro a xs vs h _ ih
    exact .tup (m.tups _ _ h) ih
  · intro a ks xs vs h hl n _ ih
    exact .dic (m.keep _ _ h n).1 hl (m.keep _ _ h n).2 ih
  · intro a ks xs vs h hl n _ ih
    exact .dit (m.keep _ _ h n).1 hl (m.keep _ _ h n).2 ih
  · intro n a h
    exact .ref (m.pre _ _ h)
  · intro a xs vs h _ ih
    rcases h with ⟨h, n⟩ | h
    · exact .scr (.inl (m.rd h n)) ih
    · exact .scr (.inr h) ih
  · intro d ds v vs _ _ ih1 ih2
    exact .cons ih1 ih2
theorem RDs.mono (m : Mono K g H g' H') : ∀ {ds : List D} {vs : List V}, RDs K g H ds vs → RDs K g' H' ds vs
  | _, _, .nil => .nil
  | _, _, .cons h t => .cons (h.mono m) (RDs.mono m t)
theorem RDs.length : ∀ {ds : List D} {vs : List V}, RDs K g H ds vs → ds.length = vs.length
  | _, _, .nil => rfl
  | _, _, .cons _ t => by rw [List.length_cons, List.length_cons, RDs.length t]
theorem RDs.get : ∀ {ds : List D} {vs : List V} {i : Nat} {d : D}, RDs K g H ds vs → ds[i]? = some d → ∃ v, vs[i]? = some v ∧ RD K g H d v
  | _, _, _, _, .nil, e => by simp at e
  | _, _, 0, _, .cons h _, e => by simp at e; subst e; exact ⟨_, rfl, h⟩
  | _, _, i + 1, d, .cons _ t, e => by
    obtain ⟨v, h1, h2⟩ := RDs.get (i := i) (d := d) t (by simpa using e)
    exact ⟨v, by simpa using h1, h2⟩
theorem RDs.getV : ∀ {ds : List D} {vs : List V} {i : Nat} {v : V}, RDs K g H ds vs → vs[i]? = some v → ∃ d, ds[i]? = some d ∧ RD K g H d v
  | _, _, _, _, .nil, e => by simp at e
  | _, _, 0, _, .cons h _, e => by simp at e; subst e; exact ⟨_, rfl, h⟩
  | _, _, i + 1, v, .cons _ t, e => by
    obtain ⟨d, h1, h2⟩ := RDs.getV (i := i) (v := v) t (by simpa using e)
    exact ⟨d, by simpa using h1, h2⟩
theorem RDs.append : ∀ {ds es : List D} {vs us : List V}, RDs K g H ds vs → RDs K g H es us → RDs K g H (ds ++ es) (vs ++ us)
  | _, _, _, _, .nil, s => s
  | _, _, _, _, .cons h t, s => .cons h (RDs.append t s)
theorem RDs.take : ∀ {ds : List D} {vs : List V} (n : Nat), RDs K g H ds vs → RDs K g H (ds.take n) (vs.take n)
  | _, _, 0, _ => .nil
  | _, _, _ + 1, .nil => .nil
  | _, _, n + 1, .cons h t => .cons h (RDs.take n t)
theorem RDs.drop : ∀ {ds : List D} {vs : List V} (n : Nat), RDs K g H ds vs → RDs K g H (ds.drop n) (vs.drop n)
  | _, _, 0, h => h
  | _, _, _ + 1, .nil => .nil
  | _, _, n + 1, .cons _ t => RDs.drop n t
theorem RDs.set {d : D} {v : V} (r : RD K g H d v) : ∀ {ds : List D} {vs : List V} (i : Nat), RDs K g H ds vs → RDs K g H (ds.set i d) (vs.set i v)
  | _, _, _, .nil => .nil
  | _, _, 0, .cons _ t => .cons r t
  | _, _, i + 1, .cons q t => .cons q (RDs.set r i t)
theorem RDs.eraseIdx : ∀ {ds : List D} {vs : List V} (i : Nat), RDs K g H ds vs → RDs K g H (ds.eraseIdx i) (vs.eraseIdx i)
  | _, _, _, .nil => .nil
  | _, _, 0, .cons _ t => t
  | _, _, i + 1, .cons q t => .cons q (RDs.eraseIdx i t)
theorem RDs.one {d : D} {v : V} (h : RD K g H d v) : RDs K g H [d] [v] := .cons h .nil
theorem RDs.reverse : ∀ {ds : List D} {vs : List V}, RDs K g H ds vs → RDs K g H ds.reverse vs.reverse
  | _, _, .nil => .nil
  | _, _, .cons h t => by
    rw [List.reverse_cons, List.reverse_cons]
    exact RDs.append (RDs.reverse t) (.one h)
end

/-! ### cells, slots, the store -/
def CellR (K : PySem.W.Frag) (mg : Str → Option Value) (g : Gh) (H : Hp) (a : Addr) : Cell → Prop
  | .lst xs => ∃ vs, H a = some (.lst vs) ∧ RDs K g H xs vs
  | .dK ks xs => ∃ vs, H a = some (.dK (ks.zip vs)) ∧ ks.length = vs.length ∧ RDs K g H xs vs
  | .dT ks xs => ∃ vs, H a = some (.dT (ks.zip vs)) ∧ ks.length = vs.length ∧ RDs K g H xs vs
  | .ins c ns xs => ∃ C dx vs, mg c = some (.ref C) ∧ H a = some (.ins C dx (ns.zip vs)) ∧ ns.length = vs.length ∧ RDs K g H xs vs

/-- behind a step: what neither the store nor the frame owns stands, tuples stand, the store grows -/
structure Keep (g : Gh) (H : Hp) (g' : Gh) (H' : Hp) : Prop where
  keep : ∀ a o, H a = some o → a ∉ g.rho → a ∉ g.own → H' a = some o ∧ a ∉ g'.rho ∧ a ∉ g'.own
  tmp : ∀ a o, H a = some o → a ∉ g.rho → a ∉ g.own → a ∈ g'.tmp → a ∈ g.tmp
  tups : ∀ a xs, H a = some (.tup xs) → H' a = some (.tup xs)
  pre : ∀ (n : Nat) a, g.rho[n]? = some a → g'.rho[n]? = some a

structure StR (K : PySem.W.Frag) (mg : Str → Option Value) (g : Gh) (S : Store) (H : Hp) : Prop where
  len : g.rho.length = S.length
  nd : g.rho.Nodup
  cell : ∀ (n : Nat) c a, S[n]? = some c → g.rho[n]? = some a → CellR K mg g H a c
  rt : ∀ a, a ∈ g.rho → a ∉ g.own ∧ a ∉ g.tmp
  ot : ∀ a, a ∈ g.own → a ∉ g.tmp
  tr : ∀ a, g.av a → ∃ o, H a = some o

def SlotR (K : PySem.W.Frag) (mg : Str → Option Value) (g : Gh) (H : Hp) (x : V) : Val → Prop
  | .fz d => RD K g H d x
  | .own c => ∃ a, x = .ref a ∧ a ∈ g.own ∧ CellR K mg g H a c

structure Rel (K : PySem.W.Frag) (mg : Str → Option Value) (g : Gh) (fr : Frame) (S : Store) (σ : L2.St) (H : Hp) : Prop where
  len : fr.length = σ.length
  slot : ∀ (i : Nat) v, fr[i]? = some (some v) → ∃ x, σ[i]? = some (some x) ∧ SlotR K mg g H x v
  apart : ∀ (i j : Nat) c c' a, i ≠ j → fr[i]? = some (some (.own c)) → fr[j]? = some (some (.own c')) → σ[i]? = some (some (.ref a)) → σ[j]? ≠ some (some (.ref a))
  st : StR K mg g S H

section
variable {K : PySem.W.Frag} {mg : Str → Option Value} {g g' g2 : Gh} {H H' H2 : Hp} {fr fr' : Frame} {S S' : Store} {σ σ' : L2.St}
theorem Keep.refl : Keep g H g H := ⟨fun a o h n m => ⟨h, n, m⟩, fun _ _ _ _ _ h => h, fun _ _ h => h, fun _ _ h => h⟩
theorem Keep.trans (a : Keep g H g' H') (b : Keep g' H' g2 H2) : Keep g H g2 H2 where
  keep := fun c o h n m => let ⟨h1, n1, m1⟩ := a.keep c o h n m; b.keep c o h1 n1 m1
  tmp := fun c o h n m t => let ⟨h1, n1, m1⟩ := a.keep c o h n m; a.tmp c o h n m (b.tmp c o h1 n1 m1 t)
  tups := fun c xs h => b.tups c xs (a.tups c xs h)
  pre := fun n c h => b.pre n c (a.pre n c h)
theorem Keep.mono (k : Keep g H g' H') : Mono K g H g' H' where
  keep := fun a o h n => by
    have n1 : a ∉ g.rho := fun z => n (.inl z)
    have n2 : a ∉ g.own := fun z => n (.inr (.inl z))
    obtain ⟨h1, h2, h3⟩ := k.keep a o h n1 n2
    refine ⟨h1, fun z => ?_⟩
    rcases z with z | z | z
    · exact h2 z
    · exact h3 z
    · exact n (.inr (.inr (k.tmp a o h n1 n2 z)))
  tups := k.tups
  pre := k.pre
/-- fewer things are avoided -/
theorem Mono.less (h : ∀ a, g'.av a → g.av a) (hp : ∀ (n : Nat) a, g.rho[n]? = some a → g'.rho[n]? = some a) : Mono K g H g' H :=
  ⟨fun a o e n => ⟨e, fun z => n (h a z)⟩, fun _ _ e => e, hp⟩
theorem Mono.refl : Mono K g H g H := Mono.less (fun _ z => z) fun _ _ z => z
/-- a fresh object is laid -/
theorem Mono.fresh {p : Addr} {o : HO} (hp : H p = none) : Mono K g H g (upd H p o) :=
  ⟨fun a u e n => ⟨by rw [upd_ne (ne_of_none e hp)]; exact e, n⟩, fun a xs e => by rw [upd_ne (ne_of_none e hp)]; exact e, fun _ _ z => z⟩
/-- the heap grows -/
def Grows (H H' : Hp) : Prop := ∀ a o, H a = some o → H' a = some o
theorem Grows.fresh {p : Addr} {o : HO} (hp : H p = none) : Grows H (upd H p o) := fun a u e => by rw [upd_ne (ne_of_none e hp)]; exact e
theorem Grows.refl : Grows H H := fun _ _ e => e
theorem Grows.trans (a : Grows H H') (b : Grows H' H2) : Grows H H2 := fun c o e => b c o (a c o e)
theorem Grows.mono (k : Grows H H') : Mono K g H g H' := ⟨fun a o e n => ⟨k a o e, n⟩, fun a xs e => k _ _ e, fun _ _ z => z⟩
theorem Grows.keep (k : Grows H H') : Keep g H g H' := ⟨fun a o e n m => ⟨k a o e, n, m⟩, fun _ _ _ _ _ z => z, fun a xs e => k _ _ e, fun _ _ z => z⟩
theorem CellR.mono (m : Mono K g H g' H') {a : Addr} (ha : H' a = H a) {c : Cell} (h : CellR K mg g H a c) : CellR K mg g' H' a c := by
  cases c with
  | lst xs => obtain ⟨vs, e, r⟩ := h; exact ⟨vs, ha.trans e, r.mono m⟩
  | dK ks xs => obtain ⟨vs, e, l, r⟩ := h; exact ⟨vs, ha.trans e, l, r.mono m⟩
  | dT ks xs => obtain ⟨vs, e, l, r⟩ := h; exact ⟨vs, ha.trans e, l, r.mono m⟩
  | ins c ns xs => obtain ⟨C, dx, vs, q, e, l, r⟩ := h; exact ⟨C, dx, vs, q, ha.trans e, l, r.mono m⟩
theorem CellR.some_of {a : Addr} {c : Cell} (h : CellR K mg g H a c) : ∃ o, H a = some o ∧ Mut (some o) := by
  cases c with
  | lst xs => obtain ⟨vs, e, r⟩ := h; exact ⟨_, e, trivial⟩
  | dK ks xs => obtain ⟨vs, e, l, r⟩ := h; exact ⟨_, e, trivial⟩
  | dT ks xs => obtain ⟨vs, e, l, r⟩ := h; exact ⟨_, e, trivial⟩
  | ins c ns xs => obtain ⟨C, dx, vs, q, e, l, r⟩ := h; exact ⟨_, e, trivial⟩
theorem CellR.grows (k : Grows H H') {a : Addr} {c : Cell} (h : CellR K mg g H a c) : CellR K mg g H' a c := by
  obtain ⟨o, e, _⟩ := h.some_of
  exact h.mono k.mono (by rw [k a o e, e])
theorem SlotR.grows (k : Grows H H') {x : V} {v : Val} (h : SlotR K mg g H x v) : SlotR K mg g H' x v := by
  cases v with
  | fz d => exact RD.mono k.mono h
  | own c => obtain ⟨a, e, m, r⟩ := h; exact ⟨a, e, m, r.grows k⟩
theorem StR.grows (k : Grows H H') (h : StR K mg g S H) : StR K mg g S H' :=
  ⟨h.len, h.nd, fun n c a e q => (h.cell n c a e q).grows k, h.rt, h.ot, fun a z => let ⟨o, e⟩ := h.tr a z; ⟨o, k a o e⟩⟩
theorem Rel.grows (k : Grows H H') (h : Rel K mg g fr S σ H) : Rel K mg g fr S σ H' :=
  ⟨h.len, fun i v e => let ⟨x, e1, r⟩ := h.slot i v e; ⟨x, e1, r.grows k⟩, h.apart, h.st.grows k⟩
end
end Eng
end

section
/-! The engine, part B: what an expression and a statement come to, over structured values (plain functions). -/
namespace Eng
open PySem PySem.Spec PyProof.Rows L2

/-! ### data as a whole -/
mutual
/-- neither a dict nor a number of the store within -/
def D.pl : D → Bool
  | .non | .bl _ | .int _ | .str _ => true
  | .lst xs | .tup xs => D.pls xs
  | .dic _ _ | .dit _ _ | .ref _ | .scr _ => false
def D.pls : List D → Bool
  | [] => true
  | x :: xs => D.pl x && D.pls xs
end
mutual
def D.dep : D → Nat
  | .lst xs | .tup xs => D.deps xs + 1
  | _ => 0
def D.deps : List D → Nat
  | [] => 0
  | x :: xs => max (D.dep x) (D.deps xs)
end
mutual
def D.eqv : D → D → Bool
  | .non, .non => true
  | .bl a, .bl b => a == b
  | .bl a, .int j => (if a then 1 else 0) == j
  | .int i, .bl b => i == (if b then 1 else 0)
  | .int i, .int j => i == j
  | .str x, .str y => x == y
  | .lst xs, .lst ys => D.eqvs xs ys
  | .tup xs, .tup ys => D.eqvs xs ys
  | _, _ => false
def D.eqvs : List D → List D → Bool
  | [], [] => true
  | x :: xs, y :: ys => D.eqv x y && D.eqvs xs ys
  | _, _ => false
end
mutual
def D.toP : D → PyData
  | .non => .none | .bl b => .bool b | .int i => .int i | .str x => .str x
  | .lst xs => .list (D.toPs xs) | .tup xs => .tuple (D.toPs xs)
  | .dic _ _ | .dit _ _ | .ref _ | .scr _ => .none
def D.toPs : List D → List PyData
  | [] => []
  | x :: xs => D.toP x :: D.toPs xs
end

/-- a store's list or dict as data -/
def lookC (n : Nat) : Option Cell → D
  | some (.lst xs) => .lst xs
  | some (.dK ks vs) => .dic ks vs
  | some (.dT ks vs) => .dit ks vs
  | some (.ins _ _ _) => .ref n
  | none => .ref n
def look (S : Store) : D → D
  | .ref n => lookC n S[n]?
  | d => d
def Cell.frz : Cell → Option D
  | .lst xs => some (.lst xs)
  | .dK ks vs => some (.dic ks vs)
  | .dT ks vs => some (.dit ks vs)
  | _ => none
def Val.frz : Val → Option D
  | .fz d => some d
  | .own c => c.frz

/-! ### operators, by values -/
inductive BK where | add | sub | mul | fdiv | mod | pow
  deriving DecidableEq
inductive CK where | eq | ne | lt | le | gt | ge | inn | nin | isN | isnN
  deriving DecidableEq
inductive FK where | len | all | any | sum | tuple | list | int | max2 | min2 | repr | sorted
  deriving DecidableEq
inductive TK where | int | bool | tuple | str | list | dict
  deriving DecidableEq

def binD : BK → D → D → Option Val
  | .add, .int i, .int j => some (.fz (.int (i + j)))
  | .add, .str x, .str y => if x.length + y.length ≤ sizeLine then some (.fz (.str (x ++ y))) else none
  | .add, .tup xs, .tup ys => if xs.length + ys.length ≤ sizeLine then some (.fz (.tup (xs ++ ys))) else none
  | .add, .lst xs, .lst ys => if xs.length + ys.length ≤ sizeLine then some (.own (.lst (xs ++ ys))) else none
  | .sub, .int i, .int j => some (.fz (.int (i - j)))
  | .mul, .int i, .int j => if (-(2 ^ 64) < i ∧ i < 2 ^ 64) ∨ (-(2 ^ 64) < j ∧ j < 2 ^ 64) then some (.fz (.int (i * j))) else none
  | .mul, .lst xs, .int k => if -(2 ^ 63) ≤ k ∧ k < 2 ^ 63 ∧ xs.length * k.toNat ≤ sizeLine then some (.own (.lst (List.replicate k.toNat xs).flatten)) else none
  | .fdiv, .int i, .int j => if 0 < j ∧ j < 1073741824 then some (.fz (.int (i / j))) else none
  | .mod, .int i, .int j => if 0 < j then some (.fz (.int (i % j))) else none
  | .pow, .int i, .int j => if 0 ≤ j ∧ j ≤ 1000000 ∧ i.natAbs < 2 ^ 64 then some (.fz (.int (i ^ j.toNat))) else none
  | _, _, _ => none

/-- alike data that have an order -/
def D.ordOk (a b : D) : Bool := a.pl && b.pl && PySem.W.alike a.toP b.toP && (match a with | .non => false | _ => true) && decide (min a.dep b.dep ≤ 64)
def D.ltb (a b : D) : Bool := PySem.W.dataLt a.toP b.toP
def ordD (p : Int → Int → Bool) (q : D → D → Bool) : D → D → Option Bool
  | .int i, .int j => some (p i j)
  | a, b => if D.ordOk a b then some (q a b) else none
/-! ### keys of dicts -/
def toKey : D → Option Key
  | .int i => some (.inl i)
  | .str x => some (.inr x)
  | _ => none
def toKeys : List D → Option (List Key)
  | [] => some []
  | d :: ds => (toKey d).bind fun k => (toKeys ds).map (k :: ·)
def keyT : D → Option (List Key)
  | .tup ds => toKeys ds
  | _ => none
def keyD : Key → D
  | .inl i => .int i
  | .inr x => .str x
section
variable {κ : Type} [DecidableEq κ]
def findK : List κ → List D → κ → Option D
  | k :: ks, v :: vs, j => if k = j then some v else findK ks vs j
  | _, _, _ => none
def putKs (ks : List κ) (k : κ) : List κ := if k ∈ ks then ks else ks ++ [k]
def putVs (ks : List κ) (vs : List D) (k : κ) (d : D) : List D := if k ∈ ks then List.zipWith (fun j v => if j = k then d else v) ks vs else vs ++ [d]
end
/-- what a dict holds at a key -/
def dgetD : D → D → Option (Option D)
  | .dic ks vs, d => (toKey d).map fun k => findK ks vs k
  | .dit ks vs, d => (keyT d).map fun k => findK ks vs k
  | _, _ => none
def D.fit (a b : D) : Bool := a.pl && b.pl && decide (min a.dep b.dep ≤ 64)
def inD (a : D) : D → Option Bool
  | .lst xs => if a.pl && D.pls xs && decide (min (D.deps xs) a.dep ≤ 64) then some (xs.any fun y => D.eqv y a) else none
  | .tup xs => if a.pl && D.pls xs && decide (min (D.deps xs) a.dep ≤ 64) then some (xs.any fun y => D.eqv y a) else none
  | .dic ks vs => (toKey a).map fun k => (findK ks vs k).isSome
  | .dit ks vs => (keyT a).map fun k => (findK ks vs k).isSome
  | .str z => match a with
    | .str x => match x.cps.toList with
      | [c] => some (decide (c ∈ z.cps.toList))
      | _ => none
    | _ => none
  | _ => none
def D.isNon : D → Bool
  | .non => true
  | _ => false
def cmpD : CK → D → D → Option Bool
  | .eq, a, b => if D.fit a b then some (D.eqv a b) else none
  | .ne, a, b => if D.fit a b then some (!D.eqv a b) else none
  | .lt, a, b => ordD (fun i j => decide (i < j)) (fun x y => D.ltb x y) a b
  | .le, a, b => ordD (fun i j => decide (i ≤ j)) (fun x y => !D.ltb y x) a b
  | .gt, a, b => ordD (fun i j => decide (j < i)) (fun x y => D.ltb y x) a b
  | .ge, a, b => ordD (fun i j => decide (j ≤ i)) (fun x y => !D.ltb x y) a b
  | .inn, a, b => inD a b
  | .nin, a, b => (inD a b).map (!·)
  | .isN, a, .non => some a.isNon
  | .isnN, a, .non => some (!a.isNon)
  | _, _, _ => none

def atD (xs : List D) (i : Int) : Option D := atI xs i
def subD : D → D → Option D
  | .lst xs, .int i => atD xs i
  | .tup xs, .int i => atD xs i
  | .scr xs, .int i => atD xs i
  | .str x, .int i => if x.length ≤ sizeLine then (atI x.cps.toList i).map fun c => .str ⟨#[c]⟩ else none
  | .dic ks vs, k => (toKey k).bind fun k => findK ks vs k
  | .dit ks vs, k => (keyT k).bind fun k => findK ks vs k
  | _, _ => none
def cutD (xs : List D) (lo hi : Option Int) : List D := (xs.drop (HT.sIx xs.length 0 lo)).take (HT.sIx xs.length xs.length hi - HT.sIx xs.length 0 lo)
def sliceD (lo hi : Option Int) : D → Option Val
  | .lst xs => some (.own (.lst (cutD xs lo hi)))
  | .tup xs => some (.fz (.tup (cutD xs lo hi)))
  | .str x => if x.length ≤ sizeLine then some (.fz (.str (Txt.slice x lo hi))) else none
  | _ => none

def truD : D → Option Bool
  | .non => some false
  | .bl b => some b
  | .int i => some (i != 0)
  | .lst xs => some (!xs.isEmpty)
  | .tup xs => some (!xs.isEmpty)
  | _ => none

def boolL : List D → Option (List Bool)
  | [] => some []
  | .bl b :: r => (boolL r).map (b :: ·)
  | _ :: _ => none
def intL : List D → Option (List Int)
  | [] => some []
  | .int b :: r => (intL r).map (b :: ·)
  | _ :: _ => none

/-! ### ints in order -/
def insI (k : Int) : List Int → List Int
  | [] => [k]
  | x :: xs => if k ≤ x then k :: x :: xs else x :: insI k xs
def srtI : List Int → List Int
  | [] => []
  | x :: xs => insI x (srtI xs)
def insU (k : Int) : List Int → List Int
  | [] => [k]
  | x :: xs => if k < x then k :: x :: xs else if k = x then x :: xs else x :: insU k xs
def setI : List Int → List Int
  | [] => []
  | x :: xs => insU x (setI xs)
/-- the first of the least -/
def minL (y : D) (ys : List D) : D := ys.foldl (fun a z => if D.ltb z a then z else a) y
def alkD (xs : List D) : Bool := D.pls xs && decide (D.deps xs ≤ 60) && xs.all fun x => (!D.isNon x) && xs.all fun y => PySem.W.alike x.toP y.toP
def mindD : D → D → Option D
  | .lst [], d => some d
  | .lst (y :: ys), _ => if alkD (y :: ys) then some (minL y ys) else none
  | _, _ => none
def sortsetD : D → Option Val
  | .lst xs => (intL xs).bind fun ns => if ns.length ≤ 60 then some (.own (.lst ((setI ns).map .int))) else none
  | .tup xs => (intL xs).bind fun ns => if ns.length ≤ 60 then some (.own (.lst ((setI ns).map .int))) else none
  | _ => none
/-- the text of a list or a tuple of plain data -/
def reprD (d : D) : Option Val := if d.pl = true ∧ d.toP.showable = true ∧ d.toP.shown.length ≤ sizeLine ∧ d.dep ≤ 64 then some (.fz (.str d.toP.shown)) else none
/-- a built-in by the values of its arguments -/
def bltD : FK → List D → Option Val
  | .len, [.lst xs] => some (.fz (.int xs.length))
  | .len, [.tup xs] => some (.fz (.int xs.length))
  | .len, [.scr xs] => some (.fz (.int xs.length))
  | .len, [.str x] => if x.length ≤ sizeLine then some (.fz (.int x.length)) else none
  | .all, [.lst xs] => (boolL xs).map fun bs => .fz (.bl (bs.all id))
  | .any, [.lst xs] => (boolL xs).map fun bs => .fz (.bl (bs.any id))
  | .sum, [.lst xs] => (intL xs).map fun ns => .fz (.int ns.sum)
  | .tuple, [.lst xs] => some (.fz (.tup xs))
  | .tuple, [.tup xs] => some (.fz (.tup xs))
  | .list, [.lst xs] => some (.own (.lst xs))
  | .list, [.tup xs] => some (.own (.lst xs))
  | .int, [.int i] => some (.fz (.int i))
  | .int, [.bl b] => some (.fz (.int (if b then 1 else 0)))
  | .max2, [.int i, .int j] => some (.fz (.int (if j > i then j else i)))
  | .min2, [.int i, .int j] => some (.fz (.int (if j < i then j else i)))
  | .sorted, [.lst xs] => (intL xs).map fun ns => .own (.lst ((srtI ns).map .int))
  | .repr, [.tup xs] => reprD (.tup xs)
  | .repr, [.lst xs] => reprD (.lst xs)
  | _, _ => none
/-- len(set(x)), x a list of unlike ints -/
def lensetD : D → Option Val
  | .lst xs => (intL xs).bind fun ns => if ns.Nodup ∧ ns.length ≤ 4000 then some (.fz (.int ns.length)) else none
  | _ => none
def isD : TK → D → Option Bool
  | _, .ref _ => none
  | .int, .int _ => some true
  | .int, .bl _ => some true
  | .bool, .bl _ => some true
  | .tuple, .tup _ => some true
  | .str, .str _ => some true
  | .list, .lst _ => some true
  | .list, .scr _ => some true
  | .dict, .dic _ _ => some true
  | .dict, .dit _ _ => some true
  | _, _ => some false

/-! ### results -/
inductive RX (α : Type) where
  | ok (a : α) (fr : Frame) (S : Store) | ex (e : Ex) (fr : Frame) (S : Store) | no
inductive RC where
  | ok (v : Val) (S : Store) | ex (e : Ex) (S : Store) | no
def RX.bind {α β : Type} (r : RX α) (k : α → Frame → Store → RX β) : RX β := match r with
  | .ok a fr S => k a fr S
  | .ex e fr S => .ex e fr S
  | .no => .no
def RX.lift {α : Type} (o : Option α) (fr : Frame) (S : Store) : RX α := match o with
  | some a => .ok a fr S
  | none => .no
theorem RX.bind_ok {α β : Type} (a : α) (fr : Frame) (S : Store) (k : α → Frame → Store → RX β) : (RX.ok a fr S).bind k = k a fr S := rfl
theorem RX.bind_ex {α β : Type} (e : Ex) (fr : Frame) (S : Store) (k : α → Frame → Store → RX β) : (RX.ex e fr S).bind k = .ex e fr S := rfl
theorem RX.bind_no {α β : Type} (k : α → Frame → Store → RX β) : (RX.no : RX α).bind k = .no := rfl
/-- a result frozen -/
def frzX (r : RX Val) : RX D := r.bind fun v fr S => RX.lift v.frz fr S
def RC.back (fr : Frame) : RC → RX Val
  | .ok v S => .ok v fr S
  | .ex e S => .ex e fr S
  | .no => .no

abbrev CF := Str → List D → Store → RC

/-! ### the text -/
mutual
inductive Tg where
  | nm (i : Nat) | tp (ts : Tgs)
inductive Tgs where
  | nil | cons (t : Tg) (ts : Tgs)
end
mutual
inductive Xp where
  | con (d : D) | var (i : Nat) | glo (x : Str)
  | bin (k : BK) (a b : Xp) | cmp (k : CK) (a b : Xp) | chain (k l : CK) (a b c : Xp)
  | not (a : Xp) | and (a b : Xp) | or (a b : Xp) | ife (c a b : Xp)
  | tup (es : Xs) | lst (es : Xs) | sub (a b : Xp) | slice (a lo hi : Xp) | omit
  | call (f : Str) (es : Xs) | blt (k : FK) (es : Xs) | isi (t : TK) (a : Xp)
  | bltv (k : FK) (i : Nat) | subv (i : Nat) (b : Xp) | cmpv (k : CK) (a : Xp) (i : Nat) | popv (i : Nat) (b : Xp)
  | comp (elt : Xp) (tg : Tg) (it : Wk) (cs : Xs) | share (a : Xp) | listrg (b : Xp) | lenset (a : Xp)
  | neg (a : Xp) | dic0 (t : Bool) | sortset (a : Xp) | mind (a b : Xp)
inductive Xs where
  | nil | cons (e : Xp) (es : Xs)
inductive Wk where
  | seq (e : Xp) | rng1 (e : Xp) | rng2 (a b : Xp) | enm (e : Xp) | zip (a b : Xp) | rng3 (a b c : Xp)
end

mutual
/-- the names that a target sets -/
def Tg.slots : Tg → List Nat
  | .nm i => [i]
  | .tp ts => ts.slots
def Tgs.slots : Tgs → List Nat
  | .nil => []
  | .cons t ts => t.slots ++ ts.slots
end
mutual
def asg : Tg → D → Frame → Option Frame
  | .nm i => fun d fr => some (fr.set i (some (.fz d)))
  | .tp ts => fun d fr => match d with | .tup ds => asgs ts ds fr | _ => none
def asgs : Tgs → List D → Frame → Option Frame
  | .nil => fun ds fr => match ds with | [] => some fr | _ => none
  | .cons t ts => fun ds fr => match ds with | d :: ds => (asg t d fr).bind fun fr' => asgs ts ds fr' | [] => none
end

def rgD (a b : Int) : List D := (List.range (b - a).toNat).map fun i => D.int (a + (i : Nat))
def rgN (a b : Int) : List D := (List.range (a - b).toNat).map fun i => D.int (a - (i : Nat))
def rgOk (a b : Int) : Bool := decide (-(2 ^ 62) ≤ a ∧ a < 2 ^ 62 ∧ -(2 ^ 62) ≤ b ∧ b < 2 ^ 62)
def enumD (xs : List D) : List D := (List.range xs.length).map fun i => D.tup [.int (i : Nat), xs.getD i .non]
def zipD (xs ys : List D) : List D := List.zipWith (fun x y => D.tup [x, y]) xs ys

/-- slots emptied -/
def wipeF (fr : Frame) : List Nat → Frame
  | [] => fr
  | v :: vs => (wipeF fr vs).set v none
/-- slots put back -/
def backF (old fr : Frame) : List Nat → Frame
  | [] => fr
  | v :: vs => (backF old fr vs).set v (old.getD v none)
/-- no own object stands in the slots -/
def calmF (fr : Frame) (vs : List Nat) : Bool := vs.all fun v => match fr.getD v none with | some (.own _) => false | _ => true

/-- a comprehension's turns -/
def compGo (tg : Tg) (test : Frame → Store → RX Bool) (elt : Frame → Store → RX D) : List D → List D → Frame → Store → RX (List D)
  | [], acc, fr, S => .ok acc fr S
  | d :: ds, acc, fr, S => match asg tg d fr with
    | none => .no
    | some fr1 => match test fr1 S with
      | .ok true fr2 S2 => match elt fr2 S2 with
        | .ok y fr3 S3 => if acc.length < sizeLine then compGo tg test elt ds (acc ++ [y]) (wipeF fr3 tg.slots) S3 else .no
        | _ => .no
      | .ok false fr2 S2 => compGo tg test elt ds acc (wipeF fr2 tg.slots) S2
      | _ => .no

def optI : D → Option Int
  | .int i => some i
  | _ => none
def varX (i : Nat) (fr : Frame) (S : Store) : RX Val := match fr[i]? with
  | some (some (.fz d)) => .ok (.fz d) fr S
  | some (some (.own c)) => match c.frz with
    | some d => .ok (.fz d) (fr.set i (some (.fz d))) S
    | none => .no
  | _ => .no
/-- an own list stands in the slot -/
def ownL (i : Nat) (fr : Frame) : Bool := match fr[i]? with
  | some (some (.own (.lst _))) => true
  | _ => false
/-- x.pop(k) of an own list -/
def popX (i : Nat) (y : D) (fr : Frame) (S : Store) : RX Val := match fr[i]?, y with
  | some (some (.own (.lst xs))), .int k => match ixN xs.length k with
    | some j => match xs[j]? with
      | some d => if xs.length ≤ sizeLine then .ok (.fz d) (fr.set i (some (.own (.lst (xs.eraseIdx j))))) S else .no
      | none => .no
    | none => .no
  | _, _ => .no
/-- what stands in a slot, as data; it is not frozen -/
def peek (i : Nat) (fr : Frame) (S : Store) : Option D := match fr[i]? with
  | some (some (.own c)) => c.frz
  | some (some (.fz d)) => some (look S d)
  | _ => none

/-- a value's truth -/
def tru (f : Frame → Store → RX Val) : Frame → Store → RX Bool := fun fr S => (frzX (f fr S)).bind fun x fr S => RX.lift (truD (look S x)) fr S
/-- an expression as a value, and as a test -/
structure EV where
  v : Frame → Store → RX Val
  t : Frame → Store → RX Bool
def EV.of (f : Frame → Store → RX Val) : EV := ⟨f, tru f⟩
/-- a part of a slice -/
def evO (m : Xp) (f : Frame → Store → RX Val) : Frame → Store → RX (Option Int) := match m with
  | .omit => fun fr S => .ok none fr S
  | _ => fun fr S => (frzX (f fr S)).bind fun x fr S => RX.lift ((optI x).map some) fr S
mutual
def ev2 (cf : CF) (gl : Str → Option D) : Xp → EV
  | .con d => .of fun fr S => .ok (.fz d) fr S
  | .var i => .of fun fr S => varX i fr S
  | .glo x => .of fun fr S => RX.lift ((gl x).map Val.fz) fr S
  | .bin k a b => .of fun fr S => (frzX ((ev2 cf gl a).v fr S)).bind fun x fr S => (frzX ((ev2 cf gl b).v fr S)).bind fun y fr S => RX.lift (binD k (look S x) (look S y)) fr S
  | .cmp k a b => .of fun fr S => (frzX ((ev2 cf gl a).v fr S)).bind fun x fr S => (frzX ((ev2 cf gl b).v fr S)).bind fun y fr S => RX.lift ((cmpD k (look S x) (look S y)).map fun r => Val.fz (.bl r)) fr S
  | .chain k l a b c => .of fun fr S => (frzX ((ev2 cf gl a).v fr S)).bind fun x fr S => (frzX ((ev2 cf gl b).v fr S)).bind fun y fr S => match cmpD k (look S x) (look S y) with
    | some true => (frzX ((ev2 cf gl c).v fr S)).bind fun z fr S => RX.lift ((cmpD l (look S y) (look S z)).map fun r => Val.fz (.bl r)) fr S
    | some false => .ok (.fz (.bl false)) fr S
    | none => .no
  | .not a => ⟨fun fr S => (frzX ((ev2 cf gl a).v fr S)).bind fun x fr S => match x with | .bl b => .ok (.fz (.bl (!b))) fr S | _ => .no,
      fun fr S => ((ev2 cf gl a).t fr S).bind fun t fr S => .ok (!t) fr S⟩
  | .and a b => ⟨fun fr S => (frzX ((ev2 cf gl a).v fr S)).bind fun x fr S => match x with | .bl true => (ev2 cf gl b).v fr S | .bl false => .ok (.fz (.bl false)) fr S | _ => .no,
      fun fr S => ((ev2 cf gl a).t fr S).bind fun t fr S => match t with | true => (ev2 cf gl b).t fr S | false => .ok false fr S⟩
  | .or a b => ⟨fun fr S => (frzX ((ev2 cf gl a).v fr S)).bind fun x fr S => match x with | .bl true => .ok (.fz (.bl true)) fr S | .bl false => (ev2 cf gl b).v fr S | _ => .no,
      fun fr S => ((ev2 cf gl a).t fr S).bind fun t fr S => match t with | true => .ok true fr S | false => (ev2 cf gl b).t fr S⟩
  | .ife c a b => .of fun fr S => ((ev2 cf gl c).t fr S).bind fun t fr S => match t with | true => (ev2 cf gl a).v fr S | false => (ev2 cf gl b).v fr S
  | .tup es => .of fun fr S => (evs cf gl es fr S).bind fun xs fr S => if xs.length ≤ sizeLine then .ok (.fz (.tup xs)) fr S else .no
  | .lst es => .of fun fr S => (evs cf gl es fr S).bind fun xs fr S => if xs.length ≤ sizeLine then .ok (.own (.lst xs)) fr S else .no
  | .sub a b => .of fun fr S => (frzX ((ev2 cf gl a).v fr S)).bind fun x fr S => (frzX ((ev2 cf gl b).v fr S)).bind fun y fr S => RX.lift ((subD (look S x) y).map Val.fz) fr S
  | .slice a lo hi => .of fun fr S => (frzX ((ev2 cf gl a).v fr S)).bind fun x fr S => (evO lo (ev2 cf gl lo).v fr S).bind fun l fr S => (evO hi (ev2 cf gl hi).v fr S).bind fun h fr S => RX.lift (sliceD l h (look S x)) fr S
  | .omit => .of fun _ _ => .no
  | .call f es => .of fun fr S => (evs cf gl es fr S).bind fun xs fr S => (cf f xs S).back fr
  | .blt k es => .of fun fr S => (evs cf gl es fr S).bind fun xs fr S => RX.lift (bltD k (xs.map (look S))) fr S
  | .isi t a => .of fun fr S => (frzX ((ev2 cf gl a).v fr S)).bind fun x fr S => RX.lift ((isD t x).map fun r => Val.fz (.bl r)) fr S
  | .bltv k i => .of fun fr S => RX.lift ((peek i fr S).bind fun d => bltD k [d]) fr S
  | .subv i b => .of fun fr S => if (peek i fr S).isSome then (frzX ((ev2 cf gl b).v fr S)).bind fun y fr S => RX.lift ((peek i fr S).bind fun d => (subD d y).map Val.fz) fr S else .no
  | .cmpv k a i => .of fun fr S => (frzX ((ev2 cf gl a).v fr S)).bind fun x fr S => RX.lift ((peek i fr S).bind fun d => (cmpD k (look S x) d).map fun r => Val.fz (.bl r)) fr S
  | .popv i b => .of fun fr S => if ownL i fr then (frzX ((ev2 cf gl b).v fr S)).bind fun y fr S => popX i y fr S else .no
  | .comp elt tg it cs => .of fun fr S => (evW cf gl it fr S).bind fun ds fr S => if calmF fr tg.slots then
      match compGo tg (evC cf gl cs) (fun fr S => frzX ((ev2 cf gl elt).v fr S)) ds [] (wipeF fr tg.slots) S with
      | .ok acc fr' S' => .ok (.own (.lst acc)) (backF fr fr' tg.slots) S'
      | _ => .no
    else .no
  | .share a => .of fun fr S => ((ev2 cf gl a).v fr S).bind fun v fr S => match v with | .own c => .ok (.fz (.ref S.length)) fr (S ++ [c]) | _ => .no
  | .listrg b => .of fun fr S => (frzX ((ev2 cf gl b).v fr S)).bind fun y fr S => match y with
    | .int j => if rgOk 0 j = true ∧ j.toNat ≤ 2 ^ 24 then .ok (.own (.lst (rgD 0 j))) fr S else .no
    | _ => .no
  | .lenset a => .of fun fr S => (frzX ((ev2 cf gl a).v fr S)).bind fun x fr S => RX.lift (lensetD x) fr S
  | .neg a => .of fun fr S => (frzX ((ev2 cf gl a).v fr S)).bind fun x fr S => match x with | .int i => .ok (.fz (.int (-i))) fr S | _ => .no
  | .dic0 t => .of fun fr S => .ok (.own (match t with | true => .dT [] [] | false => .dK [] [])) fr S
  | .sortset a => .of fun fr S => (frzX ((ev2 cf gl a).v fr S)).bind fun x fr S => RX.lift (sortsetD x) fr S
  | .mind a b => .of fun fr S => (frzX ((ev2 cf gl a).v fr S)).bind fun x fr S => (frzX ((ev2 cf gl b).v fr S)).bind fun y fr S => RX.lift ((mindD x y).map Val.fz) fr S
def evs (cf : CF) (gl : Str → Option D) : Xs → Frame → Store → RX (List D)
  | .nil => fun fr S => .ok [] fr S
  | .cons e es => fun fr S => (frzX ((ev2 cf gl e).v fr S)).bind fun x fr S => (evs cf gl es fr S).bind fun xs fr S => .ok (x :: xs) fr S
/-- a comprehension's tests -/
def evC (cf : CF) (gl : Str → Option D) : Xs → Frame → Store → RX Bool
  | .nil => fun fr S => .ok true fr S
  | .cons e es => match es with
    | .nil => (ev2 cf gl e).t
    | .cons _ _ => fun _ _ => .no
def evW (cf : CF) (gl : Str → Option D) : Wk → Frame → Store → RX (List D)
  | .seq e => fun fr S => (frzX ((ev2 cf gl e).v fr S)).bind fun x fr S => match x with | .lst xs => .ok xs fr S | .tup xs => .ok xs fr S | _ => .no
  | .rng1 e => fun fr S => (frzX ((ev2 cf gl e).v fr S)).bind fun x fr S => match x with | .int j => if rgOk 0 j then .ok (rgD 0 j) fr S else .no | _ => .no
  | .rng2 a b => fun fr S => (frzX ((ev2 cf gl a).v fr S)).bind fun x fr S => (frzX ((ev2 cf gl b).v fr S)).bind fun y fr S => match x, y with | .int i, .int j => if rgOk i j then .ok (rgD i j) fr S else .no | _, _ => .no
  | .enm e => fun fr S => (frzX ((ev2 cf gl e).v fr S)).bind fun x fr S => match x with | .lst xs => .ok (enumD xs) fr S | .tup xs => .ok (enumD xs) fr S | _ => .no
  | .zip a b => fun fr S => (frzX ((ev2 cf gl a).v fr S)).bind fun x fr S => (frzX ((ev2 cf gl b).v fr S)).bind fun y fr S => match x, y with
    | .lst xs, .lst ys => .ok (zipD xs ys) fr S | .tup xs, .tup ys => .ok (zipD xs ys) fr S | _, _ => .no
  | .rng3 a b c => fun fr S => (frzX ((ev2 cf gl a).v fr S)).bind fun x fr S => (frzX ((ev2 cf gl b).v fr S)).bind fun y fr S => (frzX ((ev2 cf gl c).v fr S)).bind fun z fr S => match x, y, z with
    | .int i, .int j, .int k => if k = -1 ∧ rgOk i j = true then .ok (rgN i j) fr S else .no | _, _, _ => .no
end
def ev (cf : CF) (gl : Str → Option D) (m : Xp) : Frame → Store → RX Val := (ev2 cf gl m).v
def evT (cf : CF) (gl : Str → Option D) (m : Xp) : Frame → Store → RX Bool := (ev2 cf gl m).t

/-! ### statements -/
inductive RS where
  | nx (fr : Frame) (S : Store) | rt (v : Val) (fr : Frame) (S : Store) | ex (e : Ex) (fr : Frame) (S : Store) | bk (fr : Frame) (S : Store) | ct (fr : Frame) (S : Store) | no
def RX.thn {α : Type} (r : RX α) (k : α → Frame → Store → RS) : RS := match r with
  | .ok a fr S => k a fr S
  | .ex e fr S => .ex e fr S
  | .no => .no
def RS.seq (r : RS) (k : Frame → Store → RS) : RS := match r with
  | .nx fr S => k fr S
  | r => r
mutual
inductive Sm where
  | exp (e : Xp) | set (i : Nat) (e : Xp) | asg (t : Tg) (e : Xp) | ret (e : Xp) | retN | cond (c : Xp) (a b : Sms) | loop (tg : Tg) (it : Wk) (body : Sms)
  | raise (c : Str) | appv (i : Nat) (e : Xp) | extv (i : Nat) (e : Xp) | setv (i : Nat) (ix e : Xp) | setr (a ix e : Xp) | pass
  | par (i j : Nat) (a b : Xp) | setd (i : Nat) (ix e : Xp)
inductive Sms where
  | nil | cons (s : Sm) (ss : Sms)
end
def loopGo (tg : Tg) (body : Frame → Store → RS) : List D → Frame → Store → RS
  | [], fr, S => .nx fr S
  | d :: ds, fr, S => match asg tg d fr with
    | none => .no
    | some fr1 => match body fr1 S with
      | .nx fr2 S2 => loopGo tg body ds fr2 S2
      | .ct fr2 S2 => loopGo tg body ds fr2 S2
      | .bk fr2 S2 => .nx fr2 S2
      | r => r
def appX (i : Nat) (d : D) (fr : Frame) (S : Store) : RS := match fr[i]? with
  | some (some (.own (.lst xs))) => if xs.length < sizeLine then .nx (fr.set i (some (.own (.lst (xs ++ [d]))))) S else .no
  | _ => .no
def extX (i : Nat) (d : D) (fr : Frame) (S : Store) : RS := match fr[i]?, d with
  | some (some (.own (.lst xs))), .lst ys => if xs.length + ys.length ≤ sizeLine then .nx (fr.set i (some (.own (.lst (xs ++ ys))))) S else .no
  | _, _ => .no
def setX (i : Nat) (y d : D) (fr : Frame) (S : Store) : RS := match fr[i]?, y with
  | some (some (.own (.lst xs))), .int k => match ixN xs.length k with
    | some j => .nx (fr.set i (some (.own (.lst (xs.set j d))))) S
    | none => .no
  | _, _ => .no
/-- an own dict stands in the slot -/
def ownT (i : Nat) (fr : Frame) : Bool := match fr[i]? with
  | some (some (.own (.dK _ _))) => true
  | some (some (.own (.dT _ _))) => true
  | _ => false
/-- x[k] = d, x an own dict -/
def setdX (i : Nat) (y d : D) (fr : Frame) (S : Store) : RS := match fr[i]? with
  | some (some (.own (.dK ks vs))) => match toKey y with
    | some k => if ks.length < sizeLine then .nx (fr.set i (some (.own (.dK (putKs ks k) (putVs ks vs k d))))) S else .no
    | none => .no
  | some (some (.own (.dT ks vs))) => match keyT y with
    | some k => if ks.length < sizeLine then .nx (fr.set i (some (.own (.dT (putKs ks k) (putVs ks vs k d))))) S else .no
    | none => .no
  | _ => .no
def setrX (o y d : D) (fr : Frame) (S : Store) : RS := match o, y with
  | .ref n, .int k => match S[n]? with
    | some (.lst xs) => match ixN xs.length k with
      | some j => .nx fr (S.set n (.lst (xs.set j d)))
      | none => .no
    | _ => .no
  | _, _ => .no
/-- what is handed back: a name's own object moves -/
def retX (m : Xp) (f : Frame → Store → RX Val) : Frame → Store → RX Val := match m with
  | .var i => fun fr S => match fr[i]? with
    | some (some (.fz d)) => .ok (.fz d) fr S
    | some (some (.own c)) => .ok (.own c) (fr.set i none) S
    | _ => .no
  | _ => f
mutual
def ex (cf : CF) (gl : Str → Option D) : Sm → Frame → Store → RS
  | .exp e => fun fr S => (frzX (ev cf gl e fr S)).thn fun _ fr S => .nx fr S
  | .set i e => fun fr S => (ev cf gl e fr S).thn fun v fr S => .nx (fr.set i (some v)) S
  | .asg t e => fun fr S => (frzX (ev cf gl e fr S)).thn fun d fr S => match Eng.asg t d fr with | some fr' => .nx fr' S | none => .no
  | .ret e => fun fr S => (retX e (ev cf gl e) fr S).thn fun v fr S => .rt v fr S
  | .retN => fun fr S => .rt (.fz .non) fr S
  | .cond c a b => fun fr S => (evT cf gl c fr S).thn fun t fr S => match t with | true => exs cf gl a fr S | false => exs cf gl b fr S
  | .loop tg it body => fun fr S => (evW cf gl it fr S).thn fun ds fr S => loopGo tg (exs cf gl body) ds fr S
  | .raise c => fun fr S => .ex ⟨c, [], []⟩ fr S
  | .appv i e => fun fr S => if ownL i fr then (frzX (ev cf gl e fr S)).thn fun d fr S => appX i d fr S else .no
  | .extv i e => fun fr S => if ownL i fr then (frzX (ev cf gl e fr S)).thn fun d fr S => extX i d fr S else .no
  | .setv i ix e => fun fr S => (frzX (ev cf gl e fr S)).thn fun d fr S => if ownL i fr then (frzX (ev cf gl ix fr S)).thn fun y fr S => setX i y d fr S else .no
  | .setr a ix e => fun fr S => (frzX (ev cf gl e fr S)).thn fun d fr S => (frzX (ev cf gl a fr S)).thn fun o fr S => (frzX (ev cf gl ix fr S)).thn fun y fr S => setrX o y d fr S
  | .pass => fun fr S => .nx fr S
  | .par i j a b => fun fr S => (ev cf gl a fr S).thn fun v fr S => (ev cf gl b fr S).thn fun w fr S => .nx ((fr.set i (some v)).set j (some w)) S
  | .setd i ix e => fun fr S => (frzX (ev cf gl e fr S)).thn fun d fr S => if ownT i fr then (frzX (ev cf gl ix fr S)).thn fun y fr S => setdX i y d fr S else .no
def exs (cf : CF) (gl : Str → Option D) : Sms → Frame → Store → RS
  | .nil => fun fr S => .nx fr S
  | .cons s ss => fun fr S => (ex cf gl s fr S).seq fun fr S => exs cf gl ss fr S
end

/-! ### defs -/
structure Df where
  name : Str
  ps : Nat
  ns : Nat
  body : Sms
def Df.start (d : Df) (xs : List D) : Frame := xs.map (fun x => some (Val.fz x)) ++ List.replicate (d.ns - xs.length) none
def RS.done : RS → RC
  | .nx _ S => .ok (.fz .non) S
  | .rt v _ S => .ok v S
  | .ex e _ S => .ex e S
  | _ => .no
def runDf (cf : CF) (gl : Str → Option D) (d : Df) (xs : List D) (S : Store) : RC := if xs.length = d.ps then (exs cf gl d.body (d.start xs) S).done else .no
/-- a program's defs, called to a depth -/
def callN (P : Str → Option Df) (gl : Str → Option D) : Nat → CF
  | 0 => fun _ _ _ => .no
  | n + 1 => fun f xs S => match P f with
    | some d => runDf (callN P gl n) gl d xs S
    | none => .no
end Eng
end

section
/-! The engine, part B1: ints in order. -/
namespace Eng
open PySem
theorem insI_perm (k : Int) : ∀ l : List Int, (insI k l).Perm (k :: l)
  | [] => .refl _
  | x :: xs => by
    unfold insI
    split
    · exact .refl _
    · exact ((insI_perm k xs).cons x).trans (.swap k x xs)
theorem srtI_perm : ∀ l : List Int, (srtI l).Perm l
  | [] => .refl _
  | x :: xs => (insI_perm x (srtI xs)).trans ((srtI_perm xs).cons x)
theorem insI_pw (k : Int) : ∀ {l : List Int}, l.Pairwise (· ≤ ·) → (insI k l).Pairwise (· ≤ ·)
  | [], _ => by unfold insI; exact List.pairwise_singleton _ _
  | x :: xs, h => by
    rw [List.pairwise_cons] at h
    unfold insI
    split
    · rename_i hk
      refine List.pairwise_cons.mpr ⟨fun y hy => ?_, List.pairwise_cons.mpr h⟩
      rcases List.mem_cons.mp hy with rfl | hy
      · exact hk
      · have := h.1 y hy; omega
    · rename_i hk
      refine List.pairwise_cons.mpr ⟨fun y hy => ?_, insI_pw k h.2⟩
      rcases List.mem_cons.mp ((insI_perm k xs).mem_iff.mp hy) with rfl | hy
      · omega
      · exact h.1 y hy
theorem srtI_pw : ∀ l : List Int, (srtI l).Pairwise (· ≤ ·)
  | [] => .nil
  | x :: xs => insI_pw x (srtI_pw xs)
/-- two rising lists of the same ints are one -/
theorem pw_eq : ∀ {a b : List Int}, a.Perm b → a.Pairwise (· ≤ ·) → b.Pairwise (· ≤ ·) → a = b
  | [], b, p, _, _ => (List.Perm.nil_eq p)
  | x :: a, [], p, _, _ => absurd p.length_eq (by simp)
  | x :: a, y :: b, p, ha, hb => by
    rw [List.pairwise_cons] at ha hb
    have e : x = y := by
      have h1 : x ∈ y :: b := p.mem_iff.mp List.mem_cons_self
      have h2 : y ∈ x :: a := p.mem_iff.mpr List.mem_cons_self
      rcases List.mem_cons.mp h1 with h1 | h1
      · exact h1
      · rcases List.mem_cons.mp h2 with h2 | h2
        · exact h2.symm
        · have := ha.1 y h2; have := hb.1 x h1; omega
    subst e
    rw [pw_eq (List.Perm.cons_inv p) ha.2 hb.2]
theorem srtI_one {a b : List Int} (p : a.Perm b) (h : a.Pairwise (· ≤ ·)) : a = srtI b := pw_eq (p.trans (srtI_perm b).symm) h (srtI_pw b)
theorem insU_mem (k : Int) : ∀ (l : List Int) (j : Int), j ∈ insU k l ↔ j = k ∨ j ∈ l
  | [], j => by unfold insU; simp
  | x :: xs, j => by
    unfold insU
    split
    · simp
    · split
      · rename_i h; subst h; simp
      · rw [List.mem_cons, insU_mem k xs j, List.mem_cons]
        constructor
        · rintro (h | h | h)
          · exact .inr (.inl h)
          · exact .inl h
          · exact .inr (.inr h)
        · rintro (h | h | h)
          · exact .inr (.inl h)
          · exact .inl h
          · exact .inr (.inr h)
theorem setI_mem : ∀ (l : List Int) (j : Int), j ∈ setI l ↔ j ∈ l
  | [], j => Iff.rfl
  | x :: xs, j => by
    show j ∈ insU x (setI xs) ↔ _
    rw [insU_mem, setI_mem xs, List.mem_cons]
theorem insU_pw (k : Int) : ∀ {l : List Int}, l.Pairwise (· < ·) → (insU k l).Pairwise (· < ·)
  | [], _ => by unfold insU; exact List.pairwise_singleton _ _
  | x :: xs, h => by
    have h0 := h
    rw [List.pairwise_cons] at h
    unfold insU
    split
    · rename_i hk
      refine List.pairwise_cons.mpr ⟨fun y hy => ?_, h0⟩
      rcases List.mem_cons.mp hy with rfl | hy
      · exact hk
      · have := h.1 y hy; omega
    · split
      · exact h0
      · rename_i h1 h2
        refine List.pairwise_cons.mpr ⟨fun y hy => ?_, insU_pw k h.2⟩
        rcases (insU_mem k xs y).mp hy with rfl | hy
        · omega
        · exact h.1 y hy
theorem setI_pw : ∀ l : List Int, (setI l).Pairwise (· < ·)
  | [] => .nil
  | x :: xs => insU_pw x (setI_pw xs)
theorem lt_eq : ∀ {a b : List Int}, a.Pairwise (· < ·) → b.Pairwise (· < ·) → (∀ k, k ∈ a ↔ k ∈ b) → a = b
  | [], [], _, _, _ => rfl
  | [], y :: b, _, _, h => absurd ((h y).mpr List.mem_cons_self) (by simp)
  | x :: a, [], _, _, h => absurd ((h x).mp List.mem_cons_self) (by simp)
  | x :: a, y :: b, ha, hb, h => by
    rw [List.pairwise_cons] at ha hb
    have e : x = y := by
      rcases List.mem_cons.mp ((h x).mp List.mem_cons_self) with h1 | h1
      · exact h1
      · rcases List.mem_cons.mp ((h y).mpr List.mem_cons_self) with h2 | h2
        · exact h2.symm
        · have := ha.1 y h2; have := hb.1 x h1; omega
    subst e
    rw [lt_eq ha.2 hb.2 fun k => ?_]
    have hk := h k
    rw [List.mem_cons, List.mem_cons] at hk
    constructor
    · intro m
      rcases hk.mp (.inr m) with rfl | m'
      · exact absurd (ha.1 k m) (Int.lt_irrefl k)
      · exact m'
    · intro m
      rcases hk.mpr (.inr m) with rfl | m'
      · exact absurd (hb.1 k m) (Int.lt_irrefl k)
      · exact m'
theorem setI_one {a b : List Int} (h : a.Pairwise (· < ·)) (m : ∀ k, k ∈ a ↔ k ∈ b) : a = setI b := lt_eq h (setI_pw b) fun k => by rw [m k, setI_mem]
end Eng
end

section
/-! The engine, part C: steps of the frame, the store and the heap. -/
namespace Eng
open PySem PySem.Spec PyProof.Rows L2
section
variable {K : PySem.W.Frag} {mg : Str → Option Value} {g g' g2 : Gh} {H H' H2 : Hp} {fr fr' : Frame} {S S' : Store} {σ σ' : L2.St} {p a : Addr} {o : HO} {c c' : Cell} {d : D} {x : V} {i n : Nat}

theorem RD.tracked_lst {xs : List D} (h : RD K g H (.lst xs) x) : ∃ a vs, x = .ref a ∧ H a = some (.lst vs) ∧ ¬ g.av a ∧ RDs K g H xs vs := by
  cases h with
  | lst h n r => exact ⟨_, _, rfl, h, n, r⟩
theorem RD.of_tup {xs : List D} (h : RD K g H (.tup xs) x) : ∃ a vs, x = .ref a ∧ SqT K H a vs ∧ RDs K g H xs vs := by
  cases h with
  | tup h r => exact ⟨_, _, rfl, SqT.of h, r⟩
theorem RD.of_tupX {xs : List D} (h : RD K g H (.tup xs) x) : ∃ a vs, x = .ref a ∧ H a = some (.tup vs) ∧ RDs K g H xs vs := by
  cases h with
  | tup h r => exact ⟨_, _, rfl, h, r⟩
theorem RD.of_int {j : Int} (h : RD K g H (.int j) x) : x = .int j := by cases h; rfl
theorem RD.of_bl {j : Bool} (h : RD K g H (.bl j) x) : x = .bl j := by cases h; rfl
theorem RD.of_str {j : Str} (h : RD K g H (.str j) x) : x = .str j := by cases h; rfl
theorem RD.of_non (h : RD K g H .non x) : x = .non := by cases h; rfl
theorem RD.of_ref (h : RD K g H (.ref n) x) : ∃ a, x = .ref a ∧ g.rho[n]? = some a := by
  cases h with
  | ref h => exact ⟨_, rfl, h⟩
theorem RD.of_scr {xs : List D} (h : RD K g H (.scr xs) x) : ∃ a vs, x = .ref a ∧ SqL K H a vs ∧ RDs K g H xs vs := by
  cases h with
  | scr h r =>
    rcases h with ⟨h, _⟩ | h
    · exact ⟨_, _, rfl, .inl h, r⟩
    · exact ⟨_, _, rfl, h _, r⟩
theorem RD.of_dic {ks : List Key} {xs : List D} (h : RD K g H (.dic ks xs) x) : ∃ a vs, x = .ref a ∧ H a = some (.dK (ks.zip vs)) ∧ ks.length = vs.length ∧ ¬ g.av a ∧ RDs K g H xs vs := by
  cases h with
  | dic h l n r => exact ⟨_, _, rfl, h, l, n, r⟩

theorem RD.of_dit {ks : List (List Key)} {xs : List D} (h : RD K g H (.dit ks xs) x) : ∃ a vs, x = .ref a ∧ H a = some (.dT (ks.zip vs)) ∧ ks.length = vs.length ∧ ¬ g.av a ∧ RDs K g H xs vs := by
  cases h with
  | dit h l n r => exact ⟨_, _, rfl, h, l, n, r⟩

theorem StR.fresh (r : StR K mg g S H) (hp : H p = none) : ¬ g.av p := fun z => by
  obtain ⟨o, e⟩ := r.tr p z
  rw [hp] at e; cases e
/-- a new object that nobody else holds -/
abbrev Gh.push (g : Gh) (p : Addr) : Gh := { g with tmp := p :: g.tmp }
theorem mono_push (hp : H p = none) : Mono K g H (g.push p) (upd H p o) := by
  refine ⟨fun a u e n => ⟨by rw [upd_ne (ne_of_none e hp)]; exact e, fun z => ?_⟩, fun a xs e => ?_, fun _ _ z => z⟩
  · rcases z with z | z | z
    · exact n (.inl z)
    · exact n (.inr (.inl z))
    · rcases List.mem_cons.mp z with z | z
      · exact ne_of_none e hp z
      · exact n (.inr (.inr z))
  · rw [upd_ne (ne_of_none e hp)]; exact e
theorem keep_push (hp : H p = none) : Keep g H (g.push p) (upd H p o) := by
  refine ⟨fun a u e n m => ⟨by rw [upd_ne (ne_of_none e hp)]; exact e, n, m⟩, fun a u e n m t => ?_, fun a xs e => ?_, fun _ _ z => z⟩
  · rcases List.mem_cons.mp t with z | z
    · exact absurd z (ne_of_none e hp)
    · exact z
  · rw [upd_ne (ne_of_none e hp)]; exact e
theorem SlotR.mono (m : Mono K g H g' H') (ho : ∀ a, a ∈ g.own → a ∈ g'.own ∧ H' a = H a) {v : Val} (h : SlotR K mg g H x v) : SlotR K mg g' H' x v := by
  cases v with
  | fz d => exact RD.mono m h
  | own c => obtain ⟨a, e, m', r⟩ := h; exact ⟨a, e, (ho a m').1, r.mono m (ho a m').2⟩
theorem Rel.push (r : Rel K mg g fr S σ H) (hp : H p = none) : Rel K mg (g.push p) fr S σ (upd H p o) := by
  have np := r.st.fresh hp
  refine ⟨r.len, fun i v e => ?_, r.apart, ⟨r.st.len, r.st.nd, fun n c a e q => ?_, fun a z => ⟨(r.st.rt a z).1, fun t => ?_⟩, fun a z t => ?_, fun a z => ?_⟩⟩
  · obtain ⟨x, e1, s⟩ := r.slot i v e
    refine ⟨x, e1, s.mono (mono_push hp) fun a z => ⟨z, ?_⟩⟩
    obtain ⟨u, e2⟩ := r.st.tr a (.inr (.inl z))
    rw [upd_ne (ne_of_none e2 hp)]
  · obtain ⟨u, e2⟩ := r.st.tr a (.inl (List.mem_of_getElem? q))
    exact (r.st.cell n c a e q).mono (mono_push hp) (by rw [upd_ne (ne_of_none e2 hp)])
  · rcases List.mem_cons.mp t with t | t
    · exact np (.inl (t ▸ z))
    · exact (r.st.rt a z).2 t
  · rcases List.mem_cons.mp t with t | t
    · exact np (.inr (.inl (t ▸ z)))
    · exact r.st.ot a z t
  · by_cases e : a = p
    · subst e; exact ⟨o, upd_same⟩
    · rw [upd_ne e]
      refine r.st.tr a ?_
      rcases z with z | z | z
      · exact .inl z
      · exact .inr (.inl z)
      · rcases List.mem_cons.mp z with t | t
        · exact absurd t e
        · exact .inr (.inr t)
/-- a tmp is given up -/
theorem Rel.drop {t : List Addr} (r : Rel K mg g fr S σ H) (h : ∀ a, a ∈ t → a ∈ g.tmp) : Rel K mg { g with tmp := t } fr S σ H := by
  have m : Mono K g H { g with tmp := t } H := Mono.less (fun a z => by
    rcases z with z | z | z
    · exact .inl z
    · exact .inr (.inl z)
    · exact .inr (.inr (h a z))) fun _ _ z => z
  refine ⟨r.len, fun i v e => let ⟨x, e1, s⟩ := r.slot i v e; ⟨x, e1, s.mono m fun a z => ⟨z, rfl⟩⟩, r.apart, ⟨r.st.len, r.st.nd, fun n c a e q => (r.st.cell n c a e q).mono m rfl, fun a z => ⟨(r.st.rt a z).1, fun w => (r.st.rt a z).2 (h a w)⟩, fun a z w => r.st.ot a z (h a w), fun a z => r.st.tr a ?_⟩⟩
  rcases z with z | z | z
  · exact .inl z
  · exact .inr (.inl z)
  · exact .inr (.inr (h a z))
theorem mono_drop {t : List Addr} (h : ∀ a, a ∈ t → a ∈ g.tmp) : Mono K g H { g with tmp := t } H := Mono.less (fun a z => by
    rcases z with z | z | z
    · exact .inl z
    · exact .inr (.inl z)
    · exact .inr (.inr (h a z))) fun _ _ z => z
theorem Rel.setFz (r : Rel K mg g fr S σ H) (h : RD K g H d x) : Rel K mg g (fr.set i (some (.fz d))) S (σ.set i (some x)) H := by
  refine ⟨by rw [List.length_set, List.length_set]; exact r.len, fun j v e => ?_, fun j k c c' a ne e1 e2 e3 => ?_, r.st⟩
  · by_cases hj : i = j
    · subst hj
      have hl : i < (fr.set i (some (Val.fz d))).length := (List.getElem?_eq_some_iff.mp e).1
      rw [List.length_set] at hl
      rw [List.getElem?_set_self hl] at e
      cases e
      exact ⟨x, List.getElem?_set_self (by rw [← r.len]; exact hl), h⟩
    · rw [List.getElem?_set_ne hj] at e
      obtain ⟨y, e1, s⟩ := r.slot j v e
      exact ⟨y, by rw [List.getElem?_set_ne hj]; exact e1, s⟩
  · have nj : i ≠ j := fun z => by
      subst z
      have hl : i < (fr.set i (some (Val.fz d))).length := (List.getElem?_eq_some_iff.mp e1).1
      rw [List.length_set] at hl
      rw [List.getElem?_set_self hl] at e1; cases e1
    have nk : i ≠ k := fun z => by
      subst z
      have hl : i < (fr.set i (some (Val.fz d))).length := (List.getElem?_eq_some_iff.mp e2).1
      rw [List.length_set] at hl
      rw [List.getElem?_set_self hl] at e2; cases e2
    rw [List.getElem?_set_ne nj] at e1 e3
    rw [List.getElem?_set_ne nk] at e2
    rw [List.getElem?_set_ne nk]
    exact r.apart j k c c' a ne e1 e2 e3
/-- a slot is forgotten -/
theorem Rel.setNone (r : Rel K mg g fr S σ H) : Rel K mg g (fr.set i none) S σ H := by
  refine ⟨by rw [List.length_set]; exact r.len, fun j v e => ?_, fun j k c c' a ne e1 e2 e3 => ?_, r.st⟩
  · by_cases hj : i = j
    · subst hj
      have hl : i < (fr.set i (none : Option Val)).length := (List.getElem?_eq_some_iff.mp e).1
      rw [List.length_set] at hl
      rw [List.getElem?_set_self hl] at e; cases e
    · rw [List.getElem?_set_ne hj] at e
      exact r.slot j v e
  · have nj : i ≠ j := fun z => by
      subst z
      have hl : i < (fr.set i (none : Option Val)).length := (List.getElem?_eq_some_iff.mp e1).1
      rw [List.length_set] at hl
      rw [List.getElem?_set_self hl] at e1; cases e1
    have nk : i ≠ k := fun z => by
      subst z
      have hl : i < (fr.set i (none : Option Val)).length := (List.getElem?_eq_some_iff.mp e2).1
      rw [List.length_set] at hl
      rw [List.getElem?_set_self hl] at e2; cases e2
    rw [List.getElem?_set_ne nj] at e1
    rw [List.getElem?_set_ne nk] at e2
    exact r.apart j k c c' a ne e1 e2 e3
theorem Rel.setNoneV (r : Rel K mg g fr S σ H) : Rel K mg g (fr.set i none) S (σ.set i none) H := by
  have q := r.setNone (i := i)
  refine ⟨by rw [List.length_set, List.length_set]; exact r.len, fun j v e => ?_, fun j k c c' a ne e1 e2 e3 => ?_, r.st⟩
  · have hj : i ≠ j := fun hj => by
      subst hj
      have hl : i < (fr.set i (none : Option Val)).length := (List.getElem?_eq_some_iff.mp e).1
      rw [List.length_set] at hl
      rw [List.getElem?_set_self hl] at e; cases e
    obtain ⟨y, e1, s⟩ := q.slot j v e
    exact ⟨y, by rw [List.getElem?_set_ne hj]; exact e1, s⟩
  · have nj : i ≠ j := fun z => by
      subst z
      have hl : i < (fr.set i (none : Option Val)).length := (List.getElem?_eq_some_iff.mp e1).1
      rw [List.length_set] at hl
      rw [List.getElem?_set_self hl] at e1; cases e1
    have nk : i ≠ k := fun z => by
      subst z
      have hl : i < (fr.set i (none : Option Val)).length := (List.getElem?_eq_some_iff.mp e2).1
      rw [List.length_set] at hl
      rw [List.getElem?_set_self hl] at e2; cases e2
    rw [List.getElem?_set_ne nj] at e3
    rw [List.getElem?_set_ne nk]
    exact q.apart j k c c' a ne e1 e2 e3
/-- a tmp moves into a slot -/
theorem Rel.setOwn {t : List Addr} (r : Rel K mg g fr S σ H) (ht : g.tmp = a :: t) (na : a ∉ t) (hc : CellR K mg g H a c) :
    Rel K mg ⟨g.rho, a :: g.own, t⟩ (fr.set i (some (.own c))) S (σ.set i (some (.ref a))) H := by
  have m : Mono K g H ⟨g.rho, a :: g.own, t⟩ H := Mono.less (fun b z => by
    rcases z with z | z | z
    · exact .inl z
    · rcases List.mem_cons.mp z with z | z
      · exact .inr (.inr (by rw [ht, z]; exact List.mem_cons_self))
      · exact .inr (.inl z)
    · exact .inr (.inr (by rw [ht]; exact List.mem_cons_of_mem _ z))) fun _ _ z => z
  have nown : a ∉ g.own := fun z => r.st.ot a z (by rw [ht]; exact List.mem_cons_self)
  have nrho : a ∉ g.rho := fun z => (r.st.rt a z).2 (by rw [ht]; exact List.mem_cons_self)
  have own_at : ∀ (j : Nat) c' b, fr[j]? = some (some (.own c')) → σ[j]? = some (some (.ref b)) → b ∈ g.own := fun j c' b e1 e2 => by
    obtain ⟨y, e3, s⟩ := r.slot j _ e1
    obtain ⟨b', e4, hb, _⟩ := s
    rw [e2] at e3; cases e3; cases e4; exact hb
  refine ⟨by rw [List.length_set, List.length_set]; exact r.len, fun j v e => ?_, fun j k c1 c2 b ne e1 e2 e3 => ?_, ⟨r.st.len, r.st.nd, fun n c' b e q => (r.st.cell n c' b e q).mono m rfl, fun b z => ⟨fun w => ?_, fun w => ?_⟩, fun b z w => ?_, fun b z => ?_⟩⟩
  · by_cases hj : i = j
    · subst hj
      have hl : i < (fr.set i (some (Val.own c))).length := (List.getElem?_eq_some_iff.mp e).1
      rw [List.length_set] at hl
      rw [List.getElem?_set_self hl] at e
      cases e
      exact ⟨.ref a, List.getElem?_set_self (by rw [← r.len]; exact hl), a, rfl, List.mem_cons_self, hc.mono m rfl⟩
    · rw [List.getElem?_set_ne hj] at e
      obtain ⟨y, e1, s⟩ := r.slot j v e
      exact ⟨y, by rw [List.getElem?_set_ne hj]; exact e1, s.mono m fun b z => ⟨List.mem_cons_of_mem _ z, rfl⟩⟩
  · by_cases hj : i = j
    · subst hj
      have hl : i < (fr.set i (some (Val.own c))).length := (List.getElem?_eq_some_iff.mp e1).1
      rw [List.length_set] at hl
      rw [List.getElem?_set_self (by rw [← r.len]; exact hl)] at e3
      cases e3
      rw [List.getElem?_set_ne ne] at e2 ⊢
      exact fun z => nown (own_at k c2 a e2 z)
    · rw [List.getElem?_set_ne hj] at e1 e3
      by_cases hk : i = k
      · subst hk
        have hl : i < (fr.set i (some (Val.own c))).length := (List.getElem?_eq_some_iff.mp e2).1
        rw [List.length_set] at hl
        rw [List.getElem?_set_self (by rw [← r.len]; exact hl)]
        intro z
        cases z
        exact nown (own_at j c1 a e1 e3)
      · rw [List.getElem?_set_ne hk] at e2 ⊢
        exact r.apart j k c1 c2 b ne e1 e2 e3
  · rcases List.mem_cons.mp w with w | w
    · exact nrho (w ▸ z)
    · exact (r.st.rt b z).1 w
  · exact (r.st.rt b z).2 (by rw [ht]; exact List.mem_cons_of_mem _ w)
  · rcases List.mem_cons.mp z with z | z
    · exact na (z ▸ w)
    · exact r.st.ot b z (by rw [ht]; exact List.mem_cons_of_mem _ w)
  · refine r.st.tr b ?_
    rcases z with z | z | z
    · exact .inl z
    · rcases List.mem_cons.mp z with z | z
      · exact .inr (.inr (by rw [ht, z]; exact List.mem_cons_self))
      · exact .inr (.inl z)
    · exact .inr (.inr (by rw [ht]; exact List.mem_cons_of_mem _ z))
/-- a slot's own object is frozen -/
theorem Rel.freeze (r : Rel K mg g fr S σ H) (e : fr[i]? = some (some (.own c))) (hc : c.frz = some d) (hs : σ[i]? = some (some x)) :
    ∃ g', Keep g H g' H ∧ Rel K mg g' (fr.set i (some (.fz d))) S σ H ∧ g'.tmp = g.tmp ∧ RD K g' H d x := by
  obtain ⟨y, e1, b, e2, hb, hcell⟩ := r.slot i _ e
  rw [hs] at e1; cases e1; subst e2
  let g' : Gh := ⟨g.rho, g.own.filter fun z => decide (z ≠ b), g.tmp⟩
  have mem' : ∀ z, z ∈ g'.own ↔ z ∈ g.own ∧ z ≠ b := fun z => by
    show z ∈ g.own.filter _ ↔ _
    rw [List.mem_filter, decide_eq_true_iff]
  have m : Mono K g H g' H := Mono.less (fun z w => by
    rcases w with w | w | w
    · exact .inl w
    · exact .inr (.inl ((mem' z).mp w).1)
    · exact .inr (.inr w)) fun _ _ z => z
  have nb : ¬ g'.av b := fun w => by
    rcases w with w | w | w
    · exact (r.st.rt b w).1 hb
    · exact ((mem' b).mp w).2 rfl
    · exact r.st.ot b hb w
  have hd : RD K g' H d (.ref b) := by
    cases c with
    | lst xs => cases hc; obtain ⟨vs, h1, h2⟩ := hcell; exact .lst h1 nb (h2.mono m)
    | dK ks xs => cases hc; obtain ⟨vs, h1, h2, h3⟩ := hcell; exact .dic h1 h2 nb (h3.mono m)
    | dT ks xs => cases hc; obtain ⟨vs, h1, h2, h3⟩ := hcell; exact .dit h1 h2 nb (h3.mono m)
    | ins c ns xs => cases hc
  refine ⟨g', ⟨fun a o h n w => ⟨h, n, fun z => w ((mem' a).mp z).1⟩, fun _ _ _ _ _ z => z, fun _ _ z => z, fun _ _ z => z⟩, ?_, rfl, hd⟩
  have r1 : Rel K mg g' (fr.set i none) S σ H := by
    have q := r.setNone (i := i)
    refine ⟨q.len, fun j v ej => ?_, q.apart, ⟨r.st.len, r.st.nd, fun n c' a' e' q' => (r.st.cell n c' a' e' q').mono m rfl, fun z w => ⟨fun t => (r.st.rt z w).1 ((mem' z).mp t).1, (r.st.rt z w).2⟩, fun z w => r.st.ot z ((mem' z).mp w).1, fun z w => r.st.tr z ?_⟩⟩
    · have hj : i ≠ j := fun hj => by
        subst hj
        have hl : i < (fr.set i (none : Option Val)).length := (List.getElem?_eq_some_iff.mp ej).1
        rw [List.length_set] at hl
        rw [List.getElem?_set_self hl] at ej; cases ej
      rw [List.getElem?_set_ne hj] at ej
      obtain ⟨y, e1, s⟩ := r.slot j v ej
      refine ⟨y, e1, ?_⟩
      cases v with
      | fz d' => exact RD.mono m s
      | own c' =>
        obtain ⟨b', e2, hb', hc'⟩ := s
        refine ⟨b', e2, (mem' b').mpr ⟨hb', fun z => ?_⟩, hc'.mono m rfl⟩
        subst z; subst e2
        exact r.apart i j c c' b' hj e ej hs e1
    · rcases w with w | w | w
      · exact .inl w
      · exact .inr (.inl ((mem' z).mp w).1)
      · exact .inr (.inr w)
  have r2 := r1.setFz (i := i) hd
  have hl : i < fr.length := (List.getElem?_eq_some_iff.mp e).1
  rw [List.set_set] at r2
  have es : σ.set i (some (V.ref b)) = σ := by
    apply List.ext_getElem?
    intro j
    by_cases hj : i = j
    · subst hj
      rw [List.getElem?_set_self (by rw [← r.len]; exact hl), hs]
    · rw [List.getElem?_set_ne hj]
  rw [es] at r2
  exact r2
/-- a slot's own object is changed -/
theorem Rel.mut (r : Rel K mg g fr S σ H) (e : fr[i]? = some (some (.own c))) (hs : σ[i]? = some (some (.ref a))) (hc : ∀ g2 H2, Mono K g H g2 H2 → H2 a = some o → CellR K mg g2 H2 a c') :
    Keep g H g (upd H a o) ∧ Rel K mg g (fr.set i (some (.own c'))) S σ (upd H a o) := by
  obtain ⟨y, e1, b, e2, hb, hcell⟩ := r.slot i _ e
  rw [hs] at e1; cases e1; cases e2
  obtain ⟨o0, ho0, mu⟩ := hcell.some_of
  have tups : ∀ z xs, H z = some (.tup xs) → upd H a o z = some (.tup xs) := fun z xs h => by
    have nz : z ≠ a := fun w => by
      subst w
      rw [ho0] at h; cases h; exact mu
    rw [upd_ne nz]; exact h
  have m : Mono K g H g (upd H a o) := ⟨fun z u h n => ⟨by rw [upd_ne (fun (w : z = a) => n (.inr (.inl (w ▸ hb))))]; exact h, n⟩, tups, fun _ _ z => z⟩
  have hl : i < fr.length := (List.getElem?_eq_some_iff.mp e).1
  refine ⟨⟨fun z u h n w => ⟨by rw [upd_ne (fun (q : z = a) => w (q ▸ hb))]; exact h, n, w⟩, fun _ _ _ _ _ z => z, tups, fun _ _ z => z⟩, ?_⟩
  refine ⟨by rw [List.length_set]; exact r.len, fun j v ej => ?_, fun j k c1 c2 b' ne f1 f2 f3 => ?_, ⟨r.st.len, r.st.nd, fun n c1 b' e' q' => (r.st.cell n c1 b' e' q').mono m ?_, r.st.rt, r.st.ot, fun z w => ?_⟩⟩
  · by_cases hj : i = j
    · subst hj
      rw [List.getElem?_set_self hl] at ej
      cases ej
      exact ⟨.ref a, hs, a, rfl, hb, hc g _ m upd_same⟩
    · rw [List.getElem?_set_ne hj] at ej
      obtain ⟨y, f1, s⟩ := r.slot j v ej
      refine ⟨y, f1, ?_⟩
      cases v with
      | fz d' => exact RD.mono m s
      | own c1 =>
        obtain ⟨b', e2, hb', hc'⟩ := s
        refine ⟨b', e2, hb', hc'.mono m ?_⟩
        rw [upd_ne]
        intro z; subst z; subst e2
        exact r.apart i j c c1 b' hj e ej hs f1
  · by_cases hj : i = j
    · subst hj
      rw [List.getElem?_set_ne ne] at f2
      exact r.apart i k c c2 b' ne e f2 f3
    · rw [List.getElem?_set_ne hj] at f1
      by_cases hk : i = k
      · subst hk
        exact r.apart j i c1 c b' ne f1 e f3
      · rw [List.getElem?_set_ne hk] at f2
        exact r.apart j k c1 c2 b' ne f1 f2 f3
  · rw [upd_ne]
    intro z
    exact (r.st.rt b' (List.mem_of_getElem? q')).1 (z ▸ hb)
  · by_cases hz : z = a
    · subst hz; exact ⟨o, upd_same⟩
    · rw [upd_ne hz]; exact r.st.tr z w
/-- an object of the store is changed -/
theorem Rel.mutS (r : Rel K mg g fr S σ H) (e : S[n]? = some c) (hs : g.rho[n]? = some a) (hc : ∀ g2 H2, Mono K g H g2 H2 → H2 a = some o → CellR K mg g2 H2 a c') :
    Keep g H g (upd H a o) ∧ Rel K mg g fr (S.set n c') σ (upd H a o) := by
  have hcell := r.st.cell n c a e hs
  obtain ⟨o0, ho0, mu⟩ := hcell.some_of
  have hb : a ∈ g.rho := List.mem_of_getElem? hs
  have tups : ∀ z xs, H z = some (.tup xs) → upd H a o z = some (.tup xs) := fun z xs h => by
    have nz : z ≠ a := fun w => by
      subst w
      rw [ho0] at h; cases h; exact mu
    rw [upd_ne nz]; exact h
  have m : Mono K g H g (upd H a o) := ⟨fun z u h n => ⟨by rw [upd_ne (fun (w : z = a) => n (.inl (w ▸ hb)))]; exact h, n⟩, tups, fun _ _ z => z⟩
  have hl : n < S.length := (List.getElem?_eq_some_iff.mp e).1
  refine ⟨⟨fun z u h n w => ⟨by rw [upd_ne (fun (q : z = a) => n (q ▸ hb))]; exact h, n, w⟩, fun _ _ _ _ _ z => z, tups, fun _ _ z => z⟩, ?_⟩
  refine ⟨r.len, fun j v ej => ?_, r.apart, ⟨by rw [List.length_set]; exact r.st.len, r.st.nd, fun k c1 b' e' q' => ?_, r.st.rt, r.st.ot, fun z w => ?_⟩⟩
  · obtain ⟨y, f1, s⟩ := r.slot j v ej
    refine ⟨y, f1, s.mono m fun z w => ⟨w, ?_⟩⟩
    rw [upd_ne]
    intro q; subst q
    exact (r.st.rt z hb).1 w
  · by_cases hk : n = k
    · subst hk
      rw [List.getElem?_set_self hl] at e'
      cases e'
      rw [hs] at q'; cases q'
      exact hc g _ m upd_same
    · rw [List.getElem?_set_ne hk] at e'
      refine (r.st.cell k c1 b' e' q').mono m ?_
      rw [upd_ne]
      intro z; subst z
      obtain ⟨h1, e1⟩ := List.getElem?_eq_some_iff.mp hs
      obtain ⟨h2, e2⟩ := List.getElem?_eq_some_iff.mp q'
      exact hk ((List.getElem_inj r.st.nd).mp (e1.trans e2.symm))
  · by_cases hz : z = a
    · subst hz; exact ⟨o, upd_same⟩
    · rw [upd_ne hz]; exact r.st.tr z w
/-- a tmp goes into the store -/
theorem Rel.share {t : List Addr} (r : Rel K mg g fr S σ H) (ht : g.tmp = a :: t) (na : a ∉ t) (hc : CellR K mg g H a c) :
    Rel K mg ⟨g.rho ++ [a], g.own, t⟩ fr (S ++ [c]) σ H := by
  have nrho : a ∉ g.rho := fun z => (r.st.rt a z).2 (by rw [ht]; exact List.mem_cons_self)
  have nown : a ∉ g.own := fun z => r.st.ot a z (by rw [ht]; exact List.mem_cons_self)
  have av : ∀ b, Gh.av ⟨g.rho ++ [a], g.own, t⟩ b → g.av b := fun b z => by
    rcases z with z | z | z
    · rcases List.mem_append.mp z with z | z
      · exact .inl z
      · exact .inr (.inr (by rw [ht, List.mem_singleton.mp z]; exact List.mem_cons_self))
    · exact .inr (.inl z)
    · exact .inr (.inr (by rw [ht]; exact List.mem_cons_of_mem _ z))
  have m : Mono K g H ⟨g.rho ++ [a], g.own, t⟩ H := Mono.less av fun k b z => by
    show (g.rho ++ [a])[k]? = some b
    rw [List.getElem?_append_left (List.getElem?_eq_some_iff.mp z).1]
    exact z
  refine ⟨r.len, fun j v e => let ⟨y, e1, s⟩ := r.slot j v e; ⟨y, e1, s.mono m fun b z => ⟨z, rfl⟩⟩, r.apart, ⟨by show (g.rho ++ [a]).length = _; rw [List.length_append, List.length_append, r.st.len]; rfl, ?_, fun k c1 b e q => ?_, fun b z => ?_, fun b z w => r.st.ot b z (by rw [ht]; exact List.mem_cons_of_mem _ w), fun b z => r.st.tr b (av b z)⟩⟩
  · show (g.rho ++ [a]).Nodup
    rw [List.nodup_append]
    refine ⟨r.st.nd, by simp, fun x hx y hy => ?_⟩
    rw [List.mem_singleton.mp hy]
    exact fun z => nrho (z ▸ hx)
  · have q' : (g.rho ++ [a])[k]? = some b := q
    by_cases hk : k < S.length
    · rw [List.getElem?_append_left hk] at e
      rw [List.getElem?_append_left (by rw [r.st.len]; exact hk)] at q'
      exact (r.st.cell k c1 b e q').mono m rfl
    · have hk' : k = S.length := by
        have h1 := (List.getElem?_eq_some_iff.mp e).1
        rw [List.length_append, List.length_singleton] at h1
        omega
      subst hk'
      rw [List.getElem?_append_right (Nat.le_refl _)] at e
      simp at e
      subst e
      rw [List.getElem?_append_right (by rw [r.st.len]; exact Nat.le_refl _), r.st.len] at q'
      simp at q'
      subst q'
      exact hc.mono m rfl
  · have z' : b ∈ g.rho ++ [a] := z
    rcases List.mem_append.mp z' with w | w
    · exact ⟨(r.st.rt b w).1, fun q => (r.st.rt b w).2 (by rw [ht]; exact List.mem_cons_of_mem _ q)⟩
    · rw [List.mem_singleton.mp w]
      exact ⟨nown, na⟩
theorem keep_share {t : List Addr} (ht : g.tmp = a :: t) (na : a ∉ t) : ∀ {H0 : Hp} {g0 : Gh}, g0.tmp = t → Keep g0 H0 g H → Keep g0 H0 ⟨g.rho ++ [a], g.own, t⟩ H := fun {H0 g0} e k =>
  ⟨fun b o h h1 h2 => by
    obtain ⟨q1, q2, q3⟩ := k.keep b o h h1 h2
    refine ⟨q1, fun z => ?_, q3⟩
    rcases List.mem_append.mp z with z | z
    · exact q2 z
    · rw [List.mem_singleton.mp z] at h h1 h2
      have := k.tmp a o h h1 h2 (by rw [ht]; exact List.mem_cons_self)
      rw [e] at this
      exact na this, fun b o h h1 h2 z => by rw [e]; exact z, k.tups, fun m b z => by
    show (g.rho ++ [a])[m]? = some b
    have z' := k.pre m b z
    rw [List.getElem?_append_left (List.getElem?_eq_some_iff.mp z').1]
    exact z'⟩
/-- a tmp's object is changed -/
theorem Rel.mutT (r : Rel K mg g fr S σ H) (ht : a ∈ g.tmp) {vs : List V} (h0 : H a = some (.lst vs)) : Mono K g H g (upd H a o) ∧ Rel K mg g fr S σ (upd H a o) := by
  have tups : ∀ z xs, H z = some (.tup xs) → upd H a o z = some (.tup xs) := fun z xs h => by
    have nz : z ≠ a := fun w => by
      subst w
      rw [h0] at h; cases h
    rw [upd_ne nz]; exact h
  have m : Mono K g H g (upd H a o) := ⟨fun z u h n => ⟨by rw [upd_ne (fun (w : z = a) => n (.inr (.inr (w ▸ ht))))]; exact h, n⟩, tups, fun _ _ z => z⟩
  refine ⟨m, r.len, fun j v ej => ?_, r.apart, ⟨r.st.len, r.st.nd, fun n c1 b' e' q' => (r.st.cell n c1 b' e' q').mono m ?_, r.st.rt, r.st.ot, fun z w => ?_⟩⟩
  · obtain ⟨y, f1, s⟩ := r.slot j v ej
    refine ⟨y, f1, s.mono m fun z w => ⟨w, ?_⟩⟩
    rw [upd_ne]
    intro q; subst q
    exact r.st.ot z w ht
  · rw [upd_ne]
    intro z
    exact (r.st.rt b' (List.mem_of_getElem? q')).2 (z ▸ ht)
  · by_cases hz : z = a
    · subst hz; exact ⟨o, upd_same⟩
    · rw [upd_ne hz]; exact r.st.tr z w
end
end Eng
end

section
/-! The engine, part D: readings by results; operators by values. -/
namespace Eng
open PySem PySem.Spec PyProof.Rows L2

/-! ### exceptions, ends -/
def XR (K : PySem.W.Frag) (mg : Str → Option Value) (g : Gh) (H : Hp) (e : Ex) (cls : Value) (d : Option Addr) : Prop :=
  mg e.c = some cls ∧ ∃ vs, RDs K g H e.vs vs ∧ e.ns.length = vs.length ∧ match e.ns with
    | [] => d = none
    | _ => ∃ a, d = some a ∧ H a = some (.xd (e.ns.zip vs))

/-- what is wanted behind a result -/
def Aft {α β : Type} (K : PySem.W.Frag) (mg : Str → Option Value) (W : WX) (R : List Addr → Gh → Hp → α → β → Prop) (g : Gh) (H : Hp) (σ : L2.St) (r : RX α) (Q : β → Hp → Prop) : Prop := match r with
  | .ok a fr' S' => ∀ g' H' b, Keep g H g' H' → Rel K mg g' fr' S' σ H' → R g.tmp g' H' a b → Q b H'
  | .ex e fr' S' => ∀ g' H' c d, Keep g H g' H' → Rel K mg g' fr' S' σ H' → g'.tmp = g.tmp → XR K mg g' H' e c d → W c d σ H'
  | .no => False
def rD (K : PySem.W.Frag) : List Addr → Gh → Hp → D → V → Prop := fun t g H d x => g.tmp = t ∧ RD K g H d x
def rDs (K : PySem.W.Frag) : List Addr → Gh → Hp → List D → List V → Prop := fun t g H d x => g.tmp = t ∧ RDs K g H d x
def rId {α : Type} : List Addr → Gh → Hp → α → α → Prop := fun t g _ a b => g.tmp = t ∧ a = b
def rV (K : PySem.W.Frag) (mg : Str → Option Value) : List Addr → Gh → Hp → Val → V → Prop := fun t g H v x => match v with
  | .fz d => g.tmp = t ∧ RD K g H d x
  | .own c => ∃ a, x = .ref a ∧ g.tmp = a :: t ∧ a ∉ t ∧ CellR K mg g H a c
/-- a reading -/
def tX {α β : Type} (K : PySem.W.Frag) (mg : Str → Option Value) (W : WX) (R : List Addr → Gh → Hp → α → β → Prop) (f : Frame → Store → RX α) : L2.St → Hp → (β → Hp → Prop) → Prop := fun σ H Q =>
  ∃ g fr S, Rel K mg g fr S σ H ∧ Aft K mg W R g H σ (f fr S) Q

section
variable {K : PySem.W.Frag} {mg : Str → Option Value} {W : WX} {g g1 : Gh} {H H1 : Hp} {σ : L2.St} {α β γ δ : Type} {R : List Addr → Gh → Hp → α → β → Prop} {R2 : List Addr → Gh → Hp → γ → δ → Prop}
theorem Aft.imp {r : RX α} {Q Q' : β → Hp → Prop} (h : Aft K mg W R g H σ r Q) (i : ∀ b H', Q b H' → Q' b H') : Aft K mg W R g H σ r Q' := by
  cases r with
  | ok a fr S => exact fun g' H' b k e q => i b H' (h g' H' b k e q)
  | ex e fr S => exact h
  | no => exact h
theorem Aft.shift {r : RX α} {Q : β → Hp → Prop} (k : Keep g H g1 H1) (t : g1.tmp = g.tmp) (h : Aft K mg W R g H σ r Q) : Aft K mg W R g1 H1 σ r Q := by
  cases r with
  | ok a fr S => exact fun g' H' b k' e q => h g' H' b (k.trans k') e (by rw [← t]; exact q)
  | ex e fr S => exact fun g' H' c d k' e t' q => h g' H' c d (k.trans k') e (t'.trans t) q
  | no => exact h
/-- one result behind another one -/
theorem Aft.bind {r : RX α} {k : α → Frame → Store → RX γ} {Q : δ → Hp → Prop} (hR : ∀ t g H a b, R t g H a b → g.tmp = t) (h : Aft K mg W R2 g H σ (r.bind k) Q) :
    Aft K mg W R g H σ r (fun b H1 => ∃ a fr1 S1 g1, Keep g H g1 H1 ∧ Rel K mg g1 fr1 S1 σ H1 ∧ R g1.tmp g1 H1 a b ∧ g1.tmp = g.tmp ∧ Aft K mg W R2 g1 H1 σ (k a fr1 S1) Q) := by
  cases r with
  | ok a fr S => exact fun g' H' b k' e q => ⟨a, fr, S, g', k', e, by rw [hR _ _ _ _ _ q]; exact q, hR _ _ _ _ _ q, Aft.shift k' (hR _ _ _ _ _ q) h⟩
  | ex e fr S => exact h
  | no => exact h
theorem rD_tmp : ∀ t g H a b, rD K t g H a b → g.tmp = t := fun _ _ _ _ _ h => h.1
theorem rDs_tmp : ∀ t g H a b, rDs K t g H a b → g.tmp = t := fun _ _ _ _ _ h => h.1
theorem rId_tmp : ∀ t g H (a b : α), rId t g H a b → g.tmp = t := fun _ _ _ _ _ h => h.1
/-- a value that is known at once -/
theorem Aft.now {a : α} {b : β} {fr : Frame} {S : Store} {Q : β → Hp → Prop} (h : Aft K mg W R g H σ (.ok a fr S) Q) (k : Keep g H g1 H1) (e : Rel K mg g1 fr S σ H1) (q : R g.tmp g1 H1 a b) : Q b H1 := h g1 H1 b k e q
/-- a result is frozen: from a wish of the frozen one to a wish of the result -/
theorem Aft.frz {r : RX Val} {Q : V → Hp → Prop} (h : Aft K mg W (rD K) g H σ (frzX r) Q) : Aft K mg W (rV K mg) g H σ r Q := by
  cases r with
  | ok v fr S =>
    intro g' H' x k e q
    cases v with
    | fz d => exact h g' H' x k e q
    | own c =>
      obtain ⟨a, rfl, ht, na, hc⟩ := q
      have sub : ∀ z, z ∈ g.tmp → z ∈ g'.tmp := fun z hz => by rw [ht]; exact List.mem_cons_of_mem _ hz
      have e' := e.drop (t := g.tmp) sub
      have m : Mono K g' H' { g' with tmp := g.tmp } H' := mono_drop sub
      have k' : Keep g H { g' with tmp := g.tmp } H' := ⟨fun z o h1 h2 h3 => k.keep z o h1 h2 h3, fun _ _ _ _ _ z => z, k.tups, k.pre⟩
      have ha : a ∈ g'.tmp := by rw [ht]; exact List.mem_cons_self
      have nv : ¬ Gh.av { g' with tmp := g.tmp } a := fun z => by
        rcases z with z | z | z
        · exact (e.st.rt a z).2 ha
        · exact e.st.ot a z ha
        · exact na z
      have h' : Aft K mg W (rD K) g H σ (RX.lift c.frz fr S) Q := h
      cases c with
      | lst xs => obtain ⟨vs, h1, h2⟩ := hc; exact h' _ H' _ k' e' ⟨rfl, .lst h1 nv (h2.mono m)⟩
      | dK ks xs => obtain ⟨vs, h1, h2, h3⟩ := hc; exact h' _ H' _ k' e' ⟨rfl, .dic h1 h2 nv (h3.mono m)⟩
      | dT ks xs => obtain ⟨vs, h1, h2, h3⟩ := hc; exact h' _ H' _ k' e' ⟨rfl, .dit h1 h2 nv (h3.mono m)⟩
      | ins c ns xs => exact h'.elim
  | ex e fr S => exact h
  | no => exact h
end

/-! ### what a value is, seen through the store -/
section
variable {K : PySem.W.Frag} {mg : Str → Option Value} {g : Gh} {H : Hp} {S : Store} {d : D} {x : V}
theorem look_ref {n : Nat} {e : D} (h : look S (.ref n) = e) : (∃ xs, S[n]? = some (.lst xs) ∧ e = .lst xs) ∨ (∃ ks xs, S[n]? = some (.dK ks xs) ∧ e = .dic ks xs) ∨ (∃ ks xs, S[n]? = some (.dT ks xs) ∧ e = .dit ks xs) ∨ e = .ref n := by
  have h' : lookC n S[n]? = e := h
  cases q : S[n]? with
  | none => rw [q] at h'; exact .inr (.inr (.inr h'.symm))
  | some c =>
    rw [q] at h'
    cases c with
    | lst xs => exact .inl ⟨xs, rfl, h'.symm⟩
    | dK ks xs => exact .inr (.inl ⟨ks, xs, rfl, h'.symm⟩)
    | dT ks xs => exact .inr (.inr (.inl ⟨ks, xs, rfl, h'.symm⟩))
    | ins c ns xs => exact .inr (.inr (.inr h'.symm))
theorem look_lst {xs : List D} (st : StR K mg g S H) (r : RD K g H d x) (e : look S d = .lst xs) : ∃ a vs, x = .ref a ∧ H a = some (.lst vs) ∧ RDs K g H xs vs := by
  cases d with
  | lst ys => cases e; obtain ⟨a, vs, h1, h2, _, h3⟩ := r.tracked_lst; exact ⟨a, vs, h1, h2, h3⟩
  | ref n =>
    obtain ⟨a, rfl, h⟩ := r.of_ref
    rcases look_ref e with ⟨ys, q, z⟩ | ⟨ks, ys, q, z⟩ | ⟨ks, ys, q, z⟩ | z
    · cases z
      obtain ⟨vs, h1, h2⟩ := st.cell n _ a q h
      exact ⟨a, vs, rfl, h1, h2⟩
    · cases z
    · cases z
    · cases z
  | _ => cases e
theorem look_dic {ks : List Key} {xs : List D} (st : StR K mg g S H) (r : RD K g H d x) (e : look S d = .dic ks xs) : ∃ a vs, x = .ref a ∧ H a = some (.dK (ks.zip vs)) ∧ ks.length = vs.length ∧ RDs K g H xs vs := by
  cases d with
  | dic ks ys => cases e; obtain ⟨a, vs, h1, h2, h3, _, h4⟩ := r.of_dic; exact ⟨a, vs, h1, h2, h3, h4⟩
  | ref n =>
    obtain ⟨a, rfl, h⟩ := r.of_ref
    rcases look_ref e with ⟨ys, q, z⟩ | ⟨ks', ys, q, z⟩ | ⟨ks', ys, q, z⟩ | z
    · cases z
    · cases z
      obtain ⟨vs, h1, h2, h3⟩ := st.cell n _ a q h
      exact ⟨a, vs, rfl, h1, h2, h3⟩
    · cases z
    · cases z
  | _ => cases e
theorem look_dit {ks : List (List Key)} {xs : List D} (st : StR K mg g S H) (r : RD K g H d x) (e : look S d = .dit ks xs) : ∃ a vs, x = .ref a ∧ H a = some (.dT (ks.zip vs)) ∧ ks.length = vs.length ∧ RDs K g H xs vs := by
  cases d with
  | dit ks ys => cases e; obtain ⟨a, vs, h1, h2, h3, _, h4⟩ := r.of_dit; exact ⟨a, vs, h1, h2, h3, h4⟩
  | ref n =>
    obtain ⟨a, rfl, h⟩ := r.of_ref
    rcases look_ref e with ⟨ys, q, z⟩ | ⟨ks', ys, q, z⟩ | ⟨ks', ys, q, z⟩ | z
    · cases z
    · cases z
    · cases z
      obtain ⟨vs, h1, h2, h3⟩ := st.cell n _ a q h
      exact ⟨a, vs, rfl, h1, h2, h3⟩
    · cases z
  | _ => cases e
/-- neither a list nor a dict -/
def D.atom : D → Bool
  | .lst _ | .dic _ _ | .dit _ _ => false
  | _ => true
theorem look_same {e : D} (h : look S d = e) (n : e.atom = true) : d = e := by
  cases d with
  | ref k =>
    rcases look_ref h with ⟨ys, q, z⟩ | ⟨ks', ys, q, z⟩ | ⟨ks', ys, q, z⟩ | z
    · subst z; cases n
    · subst z; cases n
    · subst z; cases n
    · exact z.symm
  | _ => exact h

/-- data as seen: the value at hand, whatever holds it (a frozen one, the store's, a slot's own) -/
def Vw (K : PySem.W.Frag) (g : Gh) (H : Hp) (x : V) : D → Prop
  | .lst xs => ∃ a vs, x = .ref a ∧ H a = some (.lst vs) ∧ RDs K g H xs vs
  | .dic ks xs => ∃ a vs, x = .ref a ∧ H a = some (.dK (ks.zip vs)) ∧ ks.length = vs.length ∧ RDs K g H xs vs
  | .dit ks xs => ∃ a vs, x = .ref a ∧ H a = some (.dT (ks.zip vs)) ∧ ks.length = vs.length ∧ RDs K g H xs vs
  | d => RD K g H d x
theorem vw_look (st : StR K mg g S H) (r : RD K g H d x) : Vw K g H x (look S d) := by
  cases e : look S d with
  | lst xs => exact look_lst st r e
  | dic ks xs => exact look_dic st r e
  | dit ks xs => exact look_dit st r e
  | tup xs => rw [look_same e rfl] at r; exact r
  | int i => rw [look_same e rfl] at r; exact r
  | bl i => rw [look_same e rfl] at r; exact r
  | str i => rw [look_same e rfl] at r; exact r
  | non => rw [look_same e rfl] at r; exact r
  | scr xs => rw [look_same e rfl] at r; exact r
  | ref n => rw [look_same e rfl] at r; exact r
theorem vw_cell {a : Addr} {c : Cell} (h : CellR K mg g H a c) (e : c.frz = some d) : Vw K g H (.ref a) d := by
  cases c with
  | lst xs => cases e; obtain ⟨vs, h1, h2⟩ := h; exact ⟨a, vs, rfl, h1, h2⟩
  | dK ks xs => cases e; obtain ⟨vs, h1, h2, h3⟩ := h; exact ⟨a, vs, rfl, h1, h2, h3⟩
  | dT ks xs => cases e; obtain ⟨vs, h1, h2, h3⟩ := h; exact ⟨a, vs, rfl, h1, h2, h3⟩
  | ins c ns xs => cases e
end

/-! ### data -/
mutual
theorem toP_plain : ∀ d : D, d.pl = true → d.toP.plain = true
  | .non, _ | .bl _, _ | .int _, _ | .str _, _ => rfl
  | .lst xs, h => toPs_plain xs h
  | .tup xs, h => toPs_plain xs h
  | .dic _ _, h => nomatch h
  | .dit _ _, h => nomatch h
  | .ref _, h => nomatch h
  | .scr _, h => nomatch h
theorem toPs_plain : ∀ ds : List D, D.pls ds = true → PyData.plainAll (D.toPs ds) = true
  | [], _ => rfl
  | x :: xs, h => by
    have h' : (D.pl x && D.pls xs) = true := h
    rw [Bool.and_eq_true] at h'
    show (PyData.plain (D.toP x) && PyData.plainAll (D.toPs xs)) = true
    rw [toP_plain x h'.1, toPs_plain xs h'.2]; rfl
end
mutual
theorem toP_dep : ∀ d : D, d.pl = true → d.toP.depth = d.dep
  | .non, _ | .bl _, _ | .int _, _ | .str _, _ => rfl
  | .lst xs, h => by show PyData.depthAll (D.toPs xs) + 1 = D.deps xs + 1; rw [toPs_dep xs h]
  | .tup xs, h => by show PyData.depthAll (D.toPs xs) + 1 = D.deps xs + 1; rw [toPs_dep xs h]
  | .dic _ _, h => nomatch h
  | .dit _ _, h => nomatch h
  | .ref _, h => nomatch h
  | .scr _, h => nomatch h
theorem toPs_dep : ∀ ds : List D, D.pls ds = true → PyData.depthAll (D.toPs ds) = D.deps ds
  | [], _ => rfl
  | x :: xs, h => by
    have h' : (D.pl x && D.pls xs) = true := h
    rw [Bool.and_eq_true] at h'
    show max (PyData.depth (D.toP x)) (PyData.depthAll (D.toPs xs)) = max (D.dep x) (D.deps xs)
    rw [toP_dep x h'.1, toPs_dep xs h'.2]
end
mutual
theorem toP_eqv : ∀ a b : D, a.pl = true → b.pl = true → PyData.eqv a.toP b.toP = D.eqv a b
  | .non, b, _, h => by cases b <;> first | rfl | cases h
  | .bl _, b, _, h => by cases b <;> first | rfl | cases h
  | .int _, b, _, h => by cases b <;> first | rfl | cases h
  | .str _, b, _, h => by cases b <;> first | rfl | cases h
  | .lst xs, b, g, h => by
    cases b with
    | lst ys => exact toPs_eqv xs ys g h
    | _ => first | rfl | cases h
  | .tup xs, b, g, h => by
    cases b with
    | tup ys => exact toPs_eqv xs ys g h
    | _ => first | rfl | cases h
  | .dic _ _, _, h, _ => nomatch h
  | .dit _ _, _, h, _ => nomatch h
  | .ref _, _, h, _ => nomatch h
  | .scr _, _, h, _ => nomatch h
theorem toPs_eqv : ∀ a b : List D, D.pls a = true → D.pls b = true → PyData.eqvAll (D.toPs a) (D.toPs b) = D.eqvs a b
  | [], b, _, _ => by cases b <;> rfl
  | x :: xs, [], _, _ => rfl
  | x :: xs, y :: ys, g, h => by
    have g' : (D.pl x && D.pls xs) = true := g
    have h' : (D.pl y && D.pls ys) = true := h
    rw [Bool.and_eq_true] at g' h'
    show (PyData.eqv (D.toP x) (D.toP y) && PyData.eqvAll (D.toPs xs) (D.toPs ys)) = (D.eqv x y && D.eqvs xs ys)
    rw [toP_eqv x y g'.1 h'.1, toPs_eqv xs ys g'.2 h'.2]
end
section
variable {K : PySem.W.Frag} {g : Gh} {H : Hp}
mutual
theorem RD.dp : ∀ (d : D) (x : V), RD K g H d x → d.pl = true → Dp K H x d.toP
  | .non, _, .non, _ => .non
  | .bl _, _, .bl _, _ => .bl _
  | .int _, _, .int _, _ => .int _
  | .str _, _, .str _, _ => .str _
  | .lst xs, _, .lst h _ r, p => .lst (SqL.of h) (RDs.dp xs _ r p)
  | .tup xs, _, .tup h r, p => .tup (SqT.of h) (RDs.dp xs _ r p)
  | .dic _ _, _, _, p => nomatch p
  | .dit _ _, _, _, p => nomatch p
  | .ref _, _, _, p => nomatch p
  | .scr _, _, _, p => nomatch p
theorem RDs.dp : ∀ (ds : List D) (xs : List V), RDs K g H ds xs → D.pls ds = true → DpAll K H xs (D.toPs ds)
  | [], _, .nil, _ => .nil
  | x :: xs, _, .cons h t, p => by
    have p' : (D.pl x && D.pls xs) = true := p
    rw [Bool.and_eq_true] at p'
    exact .cons (RD.dp x _ h p'.1) (RDs.dp xs _ t p'.2)
end
theorem Vw.dp {d : D} {x : V} (h : Vw K g H x d) (p : d.pl = true) : Dp K H x d.toP := by
  cases d with
  | lst xs => obtain ⟨a, vs, rfl, h1, h2⟩ := h; exact .lst (SqL.of h1) (RDs.dp xs vs h2 p)
  | dic ks xs => cases p
  | dit ks xs => cases p
  | tup xs => exact RD.dp _ _ h p
  | non => exact RD.dp _ _ h p
  | bl b => exact RD.dp _ _ h p
  | int b => exact RD.dp _ _ h p
  | str b => exact RD.dp _ _ h p
  | ref n => cases p
  | scr xs => cases p
end
end Eng
end

section
/-! The engine, part E: operators, comparisons, subscripts, built-ins, by values. -/
namespace Eng
open PySem PySem.Spec PyProof.Rows L2

section
variable {X : Cx} {W : WX} {g : Gh} {fr : Frame} {S : Store} {H : Hp} {σ σ' : L2.St} {Q : VK}
/-- a frozen value that stands already -/
theorem fin_old {d : D} {x : V} (h : Aft X.K X.mg W (rV X.K X.mg) g H σ (.ok (.fz d) fr S) Q) (rel : Rel X.K X.mg g fr S σ H) (r : RD X.K g H d x) : Q x H := h g H x Keep.refl rel ⟨rfl, r⟩
theorem fin_tup {xs : List D} {vs : List V} {p : Addr} (h : Aft X.K X.mg W (rV X.K X.mg) g H σ (.ok (.fz (.tup xs)) fr S) Q) (rel : Rel X.K X.mg g fr S σ H) (r : RDs X.K g H xs vs) (hp : H p = none) : Q (.ref p) (upd H p (.tup vs)) :=
  h g _ _ (Grows.fresh hp).keep (rel.grows (Grows.fresh hp)) ⟨rfl, .tup upd_same (r.mono (Grows.fresh hp).mono)⟩
theorem fin_lst {xs : List D} {vs : List V} {p : Addr} (h : Aft X.K X.mg W (rV X.K X.mg) g H σ (.ok (.own (.lst xs)) fr S) Q) (rel : Rel X.K X.mg g fr S σ H) (r : RDs X.K g H xs vs) (hp : H p = none) : Q (.ref p) (upd H p (.lst vs)) :=
  h (g.push p) _ _ (keep_push hp) (rel.push hp) ⟨p, rfl, rfl, fun z => rel.st.fresh hp (.inr (.inr z)), vs, upd_same, r.mono (mono_push hp)⟩
end

def BK.op : BK → Operator
  | .add => .Add | .sub => .Sub | .mul => .Mult | .fdiv => .FloorDiv | .mod => .Mod | .pow => .Pow
def CK.op : CK → CmpOp
  | .eq => .Eq | .ne => .NotEq | .lt => .Lt | .le => .LtE | .gt => .Gt | .ge => .GtE | .inn => .In | .nin => .NotIn | .isN => .Is | .isnN => .IsNot

def rBin (X : Cx) (W : WX) (k : BK) : R2 := fun x y H Q => ∃ g fr S σ a b, Rel X.K X.mg g fr S σ H ∧ Vw X.K g H x a ∧ Vw X.K g H y b ∧ Aft X.K X.mg W (rV X.K X.mg) g H σ (RX.lift (binD k a b) fr S) Q
def rCmp (X : Cx) (W : WX) (k : CK) : R2 := fun x y H Q => ∃ g fr S σ a b, Rel X.K X.mg g fr S σ H ∧ Vw X.K g H x a ∧ Vw X.K g H y b ∧
  Aft X.K X.mg W (rV X.K X.mg) g H σ (RX.lift ((cmpD k a b).map fun r => Val.fz (.bl r)) fr S) Q

section
variable {X : Cx} {W : WX}
theorem op_bin (k : BK) : OpR X (binaryOp k.op) (rBin X W k) := by
  intro pins s σ H x y v u Q I rx ry ⟨g, fr, S, σ', a, b, rel, va, vb, h⟩
  cases k with
  | add =>
    cases a <;> cases b <;> first | exact False.elim h | skip
    · obtain rfl := RD.of_int va; obtain rfl := RD.of_int vb
      exact op_add pins s σ H _ _ v u Q I rx ry ⟨_, _, rfl, rfl, fin_old h rel (.int _)⟩
    · obtain rfl := RD.of_str va; obtain rfl := RD.of_str vb
      rename_i i j
      have h' : Aft X.K X.mg W (rV X.K X.mg) g H σ' (RX.lift (if i.length + j.length ≤ sizeLine then some (Val.fz (.str (i ++ j))) else none) fr S) Q := h
      by_cases hc : i.length + j.length ≤ sizeLine
      · rw [if_pos hc] at h'
        exact op_add_str pins s σ H _ _ v u Q I rx ry ⟨_, _, rfl, rfl, hc, fin_old h' rel (.str _)⟩
      · rw [if_neg hc] at h'; exact False.elim h'
    · rename_i xs ys
      obtain ⟨a1, vs, rfl, h1, h2⟩ := va
      obtain ⟨b1, ws, rfl, h3, h4⟩ := vb
      have h' : Aft X.K X.mg W (rV X.K X.mg) g H σ' (RX.lift (if xs.length + ys.length ≤ sizeLine then some (Val.own (.lst (xs ++ ys))) else none) fr S) Q := h
      by_cases hc : xs.length + ys.length ≤ sizeLine
      · rw [if_pos hc] at h'
        exact op_cat pins s σ H _ _ v u Q I rx ry ⟨_, _, _, _, rfl, rfl, h1, h3, by rw [← h2.length, ← h4.length]; exact hc, fun p hp => fin_lst h' rel (h2.append h4) hp⟩
      · rw [if_neg hc] at h'; exact False.elim h'
    · rename_i xs ys
      obtain ⟨a1, vs, rfl, h1, h2⟩ := RD.of_tupX va
      obtain ⟨b1, ws, rfl, h3, h4⟩ := RD.of_tupX vb
      have h' : Aft X.K X.mg W (rV X.K X.mg) g H σ' (RX.lift (if xs.length + ys.length ≤ sizeLine then some (Val.fz (.tup (xs ++ ys))) else none) fr S) Q := h
      by_cases hc : xs.length + ys.length ≤ sizeLine
      · rw [if_pos hc] at h'
        refine op_catA pins s σ H _ _ v u Q I rx ry ⟨_, _, _, _, rfl, rfl, SqT.of h1, SqT.of h3, by rw [← h2.length, ← h4.length]; exact hc, fun e => ?_, fun _ e => ?_, fun _ _ p hp => fin_tup h' rel (h2.append h4) hp⟩
        · subst e
          cases h2
          exact fin_old h' rel (.tup h3 h4)
        · subst e
          cases h4
          rw [List.append_nil] at h'
          exact fin_old h' rel (.tup h1 h2)
      · rw [if_neg hc] at h'; exact False.elim h'
  | sub =>
    cases a <;> cases b <;> first | exact False.elim h | skip
    obtain rfl := RD.of_int va; obtain rfl := RD.of_int vb
    exact op_sub pins s σ H _ _ v u Q I rx ry ⟨_, _, rfl, rfl, fin_old h rel (.int _)⟩
  | mul =>
    cases a <;> cases b <;> first | exact False.elim h | skip
    · obtain rfl := RD.of_int va; obtain rfl := RD.of_int vb
      rename_i i j
      have h' : Aft X.K X.mg W (rV X.K X.mg) g H σ' (RX.lift (if (-(2 ^ 64) < i ∧ i < 2 ^ 64) ∨ (-(2 ^ 64) < j ∧ j < 2 ^ 64) then some (Val.fz (.int (i * j))) else none) fr S) Q := h
      by_cases hc : (-(2 ^ 64) < i ∧ i < 2 ^ 64) ∨ (-(2 ^ 64) < j ∧ j < 2 ^ 64)
      · rw [if_pos hc] at h'
        exact op_mul pins s σ H _ _ v u Q I rx ry ⟨_, _, rfl, rfl, hc, fin_old h' rel (.int _)⟩
      · rw [if_neg hc] at h'; exact False.elim h'
    · rename_i xs k
      obtain ⟨a1, vs, rfl, h1, h2⟩ := va
      obtain rfl := RD.of_int vb
      have h' : Aft X.K X.mg W (rV X.K X.mg) g H σ' (RX.lift (if -(2 ^ 63) ≤ k ∧ k < 2 ^ 63 ∧ xs.length * k.toNat ≤ sizeLine then some (Val.own (.lst (List.replicate k.toNat xs).flatten)) else none) fr S) Q := h
      by_cases hc : -(2 ^ 63) ≤ k ∧ k < 2 ^ 63 ∧ xs.length * k.toNat ≤ sizeLine
      · rw [if_pos hc] at h'
        have rep : ∀ n : Nat, RDs X.K g H (List.replicate n xs).flatten (List.replicate n vs).flatten := fun n => by
          induction n with
          | zero => exact .nil
          | succ n ih => rw [List.replicate_succ, List.replicate_succ, List.flatten_cons, List.flatten_cons]; exact h2.append ih
        exact op_rep pins s σ H _ _ v u Q I rx ry ⟨_, _, _, rfl, rfl, h1, hc.1, hc.2.1, by rw [← h2.length]; exact hc.2.2, fun p hp => fin_lst h' rel (rep _) hp⟩
      · rw [if_neg hc] at h'; exact False.elim h'
  | fdiv =>
    cases a <;> cases b <;> first | exact False.elim h | skip
    obtain rfl := RD.of_int va; obtain rfl := RD.of_int vb
    rename_i i j
    have h' : Aft X.K X.mg W (rV X.K X.mg) g H σ' (RX.lift (if 0 < j ∧ j < 1073741824 then some (Val.fz (.int (i / j))) else none) fr S) Q := h
    by_cases hc : 0 < j ∧ j < 1073741824
    · rw [if_pos hc] at h'
      exact op_fdiv pins s σ H _ _ v u Q I rx ry ⟨_, _, rfl, rfl, hc, fin_old h' rel (.int _)⟩
    · rw [if_neg hc] at h'; exact False.elim h'
  | mod =>
    cases a <;> cases b <;> first | exact False.elim h | skip
    obtain rfl := RD.of_int va; obtain rfl := RD.of_int vb
    rename_i i j
    have h' : Aft X.K X.mg W (rV X.K X.mg) g H σ' (RX.lift (if 0 < j then some (Val.fz (.int (i % j))) else none) fr S) Q := h
    by_cases hc : 0 < j
    · rw [if_pos hc] at h'
      exact op_mod pins s σ H _ _ v u Q I rx ry ⟨_, _, rfl, rfl, hc, fin_old h' rel (.int _)⟩
    · rw [if_neg hc] at h'; exact False.elim h'
  | pow =>
    cases a <;> cases b <;> first | exact False.elim h | skip
    obtain rfl := RD.of_int va; obtain rfl := RD.of_int vb
    rename_i i j
    have h' : Aft X.K X.mg W (rV X.K X.mg) g H σ' (RX.lift (if 0 ≤ j ∧ j ≤ 1000000 ∧ i.natAbs < 2 ^ 64 then some (Val.fz (.int (i ^ j.toNat))) else none) fr S) Q := h
    by_cases hc : 0 ≤ j ∧ j ≤ 1000000 ∧ i.natAbs < 2 ^ 64
    · rw [if_pos hc] at h'
      exact op_pow pins s σ H _ _ v u Q I rx ry ⟨_, _, rfl, rfl, hc, fin_old h' rel (.int _)⟩
    · rw [if_neg hc] at h'; exact False.elim h'

/-! ### comparisons -/
theorem any_toPs {d : D} (hd : d.pl = true) : ∀ xs : List D, D.pls xs = true → ((D.toPs xs).any fun y => PyData.eqv y d.toP) = xs.any fun y => D.eqv y d
  | [], _ => rfl
  | x :: xs, h => by
    have h' : (D.pl x && D.pls xs) = true := h
    rw [Bool.and_eq_true] at h'
    show (PyData.eqv x.toP d.toP || (D.toPs xs).any _) = (D.eqv x d || xs.any _)
    rw [toP_eqv x d h'.1 hd, any_toPs hd xs h'.2]
theorem kV_int {i : Int} : kV (.inl i) = .int i := rfl
section
variable {K : PySem.W.Frag} {g : Gh} {H : Hp}
theorem toKey_rel {d : D} {x : V} {k : Key} (r : RD K g H d x) (e : toKey d = some k) : x = kV k := by
  cases d <;> first | cases e | skip
  · exact RD.of_int r
  · exact RD.of_str r
theorem toKeys_rel : ∀ {ds : List D} {vs : List V} {ks : List Key}, RDs K g H ds vs → toKeys ds = some ks → vs = ks.map kV
  | _, _, _, .nil, e => by cases e; rfl
  | d :: ds, v :: vs, ks, .cons h t, e => by
    have e' : ((toKey d).bind fun k => (toKeys ds).map (k :: ·)) = some ks := e
    cases q : toKey d with
    | none => rw [q] at e'; cases e'
    | some k =>
      rw [q] at e'
      cases q2 : toKeys ds with
      | none => rw [q2] at e'; cases e'
      | some js =>
        rw [q2] at e'
        cases e'
        rw [toKey_rel h q, toKeys_rel t q2]; rfl
theorem keyT_rel {d : D} {x : V} {ks : List Key} (r : RD K g H d x) (e : keyT d = some ks) : ∃ b, x = .ref b ∧ H b = some (.tup (ks.map kV)) := by
  cases d <;> first | cases e | skip
  obtain ⟨b, vs, rfl, h1, h2⟩ := RD.of_tupX r
  rw [toKeys_rel h2 e] at h1
  exact ⟨b, rfl, h1⟩
theorem toKey_atom {d : D} {k : Key} (e : toKey d = some k) : d.atom = true := by cases d <;> first | rfl | cases e
theorem keyT_atom {d : D} {k : List Key} (e : keyT d = some k) : d.atom = true := by cases d <;> first | rfl | cases e
theorem Vw.rd {d : D} {x : V} (h : Vw K g H x d) (e : d.atom = true) : RD K g H d x := by cases d <;> first | exact h | cases e
variable {κ : Type} [DecidableEq κ]
theorem findK_rel {k : κ} : ∀ {ks : List κ} {ds : List D} {vs : List V}, RDs K g H ds vs → (∀ d, findK ks ds k = some d → ∃ v, valV (ks.zip vs) k = some v ∧ RD K g H d v) ∧ (findK ks ds k = none → valV (ks.zip vs) k = none)
  | [], _, _, _ => ⟨(fun _ e => nomatch e), (fun _ => by rw [List.zip_nil_left]; rfl)⟩
  | _ :: _, _, _, .nil => ⟨(fun _ e => nomatch e), (fun _ => by rw [List.zip_nil_right]; rfl)⟩
  | j :: ks, d :: ds, v :: vs, .cons h t => by
    have ih := findK_rel (k := k) (ks := ks) t
    rw [List.zip_cons_cons]
    by_cases e : j = k
    · rw [valV_pos (p := (j, v)) e]
      refine ⟨fun d' q => ⟨v, rfl, ?_⟩, fun q => ?_⟩
      · have q' : (if j = k then some d else findK ks ds k) = some d' := q
        rw [if_pos e] at q'; cases q'; exact h
      · have q' : (if j = k then some d else findK ks ds k) = none := q
        rw [if_pos e] at q'; cases q'
    · rw [valV_neg (p := (j, v)) e]
      have q : findK (j :: ks) (d :: ds) k = findK ks ds k := if_neg e
      rw [q]; exact ih
theorem findK_some {k : κ} {ks : List κ} {ds : List D} {vs : List V} (r : RDs K g H ds vs) : (valV (ks.zip vs) k).isSome = (findK ks ds k).isSome := by
  cases e : findK ks ds k with
  | none => rw [(findK_rel r).2 e]; rfl
  | some d =>
    obtain ⟨v, h, _⟩ := (findK_rel r).1 d e
    rw [h]; rfl
/-- what a dict that is seen holds -/
def optR (K : PySem.W.Frag) (g : Gh) (H : Hp) : Option D → Option V → Prop
  | none, none => True
  | some d, some v => RD K g H d v
  | _, _ => False
theorem findK_opt {k : κ} {ks : List κ} {ds : List D} {vs : List V} (rd : RDs K g H ds vs) : optR K g H (findK ks ds k) (valV (ks.zip vs) k) := by
  cases e : findK ks ds k with
  | none => rw [(findK_rel rd).2 e]; trivial
  | some d =>
    obtain ⟨v, h, q⟩ := (findK_rel rd).1 d e
    rw [h]; exact q
theorem dget_rel {a d : D} {x y : V} {r : Option D} (va : Vw K g H x a) (vb : Vw K g H y d) (e : dgetD a d = some r) : ∃ p o, x = .ref p ∧ DGet H p y o ∧ optR K g H r o := by
  cases a with
  | dic ks xs =>
    obtain ⟨p, vs, rfl, h1, h2, h3⟩ := va
    have e' : ((toKey d).map fun k => findK ks xs k) = some r := e
    cases q : toKey d with
    | none => rw [q] at e'; cases e'
    | some k =>
      rw [q] at e'
      obtain rfl := toKey_rel (vb.rd (toKey_atom q)) q
      refine ⟨p, _, rfl, DGet.k h1, ?_⟩
      rw [← Option.some.inj e']
      exact findK_opt h3
  | dit ks xs =>
    obtain ⟨p, vs, rfl, h1, h2, h3⟩ := va
    have e' : ((keyT d).map fun k => findK ks xs k) = some r := e
    cases q : keyT d with
    | none => rw [q] at e'; cases e'
    | some k =>
      rw [q] at e'
      obtain ⟨b, rfl, hb⟩ := keyT_rel (vb.rd (keyT_atom q)) q
      refine ⟨p, _, rfl, DGet.t h1 hb, ?_⟩
      rw [← Option.some.inj e']
      exact findK_opt h3
  | _ => cases e
end
theorem Vw.none_iff {K : PySem.W.Frag} {g : Gh} {H : Hp} {x : V} {d : D} (h : Vw K g H x d) : decide (x = .non) = d.isNon := by
  cases d with
  | non => obtain rfl := RD.of_non h; rfl
  | bl b => obtain rfl := RD.of_bl h; rfl
  | int b => obtain rfl := RD.of_int h; rfl
  | str b => obtain rfl := RD.of_str h; rfl
  | lst xs => obtain ⟨a, vs, rfl, _⟩ := h; rfl
  | dic ks xs => obtain ⟨a, vs, rfl, _⟩ := h; rfl
  | dit ks xs => obtain ⟨a, vs, rfl, _⟩ := h; rfl
  | tup xs => obtain ⟨a, vs, rfl, _⟩ := RD.of_tup h; rfl
  | ref n => obtain ⟨a, rfl, _⟩ := RD.of_ref h; rfl
  | scr xs => obtain ⟨a, vs, rfl, _⟩ := RD.of_scr h; rfl
theorem op_cmp (hu : X.A.units + 66 < cLine) (k : CK) : OpR X (compareOp k.op) (rCmp X W k) := by
  intro pins s σ H x y v u Q I rx ry ⟨g, fr, S, σ', a, b, rel, va, vb, h⟩
  have fin : ∀ r, cmpD k a b = some r → Q (.bl r) H := fun r e => by
    rw [e] at h
    exact fin_old h rel (.bl r)
  have some_of : ∃ r, cmpD k a b = some r := by
    cases e : cmpD k a b with
    | none => rw [e] at h; exact False.elim h
    | some r => exact ⟨r, rfl⟩
  obtain ⟨r, er⟩ := some_of
  have q := fin r er
  have data : D.fit a b = true → ∃ as bs, Reads s.heap v a.toP as ∧ Reads s.heap u b.toP bs ∧ a.toP.plain = true ∧ b.toP.plain = true ∧ X.A.units + min a.toP.depth b.toP.depth < cLine ∧ PyData.eqv a.toP b.toP = D.eqv a b := fun e => by
    unfold D.fit at e
    rw [Bool.and_eq_true, Bool.and_eq_true, decide_eq_true_iff] at e
    obtain ⟨⟨e1, e2⟩, e3⟩ := e
    obtain ⟨as, ra⟩ := Dp.reads I _ _ _ (va.dp e1) rx
    obtain ⟨bs, rb⟩ := Dp.reads I _ _ _ (vb.dp e2) ry
    exact ⟨as, bs, ra, rb, toP_plain a e1, toP_plain b e2, by rw [toP_dep a e1, toP_dep b e2]; omega, toP_eqv a b e1 e2⟩
  have ord : ∀ p q, ordD p q a b = some r → (∃ i j, x = .int i ∧ y = .int j ∧ r = p i j) ∨ (r = q a b ∧ ∃ as bs, Reads s.heap v a.toP as ∧ Reads s.heap u b.toP bs ∧ PySem.W.alike a.toP b.toP = true ∧ a.toP ≠ .none ∧ X.A.units + min a.toP.depth b.toP.depth < cLine) := fun p q e => by
    have main : (if D.ordOk a b then some (q a b) else none) = some r → (∃ i j, x = .int i ∧ y = .int j ∧ r = p i j) ∨ (r = q a b ∧ ∃ as bs, Reads s.heap v a.toP as ∧ Reads s.heap u b.toP bs ∧ PySem.W.alike a.toP b.toP = true ∧ a.toP ≠ .none ∧ X.A.units + min a.toP.depth b.toP.depth < cLine) := fun e => by
      by_cases hf : D.ordOk a b = true
      · rw [if_pos hf] at e
        unfold D.ordOk at hf
        rw [Bool.and_eq_true, Bool.and_eq_true, Bool.and_eq_true, Bool.and_eq_true, decide_eq_true_iff] at hf
        obtain ⟨⟨⟨⟨e1, e2⟩, e3⟩, e4⟩, e5⟩ := hf
        obtain ⟨as, ra⟩ := Dp.reads I _ _ _ (va.dp e1) rx
        obtain ⟨bs, rb⟩ := Dp.reads I _ _ _ (vb.dp e2) ry
        refine .inr ⟨(Option.some.inj e).symm, as, bs, ra, rb, e3, ?_, by rw [toP_dep a e1, toP_dep b e2]; omega⟩
        cases a <;> first | (cases e4; done) | (cases e1; done) | (intro z; cases z)
      · rw [if_neg hf] at e; cases e
    cases a with
    | int i =>
      cases b with
      | int j =>
        obtain rfl := RD.of_int va; obtain rfl := RD.of_int vb
        exact .inl ⟨i, j, rfl, rfl, (Option.some.inj e).symm⟩
      | _ => exact main e
    | _ => exact main e
  have inn : ∀ r, inD a b = some r → ∀ (neg : Bool), Q (.bl (if neg then !r else r)) H → wpAny (model X.prog X.w) X.A (compareOp (if neg then .NotIn else .In) v u) (EP X pins σ Q) X.xe s := fun r e neg hq => by
    have main : ∀ (xs : List D) (c : D), (c = .lst xs ∨ c = .tup xs) → b = c → (if a.pl && D.pls xs && decide (min (D.deps xs) a.dep ≤ 64) then some (xs.any fun y => D.eqv y a) else none) = some r →
        wpAny (model X.prog X.w) X.A (compareOp (if neg then .NotIn else .In) v u) (EP X pins σ Q) X.xe s := fun xs c hc hb e => by
      by_cases ht : (a.pl && D.pls xs && decide (min (D.deps xs) a.dep ≤ 64)) = true
      · rw [if_pos ht] at e
        rw [Bool.and_eq_true, Bool.and_eq_true, decide_eq_true_iff] at ht
        obtain ⟨⟨e1, e2⟩, e3⟩ := ht
        cases e
        obtain ⟨as, ra⟩ := Dp.reads I _ _ _ (va.dp e1) rx
        have pb : b.pl = true := by rw [hb]; rcases hc with rfl | rfl <;> exact e2
        obtain ⟨bs, rb⟩ := Dp.reads I _ _ _ (vb.dp pb) ry
        have hu' : X.A.units + 1 + min (PyData.depthAll (D.toPs xs)) a.toP.depth < cLine := by rw [toP_dep a e1, toPs_dep xs e2]; omega
        rw [← any_toPs e1 xs e2] at hq
        have hq : EP X pins σ Q (.bool (if neg then !((D.toPs xs).any fun y => PyData.eqv y a.toP) else ((D.toPs xs).any fun y => PyData.eqv y a.toP))) s := ⟨.bl _, H, I, rfl, hq⟩
        rcases hc with rfl | rfl
        · subst hb
          cases neg
          · exact SeqAt.in_list_data rb ra (toPs_plain xs e2) (toP_plain a e1) hu' hq
          · exact SeqAt.notIn_list_data rb ra (toPs_plain xs e2) (toP_plain a e1) hu' hq
        · subst hb
          cases neg
          · exact SeqAt.in_tuple_data rb ra (toPs_plain xs e2) (toP_plain a e1) hu' hq
          · exact SeqAt.notIn_tuple_data rb ra (toPs_plain xs e2) (toP_plain a e1) hu' hq
      · rw [if_neg ht] at e; cases e
    have dict : ∀ p o, y = .ref p → DGet H p x o → o.isSome = r → wpAny (model X.prog X.w) X.A (compareOp (if neg then .NotIn else .In) v u) (EP X pins σ Q) X.xe s := fun p o ey g eo => by
      subst ey
      obtain rfl : u = Value.ref p := ry
      rw [← eo] at hq
      cases neg
      · exact d_in (by omega) I g rx fun s3 I3 => ⟨.bl _, H, I3, rfl, hq⟩
      · exact d_notIn (by omega) I g rx fun s3 I3 => ⟨.bl _, H, I3, rfl, hq⟩
    cases b with
    | lst xs => exact main xs _ (.inl rfl) rfl e
    | tup xs => exact main xs _ (.inr rfl) rfl e
    | dic ks xs =>
      have e' : ((toKey a).map fun k => (findK ks xs k).isSome) = some r := e
      cases q : toKey a with
      | none => rw [q] at e'; cases e'
      | some k =>
        rw [q] at e'
        obtain ⟨p, vs, rfl, h1, h2, h3⟩ := vb
        obtain rfl := toKey_rel (va.rd (toKey_atom q)) q
        exact dict p _ rfl (DGet.k h1) ((findK_some h3).trans (Option.some.inj e'))
    | dit ks xs =>
      have e' : ((keyT a).map fun k => (findK ks xs k).isSome) = some r := e
      cases q : keyT a with
      | none => rw [q] at e'; cases e'
      | some k =>
        rw [q] at e'
        obtain ⟨p, vs, rfl, h1, h2, h3⟩ := vb
        obtain ⟨b1, rfl, hb⟩ := keyT_rel (va.rd (keyT_atom q)) q
        exact dict p _ rfl (DGet.t h1 hb) ((findK_some h3).trans (Option.some.inj e'))
    | str z =>
      cases a with
      | str x1 =>
        obtain rfl := RD.of_str va; obtain rfl := RD.of_str vb
        have e' : (match x1.cps.toList with | [c] => some (decide (c ∈ z.cps.toList)) | _ => none) = some r := e
        cases q : x1.cps.toList with
        | nil => rw [q] at e'; cases e'
        | cons c l =>
          cases l with
          | cons _ _ => rw [q] at e'; cases e'
          | nil =>
            rw [q] at e'
            cases e'
            have ex : x1 = ⟨#[c]⟩ := by
              cases x1 with
              | mk arr => congr 1; exact Array.toList_inj.mp q
            cases neg
            · exact op_in_sign pins s σ H _ _ v u Q I rx ry ⟨c, z, by rw [ex], rfl, hq⟩
            · exact op_notIn_sign pins s σ H _ _ v u Q I rx ry ⟨c, z, by rw [ex], rfl, hq⟩
      | _ => cases e
    | _ => cases e
  cases k with
  | eq =>
    have e : (if D.fit a b then some (D.eqv a b) else none) = some r := er
    by_cases hf : D.fit a b = true
    · rw [if_pos hf] at e
      cases e
      obtain ⟨as, bs, ra, rb, pa, pb, hd, he⟩ := data hf
      rw [← he] at q
      exact SeqAt.eq_plain ra rb pa pb hd ⟨.bl _, H, I, rfl, q⟩
    · rw [if_neg hf] at e; cases e
  | ne =>
    have e : (if D.fit a b then some (!D.eqv a b) else none) = some r := er
    by_cases hf : D.fit a b = true
    · rw [if_pos hf] at e
      cases e
      obtain ⟨as, bs, ra, rb, pa, pb, hd, he⟩ := data hf
      rw [← he] at q
      exact SeqAt.ne_plain ra rb pa pb hd ⟨.bl _, H, I, rfl, q⟩
    · rw [if_neg hf] at e; cases e
  | lt =>
    rcases ord _ _ er with ⟨i, j, rfl, rfl, rfl⟩ | ⟨rfl, as, bs, ra, rb, al, nn, hd⟩
    · exact op_lt pins s σ H _ _ v u Q I rx ry ⟨_, _, rfl, rfl, q⟩
    · exact PySem.W.lt_data ra rb al nn hd ⟨.bl _, H, I, rfl, q⟩
  | le =>
    rcases ord _ _ er with ⟨i, j, rfl, rfl, rfl⟩ | ⟨rfl, as, bs, ra, rb, al, nn, hd⟩
    · exact op_le pins s σ H _ _ v u Q I rx ry ⟨_, _, rfl, rfl, q⟩
    · exact PySem.W.le_data ra rb al nn hd ⟨.bl _, H, I, rfl, q⟩
  | gt =>
    rcases ord _ _ er with ⟨i, j, rfl, rfl, rfl⟩ | ⟨rfl, as, bs, ra, rb, al, nn, hd⟩
    · exact op_gt pins s σ H _ _ v u Q I rx ry ⟨_, _, rfl, rfl, q⟩
    · exact PySem.W.gt_data ra rb al nn hd ⟨.bl _, H, I, rfl, q⟩
  | ge =>
    rcases ord _ _ er with ⟨i, j, rfl, rfl, rfl⟩ | ⟨rfl, as, bs, ra, rb, al, nn, hd⟩
    · exact op_ge pins s σ H _ _ v u Q I rx ry ⟨_, _, rfl, rfl, q⟩
    · exact PySem.W.ge_data ra rb al nn hd ⟨.bl _, H, I, rfl, q⟩
  | inn => exact inn r er false q
  | nin =>
    have e : (inD a b).map (!·) = some r := er
    cases ei : inD a b with
    | none => rw [ei] at e; cases e
    | some t =>
      rw [ei] at e
      cases e
      exact inn t ei true q
  | isN =>
    have hb : b = .non := by
      cases b <;> first | rfl | cases er
    subst hb
    obtain rfl := RD.of_non vb
    have hr : a.isNon = r := Option.some.inj er
    refine op_isN pins s σ H _ _ v u Q I rx ry ⟨rfl, ?_⟩
    rw [va.none_iff, hr]; exact q
  | isnN =>
    have hb : b = .non := by
      cases b <;> first | rfl | cases er
    subst hb
    obtain rfl := RD.of_non vb
    have hr : (!a.isNon) = r := Option.some.inj er
    refine op_notN pins s σ H _ _ v u Q I rx ry ⟨rfl, ?_⟩
    rw [va.none_iff, hr]; exact q
end
end Eng
end

section
/-! The engine, part F: subscripts, slices, truth, built-ins, isinstance, by values. -/
namespace Eng
open PySem PySem.Spec PyProof.Rows L2
section
variable {X : Cx} {W : WX}

theorem atI_rel {K : PySem.W.Frag} {g : Gh} {H : Hp} {ds : List D} {vs : List V} {i : Int} {d : D} (r : RDs K g H ds vs) (e : atI ds i = some d) : ∃ v, atI vs i = some v ∧ RD K g H d v := by
  unfold atI at e ⊢
  rw [← r.length]
  cases h : ixN ds.length i with
  | none => rw [h] at e; cases e
  | some j =>
    rw [h] at e
    exact r.get e
/-- d[k], d a dict -/
def rIxD : R2 := fun x y H Q => ∃ a v, x = .ref a ∧ DGet H a y (some v) ∧ Q v H
theorem ix_dict (hu : X.A.units + 66 < cLine) : IxR X rIxD := by
  intro ve sl pn s σ H x y v u Q I rx ry ⟨a, z, ex, dg, q⟩ hs
  subst ex
  obtain rfl : v = Value.ref a := rx
  have ty := dict_typeIs I dg
  unfold subscriptTail
  refine wpAny_bind ?_
  rw [getitemInPython_of_ne ty.not_modules]
  refine wpAny_bind (wpAny_specialOf ty PySem.F.slot_dict_getitem.lookup ?_)
  have last : wpAny (model X.prog X.w) X.A (subscripted sl false (.ref a) u) (fun r s3 => wpAny (model X.prog X.w) X.A (letTemporaryGo ve (.ref a) r >>= fun _ => pure r) (EP X pn σ Q) X.xe s3) X.xe s := by
    rw [hs]
    exact wpAny_operating (d_getItem (by omega) I dg ry fun u2 s2 J ru => wpAny_bind (wpAny_letTemporaryGo (wpAny_pure ⟨z, H, J, ru, q⟩)))
  first
    | exact wpAny_pure (wpAny_bind last)
    | exact wpAny_bind (wpAny_pure (wpAny_bind last))
    | exact wpAny_bind last
def rSub (X : Cx) (W : WX) : R2 := fun x y H Q => ∃ g fr S σ a b, Rel X.K X.mg g fr S σ H ∧ Vw X.K g H x a ∧ RD X.K g H b y ∧ Aft X.K X.mg W (rV X.K X.mg) g H σ (RX.lift ((subD a b).map Val.fz) fr S) Q
theorem ix_sub (hu : X.A.units + 66 < cLine) : IxR X (rSub X W) := by
  intro value slice pins s σ H x y v u Q I rx ry ⟨g, fr, S, σ', a, b, rel, va, vb, h⟩ hs
  have some_of : ∃ r, subD a b = some r := by
    cases e : subD a b with
    | none => rw [e] at h; exact False.elim h
    | some r => exact ⟨r, rfl⟩
  obtain ⟨r, er⟩ := some_of
  rw [er] at h
  cases a with
  | lst xs =>
    cases b with
    | int i =>
      obtain ⟨p, vs, rfl, h1, h2⟩ := va
      obtain rfl := RD.of_int vb
      obtain ⟨z, e1, e2⟩ := atI_rel h2 er
      exact ix_list value slice pins s σ H _ _ v u Q I rx ry ⟨_, _, _, _, rfl, rfl, SqL.of h1, e1, fin_old h rel e2⟩ hs
    | _ => cases er
  | tup xs =>
    cases b with
    | int i =>
      obtain ⟨p, vs, rfl, h1, h2⟩ := RD.of_tup va
      obtain rfl := RD.of_int vb
      obtain ⟨z, e1, e2⟩ := atI_rel h2 er
      exact ix_tup value slice pins s σ H _ _ v u Q I rx ry ⟨_, _, _, _, rfl, rfl, h1, e1, fin_old h rel e2⟩ hs
    | _ => cases er
  | scr xs =>
    cases b with
    | int i =>
      obtain ⟨p, vs, rfl, h1, h2⟩ := RD.of_scr va
      obtain rfl := RD.of_int vb
      obtain ⟨z, e1, e2⟩ := atI_rel h2 er
      exact ix_list value slice pins s σ H _ _ v u Q I rx ry ⟨_, _, _, _, rfl, rfl, h1, e1, fin_old h rel e2⟩ hs
    | _ => cases er
  | str z =>
    cases b with
    | int i =>
      obtain rfl := RD.of_str va
      obtain rfl := RD.of_int vb
      have er' : (if z.length ≤ sizeLine then (atI z.cps.toList i).map fun c => D.str ⟨#[c]⟩ else none) = some r := er
      by_cases hz : z.length ≤ sizeLine
      · rw [if_pos hz] at er'
        obtain ⟨c, e1, e2⟩ := Option.map_eq_some_iff.mp er'
        subst e2
        exact ix_str value slice pins s σ H _ _ v u Q I rx ry ⟨_, _, c, rfl, rfl, hz, e1, fin_old h rel (.str _)⟩ hs
      · rw [if_neg hz] at er'; cases er'
    | _ => cases er
  | dic ks xs =>
    have er' : ((toKey b).bind fun k => findK ks xs k) = some r := er
    obtain ⟨k, e1, e2⟩ := Option.bind_eq_some_iff.mp er'
    have e3 : dgetD (.dic ks xs) b = some (some r) := by
      show (toKey b).map _ = _
      rw [e1, Option.map_some, e2]
    obtain ⟨p, o, e4, e5, e6⟩ := dget_rel va (show Vw X.K g H y b by cases b <;> first | exact vb | cases e1) e3
    cases o with
    | none => exact e6.elim
    | some w => exact ix_dict hu value slice pins s σ H _ _ v u Q I rx ry ⟨p, w, e4, e5, fin_old h rel e6⟩ hs
  | dit ks xs =>
    have er' : ((keyT b).bind fun k => findK ks xs k) = some r := er
    obtain ⟨k, e1, e2⟩ := Option.bind_eq_some_iff.mp er'
    have e3 : dgetD (.dit ks xs) b = some (some r) := by
      show (keyT b).map _ = _
      rw [e1, Option.map_some, e2]
    obtain ⟨p, o, e4, e5, e6⟩ := dget_rel va (show Vw X.K g H y b by cases b <;> first | exact vb | cases e1) e3
    cases o with
    | none => exact e6.elim
    | some w => exact ix_dict hu value slice pins s σ H _ _ v u Q I rx ry ⟨p, w, e4, e5, fin_old h rel e6⟩ hs
  | _ => cases er

theorem cut_rel {K : PySem.W.Frag} {g : Gh} {H : Hp} {ds : List D} {vs : List V} (r : RDs K g H ds vs) (lo hi : Option Int) : RDs K g H (cutD ds lo hi) (cutV vs lo hi) := by
  unfold cutD cutV
  rw [r.length]
  exact (r.drop _).take _
def rSli (X : Cx) (W : WX) : V → Option Int → Option Int → Hp → VK → Prop := fun x lo hi H Q => ∃ g fr S σ a, Rel X.K X.mg g fr S σ H ∧ Vw X.K g H x a ∧ Aft X.K X.mg W (rV X.K X.mg) g H σ (RX.lift (sliceD lo hi a) fr S) Q
theorem sl_any : SlR X (rSli X W) := by
  intro pins s σ H x v vl vu lo hi sl Q I rx hs pl pu ⟨g, fr, S, σ', a, rel, va, h⟩
  cases a with
  | lst xs =>
    obtain ⟨p, vs, rfl, h1, h2⟩ := va
    exact sl_list pins s σ H _ v vl vu lo hi sl Q I rx hs pl pu ⟨_, _, rfl, SqL.of h1, fun p hp => fin_lst h rel (cut_rel h2 lo hi) hp⟩
  | tup xs =>
    obtain ⟨p, vs, rfl, h1, h2⟩ := RD.of_tupX va
    refine sl_tupA pins s σ H _ v vl vu lo hi sl Q I rx hs pl pu ⟨_, _, rfl, SqT.of h1, fun e => ?_, fun _ p hp => fin_tup h rel (cut_rel h2 lo hi) hp⟩
    have e1 : cutD xs lo hi = xs := by
      unfold cutD
      rw [h2.length, e.1, e.2, List.drop_zero, Nat.sub_zero, ← h2.length, List.take_length]
    have h' : Aft X.K X.mg W (rV X.K X.mg) g H σ' (.ok (.fz (.tup (cutD xs lo hi))) fr S) Q := h
    rw [e1] at h'
    exact fin_old h' rel (.tup h1 h2)
  | str z =>
    obtain rfl := RD.of_str va
    have h' : Aft X.K X.mg W (rV X.K X.mg) g H σ' (RX.lift (if z.length ≤ sizeLine then some (.fz (.str (Txt.slice z lo hi))) else none) fr S) Q := h
    by_cases hz : z.length ≤ sizeLine
    · rw [if_pos hz] at h'
      exact C8.sl_txt pins s σ H _ v vl vu lo hi sl Q I rx hs pl pu ⟨z, rfl, hz, fin_old h' rel (.str _)⟩
    · rw [if_neg hz] at h'; exact h'.elim
  | _ => exact False.elim h

theorem truV_of {H : Hp} {g : Gh} {x : V} {d : D} {k : Bool} (va : Vw X.K g H x d) (e : truD d = some k) : TruV X.K x H k := by
  cases d with
  | non => obtain rfl := RD.of_non va; exact (Option.some.inj e).symm
  | bl b => obtain rfl := RD.of_bl va; exact (Option.some.inj e).symm
  | int b => obtain rfl := RD.of_int va; exact (Option.some.inj e).symm
  | lst xs =>
    obtain ⟨p, vs, rfl, h1, h2⟩ := va
    refine .inl ⟨vs, SqL.of h1, ?_⟩
    have e' : (!xs.isEmpty) = k := Option.some.inj e
    rw [← e']
    cases h2 <;> rfl
  | tup xs =>
    obtain ⟨p, vs, rfl, h1, h2⟩ := RD.of_tup va
    refine .inr (.inl ⟨vs, h1, ?_⟩)
    have e' : (!xs.isEmpty) = k := Option.some.inj e
    rw [← e']
    cases h2 <;> rfl
  | _ => cases e

/-! ### built-ins -/
inductive Vws (K : PySem.W.Frag) (g : Gh) (H : Hp) : List V → List D → Prop
  | nil : Vws K g H [] []
  | cons {x : V} {xs : List V} {d : D} {ds : List D} : Vw K g H x d → Vws K g H xs ds → Vws K g H (x :: xs) (d :: ds)
theorem vws_look {K : PySem.W.Frag} {mg : Str → Option Value} {g : Gh} {H : Hp} {S : Store} (st : StR K mg g S H) : ∀ {ds : List D} {xs : List V}, RDs K g H ds xs → Vws K g H xs (ds.map (look S))
  | _, _, .nil => .nil
  | _, _, .cons h t => .cons (vw_look st h) (vws_look st t)
def rBlt (X : Cx) (W : WX) (k : FK) : List V → Hp → VK → Prop := fun xs H Q => ∃ g fr S σ ds, Rel X.K X.mg g fr S σ H ∧ Vws X.K g H xs ds ∧ Aft X.K X.mg W (rV X.K X.mg) g H σ (RX.lift (bltD k ds) fr S) Q
def FK.name : FK → Str
  | .len => "len" | .all => "all" | .any => "any" | .sum => "sum" | .tuple => "tuple" | .list => "list" | .int => "int" | .max2 => "max" | .min2 => "min" | .repr => "repr" | .sorted => "sorted"
/-- the built-in's value -/
def FK.val : FK → Value
  | .len => .builtin "len" | .all => .builtin "all" | .any => .builtin "any" | .sum => .builtin "sum" | .tuple => .type "tuple" | .list => .type "list" | .int => .type "int" | .max2 => .builtin "max" | .min2 => .builtin "min" | .repr => .builtin "repr" | .sorted => .builtin "sorted"
theorem boolL_rel {K : PySem.W.Frag} {g : Gh} {H : Hp} : ∀ {ds : List D} {vs : List V} {bs : List Bool}, RDs K g H ds vs → boolL ds = some bs → vs = bs.map V.bl
  | _, _, _, .nil, e => by cases e; rfl
  | d :: ds, v :: vs, bs, .cons h t, e => by
    cases d with
    | bl b =>
      have e' : (boolL ds).map (b :: ·) = some bs := e
      cases q : boolL ds with
      | none => rw [q] at e'; cases e'
      | some cs =>
        rw [q] at e'
        cases e'
        rw [RD.of_bl h, boolL_rel t q]; rfl
    | _ => cases e
theorem intL_rel {K : PySem.W.Frag} {g : Gh} {H : Hp} : ∀ {ds : List D} {vs : List V} {bs : List Int}, RDs K g H ds vs → intL ds = some bs → vs = bs.map V.int
  | _, _, _, .nil, e => by cases e; rfl
  | d :: ds, v :: vs, bs, .cons h t, e => by
    cases d with
    | int b =>
      have e' : (intL ds).map (b :: ·) = some bs := e
      cases q : intL ds with
      | none => rw [q] at e'; cases e'
      | some cs =>
        rw [q] at e'
        cases e'
        rw [RD.of_int h, intL_rel t q]; rfl
    | _ => cases e
mutual
theorem toP_noDict : ∀ d : D, d.toP.hasDict = false
  | .non | .bl _ | .int _ | .str _ | .dic _ _ | .dit _ _ | .ref _ | .scr _ => by unfold D.toP PyData.hasDict; rfl
  | .lst xs | .tup xs => by unfold D.toP PyData.hasDict; exact toPs_noDict xs
theorem toPs_noDict : ∀ ds : List D, PyData.hasDictAll (D.toPs ds) = false
  | [] => by unfold D.toPs PyData.hasDictAll; rfl
  | x :: xs => by unfold D.toPs PyData.hasDictAll; rw [toP_noDict x, toPs_noDict xs]; rfl
end
/-- repr of plain data behind a reference -/
theorem ints_rel {K : PySem.W.Frag} {g : Gh} {H : Hp} : ∀ ns : List Int, RDs K g H (ns.map D.int) (ns.map V.int)
  | [] => .nil
  | n :: ns => .cons (.int n) (ints_rel ns)
theorem call_repr (hg : X.A.guards = some []) (hu : X.A.units + 100 < cLine) {pins : List (Addr × Obj)} {s : Shared} {σ : L2.St} {H : Hp} {us : List Value} {Q : VK} {a : Addr} {d : PyData} (I : Inv X pins σ H s) (rx : Vals [.ref a] us) (h : Dp X.K H (.ref a) d)
    (hs : d.showable = true) (hp : d.hasDict = false) (hd : d.depth ≤ 64) (hz : d.shown.length ≤ sizeLine) (q : Q (.str d.shown) H) : wpAny (model X.prog X.w) X.A (call (.builtin "repr") us) (EP X pins σ Q) X.xe s := by
  cases rx with
  | cons r1 r2 =>
    cases r2
    cases r1
    obtain ⟨as, rd⟩ := Dp.reads I d (.ref a) (.ref a) h rfl
    refine repr_of_reads' rd hs (fun z => by rw [hp] at z; cases z) hg (by omega) (fun _ _ e => e) (fun h' u tk k => ?_) hz
    exact ⟨.str d.shown, H, I.kept k, ⟨u, rfl⟩, q⟩
theorem call_blt (hc : X.calm = true) (hgd : X.A.guards = some []) (hun : X.A.units + 100 < cLine) (k : FK) : CallR X k.val (rBlt X W k) := by
  intro pins s σ H xs us Q I rx ⟨g, fr, S, σ', ds, rel, va, h⟩
  have some_of : ∃ r, bltD k ds = some r := by
    cases e : bltD k ds with
    | none => rw [e] at h; exact False.elim h
    | some r => exact ⟨r, rfl⟩
  obtain ⟨r, er⟩ := some_of
  rw [er] at h
  cases va with
  | nil => cases k <;> cases er
  | cons v1 vr =>
    rename_i x xs d ds
    cases vr with
    | nil =>
      cases k with
      | len =>
        cases d with
        | lst ys =>
          cases er
          obtain ⟨p, vs, rfl, h1, h2⟩ := v1
          refine call_len_seq pins s σ H _ us Q I rx ⟨_, vs, rfl, .inl (SqL.of h1), ?_⟩
          rw [← h2.length]; exact fin_old h rel (.int _)
        | tup ys =>
          cases er
          obtain ⟨p, vs, rfl, h1, h2⟩ := RD.of_tup v1
          refine call_len_seq pins s σ H _ us Q I rx ⟨_, vs, rfl, .inr h1, ?_⟩
          rw [← h2.length]; exact fin_old h rel (.int _)
        | scr ys =>
          cases er
          obtain ⟨p, vs, rfl, h1, h2⟩ := RD.of_scr v1
          refine call_len_seq pins s σ H _ us Q I rx ⟨_, vs, rfl, .inl h1, ?_⟩
          rw [← h2.length]; exact fin_old h rel (.int _)
        | str z =>
          have e : (if z.length ≤ sizeLine then some (Val.fz (.int z.length)) else none) = some r := er
          by_cases hz : z.length ≤ sizeLine
          · rw [if_pos hz] at e
            cases e
            obtain rfl := RD.of_str v1
            exact call_len_str pins s σ H _ us Q I rx ⟨_, rfl, hz, fin_old h rel (.int _)⟩
          · rw [if_neg hz] at e; cases e
        | _ => cases er
      | all =>
        cases d with
        | lst ys =>
          obtain ⟨p, vs, rfl, h1, h2⟩ := v1
          have e : (boolL ys).map (fun bs => Val.fz (.bl (bs.all id))) = some r := er
          cases q : boolL ys with
          | none => rw [q] at e; cases e
          | some bs =>
            rw [q] at e
            cases e
            obtain rfl := boolL_rel h2 q
            exact cr_all hc pins s σ H _ us Q I rx ⟨_, _, rfl, SqL.of h1, fin_old h rel (.bl _)⟩
        | _ => cases er
      | any =>
        cases d with
        | lst ys =>
          obtain ⟨p, vs, rfl, h1, h2⟩ := v1
          have e : (boolL ys).map (fun bs => Val.fz (.bl (bs.any id))) = some r := er
          cases q : boolL ys with
          | none => rw [q] at e; cases e
          | some bs =>
            rw [q] at e
            cases e
            obtain rfl := boolL_rel h2 q
            exact cr_any hc pins s σ H _ us Q I rx ⟨_, _, rfl, SqL.of h1, fin_old h rel (.bl _)⟩
        | _ => cases er
      | sum =>
        cases d with
        | lst ys =>
          obtain ⟨p, vs, rfl, h1, h2⟩ := v1
          have e : (intL ys).map (fun bs => Val.fz (.int bs.sum)) = some r := er
          cases q : intL ys with
          | none => rw [q] at e; cases e
          | some bs =>
            rw [q] at e
            cases e
            obtain rfl := intL_rel h2 q
            exact cr_sum hc pins s σ H _ us Q I rx ⟨_, _, rfl, SqL.of h1, fin_old h rel (.int _)⟩
        | _ => cases er
      | tuple =>
        cases d with
        | lst ys =>
          cases er
          obtain ⟨p, vs, rfl, h1, h2⟩ := v1
          exact call_tuple_of pins s σ H _ us Q I rx ⟨_, vs, rfl, .inl ⟨SqL.of h1, fun l hl => fin_tup h rel h2 hl⟩⟩
        | tup ys =>
          cases er
          obtain ⟨p, vs, rfl, h1, h2⟩ := RD.of_tupX v1
          exact call_tuple_of pins s σ H _ us Q I rx ⟨_, vs, rfl, .inr ⟨SqT.of h1, fin_old h rel (.tup h1 h2)⟩⟩
        | _ => cases er
      | list =>
        cases d with
        | lst ys =>
          cases er
          obtain ⟨p, vs, rfl, h1, h2⟩ := v1
          exact call_list_of pins s σ H _ us Q I rx ⟨_, vs, rfl, .inl (SqL.of h1), fun l hl => fin_lst h rel h2 hl⟩
        | tup ys =>
          cases er
          obtain ⟨p, vs, rfl, h1, h2⟩ := RD.of_tup v1
          exact call_list_of pins s σ H _ us Q I rx ⟨_, vs, rfl, .inr h1, fun l hl => fin_lst h rel h2 hl⟩
        | _ => cases er
      | int =>
        cases d with
        | int i =>
          cases er
          obtain rfl := RD.of_int v1
          exact call_int1 pins s σ H _ us Q I rx (.inl ⟨_, rfl, fin_old h rel (.int _)⟩)
        | bl i =>
          cases er
          obtain rfl := RD.of_bl v1
          exact call_int1 pins s σ H _ us Q I rx (.inr ⟨_, rfl, fin_old h rel (.int _)⟩)
        | _ => cases er
      | max2 => cases d <;> cases er
      | min2 => cases d <;> cases er
      | repr =>
        have fin : ∀ (d : D) (a : Addr), Dp X.K H (.ref a) d.toP → reprD d = some r → Vals [.ref a] us → wpAny (model X.prog X.w) X.A (call (.builtin "repr") us) (EP X pins σ Q) X.xe s := fun d a hd er rx => by
          unfold reprD at er
          by_cases hh : d.pl = true ∧ d.toP.showable = true ∧ d.toP.shown.length ≤ sizeLine ∧ d.dep ≤ 64
          · rw [if_pos hh] at er
            cases er
            exact call_repr hgd hun I rx hd hh.2.1 (toP_noDict d) (by rw [toP_dep d hh.1]; exact hh.2.2.2) hh.2.2.1 (fin_old h rel (.str _))
          · rw [if_neg hh] at er; cases er
        cases d with
        | tup ys =>
          have pl : (D.tup ys).pl = true := by
            have er' : reprD (.tup ys) = some r := er
            unfold reprD at er'
            by_cases hh : (D.tup ys).pl = true ∧ (D.tup ys).toP.showable = true ∧ (D.tup ys).toP.shown.length ≤ sizeLine ∧ (D.tup ys).dep ≤ 64
            · exact hh.1
            · rw [if_neg hh] at er'; cases er'
          have dp := Vw.dp v1 pl
          obtain ⟨a, rfl⟩ : ∃ a, x = .ref a := by cases v1; exact ⟨_, rfl⟩
          exact fin _ a dp er rx
        | lst ys =>
          have pl : (D.lst ys).pl = true := by
            have er' : reprD (.lst ys) = some r := er
            unfold reprD at er'
            by_cases hh : (D.lst ys).pl = true ∧ (D.lst ys).toP.showable = true ∧ (D.lst ys).toP.shown.length ≤ sizeLine ∧ (D.lst ys).dep ≤ 64
            · exact hh.1
            · rw [if_neg hh] at er'; cases er'
          have dp := Vw.dp v1 pl
          obtain ⟨a, _, rfl, _⟩ := v1
          exact fin _ a dp er rx
        | _ => cases er
      | sorted =>
        cases d with
        | lst ys =>
          obtain ⟨p, vs, rfl, h1, h2⟩ := v1
          have e : (intL ys).map (fun ns => Val.own (.lst ((srtI ns).map .int))) = some r := er
          cases q : intL ys with
          | none => rw [q] at e; cases e
          | some ns =>
            rw [q] at e
            cases e
            obtain rfl := intL_rel h2 q
            refine cr_sortedI pins s σ H _ us Q I rx ⟨_, ns, rfl, SqL.of h1, fun ms q pm pw hq => ?_⟩
            rw [srtI_one pm pw]
            exact fin_lst h rel (ints_rel _) hq
        | _ => cases er
    | cons v2 vr =>
      rename_i y ys e es
      cases vr with
      | nil =>
        cases k with
        | max2 =>
          cases d <;> cases e <;> first | cases er | skip
          obtain rfl := RD.of_int v1; obtain rfl := RD.of_int v2
          exact call_max2 hc pins s σ H _ us Q I rx ⟨_, _, rfl, fin_old h rel (.int _)⟩
        | min2 =>
          cases d <;> cases e <;> first | cases er | skip
          obtain rfl := RD.of_int v1; obtain rfl := RD.of_int v2
          exact call_min2 hc pins s σ H _ us Q I rx ⟨_, _, rfl, fin_old h rel (.int _)⟩
        | _ => cases d <;> cases er
      | cons v3 vr => cases k <;> cases d <;> first | cases er | (cases e <;> cases er)

/-! ### isinstance -/
def TK.tyn : TK → String
  | .int => "int" | .bool => "bool" | .tuple => "tuple" | .str => "str" | .list => "list" | .dict => "dict"
def TK.name : TK → Str
  | .int => "int" | .bool => "bool" | .tuple => "tuple" | .str => "str" | .list => "list" | .dict => "dict"
theorem tyx_of {K : PySem.W.Frag} {g : Gh} {H : Hp} {d : D} {x : V} {t : TK} {b : Bool} (r : RD K g H d x) (e : isD t d = some b) : ∃ ty : String, TyX K H x (.type ty) ∧ kitB ty t.tyn = some b := by
  cases r with
  | non => exact ⟨"NoneType", .base .non, by cases t <;> cases e <;> decide +kernel⟩
  | bl k => exact ⟨"bool", .base (.bl k), by cases t <;> cases e <;> decide +kernel⟩
  | int k => exact ⟨"int", .base (.int k), by cases t <;> cases e <;> decide +kernel⟩
  | str k => exact ⟨"str", .base (.str k), by cases t <;> cases e <;> decide +kernel⟩
  | lst h n r => exact ⟨"list", .base (.lst h), by cases t <;> cases e <;> decide +kernel⟩
  | tup h r =>
    refine ⟨"tuple", ?_, by cases t <;> cases e <;> decide +kernel⟩
    exact .base (.tup h)
  | dic h l n r => exact ⟨"dict", .base (.dK h), by cases t <;> cases e <;> decide +kernel⟩
  | dit h l n r => exact ⟨"dict", .base (.dT h), by cases t <;> cases e <;> decide +kernel⟩
  | ref h => cases t <;> cases e
  | scr h r =>
    refine ⟨"list", ?_, by cases t <;> cases e <;> decide +kernel⟩
    rcases h with ⟨h | ⟨o, h⟩, _⟩ | h
    · exact .base (.lst h)
    · exact .base (.frz h)
    · rcases h (fun _ => none) with h | ⟨o, its, n, h1, h2, _⟩
      · rcases h with h | ⟨o, h⟩ <;> cases h
      · exact .kList h1 h2
end
end Eng
end

section
/-! The engine, part G: the look at the text, what is known where a body runs, weakenings. -/
namespace Eng
open PySem PySem.Spec PyProof.Rows L2

/-! ### the look at the text -/
structure SC where
  sc : Scope
  N : List Str
  fs : List Str
  gl : Str → Option D
  xs : List Str
  top : Bool
/-- no star, no set, no slice -/
def pln : Expr → Bool
  | .Starred .. => false
  | .Set .. => false
  | .Slice .. => false
  | _ => true
def isVis : Option NameKind → Bool
  | some .local => true
  | some .cell => true
  | some .free => true
  | _ => false
def isLoc (top : Bool) : Option NameKind → Bool
  | some .local => true
  | some .cell => top
  | _ => false
def isGl : Option NameKind → Bool
  | some .globalImplicit => true
  | _ => false
def visB (c : SC) (i : Nat) (x : Str) : Bool := decide (c.N[i]? = some x) && isVis (c.sc.names.lookup x) && !(x == "__debug__") && !(x == "__classdict__")
def glB (c : SC) (x : Str) : Bool := isGl (c.sc.names.lookup x) && !(x == "__debug__")
def conOk : D → Const → Bool
  | .non, .none => true
  | .bl b, .bool k => b == k
  | .int i, .int j => decide (i = j)
  | .str x, .str y => decide (x = y)
  | _, _ => false
def Tg.own (N : List Str) (tg : Tg) : List (Str × Nat) := tg.slots.map fun i => (N.getD i Str.empty, i)
mutual
def chkG (c : SC) : Tg → Expr → Bool
  | .nm i, .Name x _ => decide (c.N[i]? = some x) && isLoc c.top (c.sc.names.lookup x)
  | .tp ts, .Tuple es _ _ => chkGs c ts es
  | _, _ => false
def chkGs (c : SC) : Tgs → List Expr → Bool
  | .nil, [] => true
  | .cons t ts, e :: es => chkG c t e && chkGs c ts es
  | _, _ => false
end
def isTupleE : Expr → Bool
  | .Tuple .. => true
  | _ => false
structure CK2 where
  v : Expr → Bool
  t : Expr → Bool
def chkO (m : Xp) (f : Expr → Bool) (o : Option Expr) : Bool := match m, o with
  | .omit, none => true
  | .omit, some _ => false
  | _, some x => f x
  | _, none => false
mutual
def chk2 : Xp → SC → CK2
  | .con d, c => ⟨fun e => match e with | .Constant k _ _ => conOk d k | _ => false, fun _ => false⟩
  | .var i, c => let f := fun e => match e with | .Name x _ => visB c i x | _ => false; ⟨f, f⟩
  | .glo x, c => ⟨fun e => match e with | .Name y _ => decide (x = y) && glB c y | _ => false, fun _ => false⟩
  | .bin k a b, c => ⟨fun e => match e with | .BinOp l o r _ => decide (o = k.op) && (chk2 a c).v l && (chk2 b c).v r | _ => false, fun _ => false⟩
  | .cmp k a b, c => let f := fun e => match e with | .Compare l [o] [r] _ => decide (o = k.op) && pln r && (chk2 a c).v l && (chk2 b c).v r | _ => false; ⟨f, f⟩
  | .chain k l a b d, c => let f := fun e => match e with | .Compare x [o, o'] [y, z] _ => decide (o = k.op) && decide (o' = l.op) && pln z && (chk2 a c).v x && (chk2 b c).v y && (chk2 d c).v z | _ => false; ⟨f, f⟩
  | .not a, c => ⟨fun e => match e with | .UnaryOp .Not x _ => (chk2 a c).v x | _ => false, fun e => match e with | .UnaryOp .Not x _ => (chk2 a c).t x | _ => false⟩
  | .and a b, c => ⟨fun e => match e with
    | .BoolOp .And [x, y] _ => (chk2 a c).v x && (chk2 b c).v y
    | .BoolOp .And (x :: y :: z :: r) p => (chk2 a c).v x && (chk2 b c).v (.BoolOp .And (y :: z :: r) p)
    | _ => false, fun e => match e with
    | .BoolOp .And [x, y] _ => (chk2 a c).t x && (chk2 b c).t y
    | .BoolOp .And (x :: y :: z :: r) p => (chk2 a c).t x && (chk2 b c).t (.BoolOp .And (y :: z :: r) p)
    | _ => false⟩
  | .or a b, c => ⟨fun e => match e with
    | .BoolOp .Or [x, y] _ => (chk2 a c).v x && (chk2 b c).v y
    | .BoolOp .Or (x :: y :: z :: r) p => (chk2 a c).v x && (chk2 b c).v (.BoolOp .Or (y :: z :: r) p)
    | _ => false, fun e => match e with
    | .BoolOp .Or [x, y] _ => (chk2 a c).t x && (chk2 b c).t y
    | .BoolOp .Or (x :: y :: z :: r) p => (chk2 a c).t x && (chk2 b c).t (.BoolOp .Or (y :: z :: r) p)
    | _ => false⟩
  | .ife t a b, c => ⟨fun e => match e with | .IfExp x y z _ => (chk2 t c).t x && (chk2 a c).v y && (chk2 b c).v z | _ => false, fun _ => false⟩
  | .tup es, c => ⟨fun e => match e with | .Tuple l _ _ => chks es c l | _ => false, fun _ => false⟩
  | .lst es, c => ⟨fun e => match e with | .List l _ => chks es c l | _ => false, fun _ => false⟩
  | .sub a b, c => let f := fun e => match e with | .Subscript x y _ => pln y && (chk2 a c).v x && (chk2 b c).v y | _ => false; ⟨f, f⟩
  | .slice a lo hi, c => ⟨fun e => match e with | .Subscript x (.Slice l h none _) _ => (chk2 a c).v x && chkO lo (chk2 lo c).v l && chkO hi (chk2 hi c).v h | _ => false, fun _ => false⟩
  | .omit, _ => ⟨fun _ => false, fun _ => false⟩
  | .call f es, c => let g := fun e => match e with | .Call (.Name x _) (y :: ys) [] _ => decide (f = x) && c.fs.contains x && glB c x && chks es c (y :: ys) | _ => false; ⟨g, g⟩
  | .blt k es, c => let g := fun e => match e with | .Call (.Name x _) (y :: ys) [] _ => decide (x = k.name) && glB c x && chks es c (y :: ys) | _ => false; ⟨g, g⟩
  | .isi t a, c => let g := fun e => match e with | .Call (.Name x _) [y, .Name z _] [] _ => decide (x = "isinstance") && decide (z = t.name) && glB c x && glB c z && pln y && (chk2 a c).v y | _ => false; ⟨g, g⟩
  | .bltv k i, c => let g := fun e => match e with | .Call (.Name x _) [.Name y _] [] _ => decide (x = k.name) && glB c x && visB c i y | _ => false; ⟨g, g⟩
  | .subv i b, c => let g := fun e => match e with | .Subscript (.Name x _) y _ => pln y && visB c i x && (chk2 b c).v y | _ => false; ⟨g, g⟩
  | .cmpv k a i, c => let g := fun e => match e with | .Compare l [o] [.Name x _] _ => decide (o = k.op) && visB c i x && (chk2 a c).v l | _ => false; ⟨g, g⟩
  | .popv i b, c => ⟨fun e => match e with | .Call (.Attribute (.Name x _) m ap) [y] [] cp => decide (m = "pop") && (ap.endLine == cp.line) && visB c i x && pln y && (chk2 b c).v y | _ => false, fun _ => false⟩
  | .comp elt tg it cs, c => ⟨fun e => match e with
    | .ListComp el [⟨t, i, fs, 0⟩] sc _ => blkC c.N c.sc sc (tg.own c.N) && pln i && chkW it c t i && chkG { c with sc := relS sc c.sc, top := false } tg t && chkC cs { c with sc := relS sc c.sc, top := false } fs &&
        (chk2 elt { c with sc := relS sc c.sc, top := false }).v el
    | _ => false, fun _ => false⟩
  | .share a, c => ⟨(chk2 a c).v, fun _ => false⟩
  | .listrg b, c => ⟨fun e => match e with | .Call (.Name x _) [.Call (.Name y _) [z] [] _] [] _ => decide (x = "list") && decide (y = "range") && glB c x && glB c y && pln z && (chk2 b c).v z | _ => false, fun _ => false⟩
  | .lenset a, c => ⟨fun e => match e with | .Call (.Name x _) [.Call (.Name y _) [z] [] _] [] _ => decide (x = "len") && decide (y = "set") && glB c x && glB c y && pln z && (chk2 a c).v z | _ => false, fun _ => false⟩
  | .neg a, c => ⟨fun e => match e with | .UnaryOp .USub x _ => (chk2 a c).v x | _ => false, fun _ => false⟩
  | .dic0 _, _ => ⟨fun e => match e with | .Dict [] [] _ => true | _ => false, fun _ => false⟩
  | .sortset a, c => ⟨fun e => match e with | .Call (.Name x _) [.Call (.Name y _) [z] [] _] [] _ => decide (x = "sorted") && decide (y = "set") && glB c x && glB c y && pln z && (chk2 a c).v z | _ => false, fun _ => false⟩
  | .mind a b, c => ⟨fun e => match e with | .Call (.Name x _) [y] [⟨some k, z, _⟩] _ => decide (x = "min") && decide (k = "default") && glB c x && pln y && (chk2 a c).v y && (chk2 b c).v z | _ => false, fun _ => false⟩
def chks : Xs → SC → List Expr → Bool
  | .nil, _ => fun l => l.isEmpty
  | .cons e es, c => fun l => match l with | x :: xs => pln x && (chk2 e c).v x && chks es c xs | [] => false
def chkC : Xs → SC → List Expr → Bool
  | .nil, _ => fun l => l.isEmpty
  | .cons e es, c => match es with
    | .nil => fun l => match l with | [x] => (chk2 e c).t x | _ => false
    | .cons _ _ => fun _ => false
def chkW : Wk → SC → Expr → Expr → Bool
  | .seq e, c => fun _ x => (chk2 e c).v x
  | .rng1 a, c => fun _ x => match x with | .Call (.Name f _) [y] [] _ => decide (f = "range") && glB c f && pln y && (chk2 a c).v y | _ => false
  | .rng2 a b, c => fun _ x => match x with | .Call (.Name f _) [y, z] [] _ => decide (f = "range") && glB c f && pln y && pln z && (chk2 a c).v y && (chk2 b c).v z | _ => false
  | .enm a, c => fun t x => match t, x with | .Tuple _ _ _, .Call (.Name f _) [y] [] _ => decide (f = "enumerate") && glB c f && pln y && (chk2 a c).v y | _, _ => false
  | .zip a b, c => fun t x => match t, x with | .Tuple _ _ _, .Call (.Name f _) [y, z] [] _ => decide (f = "zip") && glB c f && pln y && pln z && (chk2 a c).v y && (chk2 b c).v z | _, _ => false
  | .rng3 a b d, c => fun _ x => match x with | .Call (.Name f _) [y, z, u] [] _ => decide (f = "range") && glB c f && pln y && pln z && pln u && (chk2 a c).v y && (chk2 b c).v z && (chk2 d c).v u | _ => false
end
def chk (c : SC) (m : Xp) (e : Expr) : Bool := (chk2 m c).v e
def chkT (c : SC) (m : Xp) (e : Expr) : Bool := (chk2 m c).t e

/-! ### what is known where a body runs -/
def spC (K : PySem.W.Frag) (mg : Str → Option Value) (m : List D → Store → RC) (ar : Nat) : Sp := fun vs H Q E => vs.length = ar ∧ ∃ g S ds, g.own = [] ∧ StR K mg g S H ∧ RDs K g H ds vs ∧ match m ds S with
  | .ok v S' => ∀ g' H' x, Keep g H g' H' → g'.own = [] → StR K mg g' S' H' → rV K mg g.tmp g' H' v x → Q x H'
  | .ex e S' => ∀ g' H' c d, Keep g H g' H' → g'.own = [] → StR K mg g' S' H' → g'.tmp = g.tmp → XR K mg g' H' e c d → E c d H'
  | .no => False
/-- a def's promise, where no repr is under way -/
structure FnG (prog : Program) (w : World) (K : PySem.W.Frag) (mg : Str → Option Value) (base : Heap) (n : Nat) (fa : Addr) (fd : FuncData) (qs : List Str) (sp : Sp) : Prop where
  ar : ∀ xs H Q E, sp xs H Q E → xs.length = qs.length
  go : ∀ (A : Around) (out : List Env) (s : Shared) (H : Hp) (ags : Args) (us : List Value) (xs : List V) (Q : VK) (E : XK), A.guards = some [] → Room n A → Env0 prog w K mg base A out s H →
    BindsTo s fd ags (qs.zip us) → Vals xs us → sp xs H Q E → codeAny (model prog w) A (.call (.ref fa) ags) (CR (L2.CX prog w) out prog w H s Q E) s
def Callee (X : Cx) (cf : CF) (f : Str) : Prop := ∃ k a fd ps, FnG X.prog X.w X.K X.mg X.base k a fd ps (spC X.K X.mg (cf f) ps.length) ∧ Room k X.A ∧ X.mg f = some (.ref a) ∧ PySem.W.keepIn X.K (.ref a) = true ∧ Binds X.K fd ps [] ∧ ∀ ds S, ds.length ≠ ps.length → cf f ds S = .no
def bltNames : List Str := ["len", "all", "any", "sum", "tuple", "list", "int", "max", "min", "repr", "isinstance", "bool", "str", "dict", "range", "enumerate", "zip", "sorted", "set"]
/-- an own exception class without an __init__ of its own -/
def ExcOk (X : Cx) (x : Str) : Prop := ∃ C, X.mg x = some (.ref C) ∧ PySem.W.excIn X.K C [.type "ValueError", .type "Exception", .type "BaseException", .type "object"] "ValueError.__new__" = true ∧
  PySem.W.keepIn X.K (.ref C) = true ∧ PySem.W.subIn X.K (.ref C) (.type "BaseException") = some true ∧ PySem.W.typeIn X.K (.ref C) = some (.type "type")
structure Good (c : SC) (X : Cx) (W : WX) (cf : CF) : Prop where
  sc : X.env.scope = c.sc
  N : X.N = c.N
  nd : c.N.Nodup
  calm : X.calm = true
  tk : Takes X W
  po : PassesOwn (model X.prog X.w) X.A X.env X.xe
  un : X.A.units + 100 < cLine
  gd : X.A.guards = some []
  fn : ∀ f, c.fs.contains f = true → Callee X cf f
  blt : ∀ x ∈ bltNames, X.mg x = none
  gl : ∀ x d, c.gl x = some d → ∃ u v, X.mg x = some u ∧ RelV v u ∧ ∀ g H, RD X.K g H d v
  exc : ∀ x, c.xs.contains x = true → ExcOk X x
  top : c.top = true → ∀ x, X.fn x = true

section
variable {X : Cx} {e : Expr} {es : List Expr}
theorem _root_.L2.PE.weak {t t' : TE} (h : PE X e t) (i : ∀ σ H Q, t' σ H Q → t σ H Q) : PE X e t' := ⟨fun pins s σ H Q I q => h.run pins s σ H Q I (i σ H Q q)⟩
theorem _root_.L2.PT.weak {t t' : TT} (h : PT X e t) (i : ∀ σ H Q, t' σ H Q → t σ H Q) : PT X e t' := ⟨fun pins s σ H Q I q => h.run pins s σ H Q I (i σ H Q q)⟩
theorem _root_.L2.PW.weak {t t' : TT} (h : PW X e t) (i : ∀ σ H Q, t' σ H Q → t σ H Q) : PW X e t' := ⟨fun w pins s σ H Q I q => h.run w pins s σ H Q I (i σ H Q q)⟩
theorem _root_.L2.PA.weak {t t' : TA} (h : PA X es t) (i : ∀ σ H Q, t' σ H Q → t σ H Q) : PA X es t' := ⟨fun pos pins s σ H Q I q => h.run pos pins s σ H Q I (i σ H Q q)⟩
theorem _root_.L2.PO.weak {o : Option Expr} {t t' : TO} (h : PO X o t) (i : ∀ σ H Q, t' σ H Q → t σ H Q) : PO X o t' := ⟨fun pins s σ H Q I q => h.run pins s σ H Q I (i σ H Q q)⟩
theorem _root_.L2.PTs.weak {t t' : TT} (h : PTs X es t) (i : ∀ σ H Q, t' σ H Q → t σ H Q) : PTs X es t' := ⟨fun pins s σ H Q I q => h.run pins s σ H Q I (i σ H Q q)⟩
theorem _root_.L2.PG.weak {t t' : TG} (h : PG X e t) (i : ∀ v σ H Q, t' v σ H Q → t v σ H Q) : PG X e t' := ⟨fun pins s σ H v u Q I r q => h.run pins s σ H v u Q I r (i v σ H Q q)⟩
theorem _root_.L2.PGs.weak {t t' : TGs} (h : PGs X es t) (i : ∀ v σ H Q, t' v σ H Q → t v σ H Q) : PGs X es t' := ⟨fun pins s σ H v u Q I r q => h.run pins s σ H v u Q I r (i v σ H Q q)⟩
theorem _root_.L2.PI.weak {tg : Expr} {t t' : TI} (h : PI X tg e t) (i : ∀ σ H R, t' σ H R → t σ H R) : PI X tg e t' := ⟨fun pins s σ H R I q => h.run pins s σ H R I (i σ H R q)⟩
theorem _root_.L2.PI.or {tg : Expr} {t t' : TI} (h : PI X tg e t) (h' : PI X tg e t') : PI X tg e (fun σ H R => t σ H R ∨ t' σ H R) := ⟨fun pins s σ H R I q => q.elim (h.run pins s σ H R I) (h'.run pins s σ H R I)⟩
theorem _root_.L2.PS.weak {st : Stmt} {t t' : TS} (h : PS X st t) (i : ∀ D σ H, t' D σ H → t D σ H) : PS X st t' := ⟨fun pins s σ H D I q => h.run pins s σ H D I (i D σ H q)⟩
theorem _root_.L2.PSs.weak {st : List Stmt} {t t' : TS} (h : PSs X st t) (i : ∀ D σ H, t' D σ H → t D σ H) : PSs X st t' := ⟨fun pins s σ H D I q => h.run pins s σ H D I (i D σ H q)⟩
theorem pln_star (h : pln e = true) (env : Env) : starEach (e :: es) env = (false, eval e env) :: starEach es env := by
  cases e <;> first | rfl | cases h
theorem pln_sub (h : pln e = true) : PlainIx e := by
  intro o i
  cases e <;> first | rfl | cases h
theorem pln_in (h : pln e = true) (op : CmpOp) : behindInMarks op e = false := by
  cases e <;> first | rfl | cases h
theorem pln_fold (h : pln e = true) (env : Env) (x : Value) : foldedSetIterable e env x = pure x := by
  cases e <;> first | rfl | cases h
theorem pln_last (h : pln e = true) (o o' : CmpOp) (y : Expr) : lastMarks [o, o'] [y, e] = false := pln_in h o'
theorem chks_plain {c : SC} : ∀ (ms : Xs) (es : List Expr), chks ms c es = true → ∀ (env : Env) (pos : Pos), (backTo pos (starEach es env)).any (·.1) = false
  | .nil, [], _, _, _ => rfl
  | .nil, _ :: _, h, _, _ => nomatch h
  | .cons _ _, [], h, _, _ => nomatch h
  | .cons m ms, x :: xs, h, env, pos => by
    have h' : (pln x && chk c m x && chks ms c xs) = true := h
    rw [Bool.and_eq_true, Bool.and_eq_true] at h'
    rw [pln_star h'.1.1 env]
    have ih := chks_plain ms xs h'.2 env pos
    show (false || _) = false
    exact ih
theorem frzPE {K : PySem.W.Frag} {mg : Str → Option Value} {W : WX} {f : Frame → Store → RX Val} (h : PE X e (tX K mg W (rV K mg) f)) : PE X e (tX K mg W (rD K) fun fr S => frzX (f fr S)) :=
  h.weak fun _ _ _ ⟨g, fr, S, rel, a⟩ => ⟨g, fr, S, rel, a.frz⟩
end
section
variable {c : SC} {X : Cx} {W : WX} {cf : CF}
theorem Good.vis (G : Good c X W cf) {i : Nat} {x : Str} (h : visB c i x = true) : X.N[i]? = some x ∧ Vis X.env.scope x ∧ (x == ("__debug__" : Str)) = false ∧ (x == ("__classdict__" : Str)) = false := by
  unfold visB at h
  rw [Bool.and_eq_true, Bool.and_eq_true, Bool.and_eq_true, decide_eq_true_iff, Bool.not_eq_true', Bool.not_eq_true'] at h
  obtain ⟨⟨⟨h1, h2⟩, h3⟩, h4⟩ := h
  refine ⟨by rw [G.N]; exact h1, ?_, h3, h4⟩
  unfold Vis
  rw [G.sc]
  cases e : c.sc.names.lookup x with
  | none => rw [e] at h2; cases h2
  | some k =>
    rw [e] at h2
    cases k with
    | «local» => exact .inl rfl
    | cell => exact .inr (.inl rfl)
    | free => exact .inr (.inr rfl)
    | globalExplicit => cases h2
    | globalImplicit => cases h2
theorem Good.glob (G : Good c X W cf) {x : Str} (h : glB c x = true) : Gl X x ∧ (x == ("__debug__" : Str)) = false := by
  unfold glB at h
  rw [Bool.and_eq_true, Bool.not_eq_true'] at h
  refine ⟨?_, h.2⟩
  show X.env.scope.names.lookup x = some .globalImplicit
  rw [G.sc]
  have h2 := h.1
  cases e : c.sc.names.lookup x with
  | none => rw [e] at h2; cases h2
  | some k =>
    rw [e] at h2
    cases k <;> first | rfl | cases h2
/-- where a comprehension's block runs -/
theorem Good.blk (G : Good c X W cf) (sc : Scope) (s : Shared) (H : Hp) (C : Addr) (cl : List (Str × Addr)) (fp : List Addr) :
    Good { c with sc := relS sc c.sc, top := false } (X.blk s H sc (compEnvC sc cl C X.env) fp) (fun _ _ _ _ => False) cf where
  sc := by
    show relabel sc X.env = relS sc c.sc
    rw [← G.sc]; rfl
  N := G.N
  nd := G.nd
  calm := G.calm
  tk := fun u s' x => by
    obtain ⟨_, _, _, _, _, _, _, _, _, _, _, _, _, _, _, _, z⟩ := x
    exact z
  po := PassesOwn.never
  un := G.un
  gd := G.gd
  fn := G.fn
  blt := G.blt
  gl := G.gl
  exc := G.exc
  top := fun z => nomatch z
end
end Eng
end

section
/-! The engine, part H: an expression of the text does what the function says, construct by construct. -/
namespace Eng
open PySem PySem.Spec PyProof.Rows L2

abbrev tV (c : SC) (X : Cx) (W : WX) (cf : CF) (m : Xp) : TE := tX X.K X.mg W (rV X.K X.mg) (ev cf c.gl m)
abbrev tF (c : SC) (X : Cx) (W : WX) (cf : CF) (m : Xp) : TE := tX X.K X.mg W (rD X.K) (fun fr S => frzX (ev cf c.gl m fr S))
abbrev tTs (c : SC) (X : Cx) (W : WX) (cf : CF) (m : Xp) : TT := tX X.K X.mg W rId (evT cf c.gl m)
abbrev tAs (c : SC) (X : Cx) (W : WX) (cf : CF) (m : Xs) : TA := tX X.K X.mg W (rDs X.K) (evs cf c.gl m)

section
variable {c : SC} {X : Cx} {W : WX} {cf : CF} {pos : Pos}
theorem se_con (d : D) {k : Const} {j : Nat} (h : conOk d k = true) : PE X (.Constant k j pos) (tV c X W cf (.con d)) := by
  cases d <;> cases k <;> first | cases h | skip
  · exact pe_non.weak fun σ H Q ⟨g, fr, S, rel, a⟩ => fin_old a rel .non
  · rename_i b k
    have h' : (b == k) = true := h
    obtain rfl : b = k := by simpa using h'
    exact pe_bl.weak fun σ H Q ⟨g, fr, S, rel, a⟩ => fin_old a rel (.bl _)
  · rename_i b k
    obtain rfl : b = k := of_decide_eq_true h
    exact pe_int.weak fun σ H Q ⟨g, fr, S, rel, a⟩ => fin_old a rel (.int _)
  · rename_i b k
    obtain rfl : b = k := of_decide_eq_true h
    exact pe_str.weak fun σ H Q ⟨g, fr, S, rel, a⟩ => fin_old a rel (.str _)

theorem varX_own {i : Nat} {fr : Frame} {S : Store} {cl : Cell} {d : D} (e : fr[i]? = some (some (.own cl))) (h : cl.frz = some d) : varX i fr S = .ok (.fz d) (fr.set i (some (.fz d))) S := by
  unfold varX; rw [e]; dsimp only; rw [h]
theorem se_var (G : Good c X W cf) {i : Nat} {x : Str} (h : visB c i x = true) : PE X (.Name x pos) (tV c X W cf (.var i)) := by
  obtain ⟨h1, h2, h3, h4⟩ := G.vis h
  refine (pe_var h1 h2 h3 h4).weak fun σ H Q ⟨g, fr, S, rel, a⟩ => ?_
  have a' : Aft X.K X.mg W (rV X.K X.mg) g H σ (varX i fr S) Q := a
  cases e : fr[i]? with
  | none => unfold varX at a'; rw [e] at a'; exact a'.elim
  | some o =>
    cases o with
    | none => unfold varX at a'; rw [e] at a'; exact a'.elim
    | some v =>
      obtain ⟨x, e1, s⟩ := rel.slot i v e
      cases v with
      | fz d =>
        unfold varX at a'; rw [e] at a'
        exact ⟨x, e1, fin_old a' rel s⟩
      | own cl =>
        cases q : cl.frz with
        | none => unfold varX at a'; rw [e] at a'; dsimp only at a'; rw [q] at a'; exact a'.elim
        | some d =>
          rw [varX_own e q] at a'
          obtain ⟨g', k', rel', t', r'⟩ := rel.freeze e q e1
          exact ⟨x, e1, a' g' H x k' rel' ⟨t', r'⟩⟩
theorem se_glo (G : Good c X W cf) {x : Str} (h : glB c x = true) : PE X (.Name x pos) (tV c X W cf (.glo x)) := by
  obtain ⟨h1, h2⟩ := G.glob h
  cases e : c.gl x with
  | none =>
    refine ⟨fun pins s σ H Q I ⟨g, fr, S, rel, a⟩ => ?_⟩
    have a' : Aft X.K X.mg W (rV X.K X.mg) g H σ (RX.lift ((c.gl x).map Val.fz) fr S) Q := a
    rw [e] at a'
    exact a'.elim
  | some d =>
    obtain ⟨u, v, hm, hr, hd⟩ := G.gl x d e
    refine (pe_glob h1 hm hr h2).weak fun σ H Q ⟨g, fr, S, rel, a⟩ => ?_
    have a' : Aft X.K X.mg W (rV X.K X.mg) g H σ (RX.lift ((c.gl x).map Val.fz) fr S) Q := a
    rw [e] at a'
    exact fin_old a' rel (hd g H)

variable {a b d : Xp} {l r z : Expr}
theorem se_bin (k : BK) (ha : PE X l (tV c X W cf a)) (hb : PE X r (tV c X W cf b)) : PE X (.BinOp l k.op r pos) (tV c X W cf (.bin k a b)) := by
  refine (pe_op (op_bin (W := W) k) (frzPE ha) (frzPE hb)).weak fun σ H Q ⟨g, fr, S, rel, h⟩ => ⟨g, fr, S, rel, ?_⟩
  refine (Aft.bind rD_tmp h).imp fun x H1 ⟨d1, fr1, S1, g1, k1, rel1, r1, t1, h1⟩ => ⟨g1, fr1, S1, rel1, ?_⟩
  refine (Aft.bind rD_tmp h1).imp fun y H2 ⟨d2, fr2, S2, g2, k2, rel2, r2, t2, h2⟩ => ?_
  exact ⟨g2, fr2, S2, σ, _, _, rel2, vw_look rel2.st (r1.2.mono k2.mono), vw_look rel2.st r2.2, h2⟩
theorem wk_cmp (k : CK) : ∀ σ H Q, tV c X W cf (.cmp k a b) σ H Q → tOp (rCmp X W k) (tF c X W cf a) (tF c X W cf b) σ H Q := fun σ H Q ⟨g, fr, S, rel, h⟩ => by
  refine ⟨g, fr, S, rel, ?_⟩
  refine (Aft.bind rD_tmp h).imp fun x H1 ⟨d1, fr1, S1, g1, k1, rel1, r1, t1, h1⟩ => ⟨g1, fr1, S1, rel1, ?_⟩
  refine (Aft.bind rD_tmp h1).imp fun y H2 ⟨d2, fr2, S2, g2, k2, rel2, r2, t2, h2⟩ => ?_
  exact ⟨g2, fr2, S2, σ, _, _, rel2, vw_look rel2.st (r1.2.mono k2.mono), vw_look rel2.st r2.2, h2⟩
theorem hu_of' (G : Good c X W cf) : X.A.units + 66 < cLine := by have := G.un; omega
theorem se_cmp (G : Good c X W cf) (k : CK) (ha : PE X l (tV c X W cf a)) (hb : PE X r (tV c X W cf b)) (hp : pln r = true) : PE X (.Compare l [k.op] [r] pos) (tV c X W cf (.cmp k a b)) :=
  (pe_cmpR (op_cmp (W := W) (hu_of' G) k) (frzPE ha) (frzPE hb) (pln_in hp _)).weak (wk_cmp k)
theorem wk_chain (k m : CK) : ∀ σ H Q, tV c X W cf (.chain k m a b d) σ H Q → tChain (rCmp X W k) (rCmp X W m) (tF c X W cf a) (tF c X W cf b) (tF c X W cf d) σ H Q := fun σ H Q ⟨g, fr, S, rel, h⟩ => by
  refine ⟨g, fr, S, rel, ?_⟩
  refine (Aft.bind rD_tmp h).imp fun x H1 ⟨d1, fr1, S1, g1, k1, rel1, r1, t1, h1⟩ => ⟨g1, fr1, S1, rel1, ?_⟩
  refine (Aft.bind rD_tmp h1).imp fun y H2 ⟨d2, fr2, S2, g2, k2, rel2, r2, t2, h2⟩ => ?_
  refine ⟨g2, fr2, S2, σ, look S2 d1, look S2 d2, rel2, vw_look rel2.st (r1.2.mono k2.mono), vw_look rel2.st r2.2, ?_⟩
  cases e : cmpD k (look S2 d1) (look S2 d2) with
  | none => rw [e] at h2; exact h2.elim
  | some t =>
    rw [e] at h2
    intro g3 H3 x3 k3 rel3 r3
    obtain rfl := RD.of_bl r3.2
    refine ⟨t, rfl, ?_⟩
    cases t with
    | true =>
      refine iteT ?_
      refine ⟨g3, fr2, S2, rel3, ?_⟩
      refine (Aft.bind rD_tmp (Aft.shift k3 r3.1 h2)).imp fun w H4 ⟨d4, fr4, S4, g4, k4, rel4, r4, t4, h4⟩ => ?_
      exact ⟨g4, fr4, S4, σ, _, _, rel4, vw_look rel4.st ((r2.2.mono k3.mono).mono k4.mono), vw_look rel4.st r4.2, h4⟩
    | false =>
      refine iteF ?_
      exact h2 g3 H3 _ k3 rel3 ⟨r3.1, .bl _⟩
theorem se_chain (G : Good c X W cf) (k m : CK) (ha : PE X l (tV c X W cf a)) (hb : PE X r (tV c X W cf b)) (hd : PE X z (tV c X W cf d)) (hp : pln z = true) : PE X (.Compare l [k.op, m.op] [r, z] pos) (tV c X W cf (.chain k m a b d)) :=
  (pe_chain (op_cmp (W := W) (hu_of' G) k) (op_cmp (W := W) (hu_of' G) m) (frzPE ha) (frzPE hb) (frzPE hd) (pln_last hp _ _ _)).weak (wk_chain k m)
theorem se_not (ha : PE X l (tV c X W cf a)) : PE X (.UnaryOp .Not l pos) (tV c X W cf (.not a)) := by
  refine (pe_not (frzPE ha)).weak fun σ H Q ⟨g, fr, S, rel, h⟩ => ⟨g, fr, S, rel, ?_⟩
  refine (Aft.bind rD_tmp h).imp fun x H1 ⟨d1, fr1, S1, g1, k1, rel1, r1, t1, h1⟩ => ?_
  cases d1 with
  | bl t =>
    obtain rfl := RD.of_bl r1.2
    exact ⟨t, rfl, fin_old h1 rel1 (.bl _)⟩
  | _ => exact h1.elim
theorem wk_and : ∀ σ H Q, tV c X W cf (.and a b) σ H Q → tAndV (tF c X W cf a) (tV c X W cf b) σ H Q := fun σ H Q ⟨g, fr, S, rel, h⟩ => by
  refine ⟨g, fr, S, rel, ?_⟩
  refine (Aft.bind rD_tmp h).imp fun x H1 ⟨d1, fr1, S1, g1, k1, rel1, r1, t1, h1⟩ => ?_
  cases d1 with
  | bl t =>
    obtain rfl := RD.of_bl r1.2
    refine ⟨t, rfl, ?_⟩
    cases t with
    | true => exact iteT ⟨g1, fr1, S1, rel1, h1⟩
    | false => exact iteF (fin_old h1 rel1 (.bl _))
  | _ => exact h1.elim
theorem wk_or : ∀ σ H Q, tV c X W cf (.or a b) σ H Q → tOrV (tF c X W cf a) (tV c X W cf b) σ H Q := fun σ H Q ⟨g, fr, S, rel, h⟩ => by
  refine ⟨g, fr, S, rel, ?_⟩
  refine (Aft.bind rD_tmp h).imp fun x H1 ⟨d1, fr1, S1, g1, k1, rel1, r1, t1, h1⟩ => ?_
  cases d1 with
  | bl t =>
    obtain rfl := RD.of_bl r1.2
    refine ⟨t, rfl, ?_⟩
    cases t with
    | true => exact iteT (fin_old h1 rel1 (.bl _))
    | false => exact iteF ⟨g1, fr1, S1, rel1, h1⟩
  | _ => exact h1.elim
theorem se_and1 (ha : PE X l (tV c X W cf a)) (hb : PE X r (tV c X W cf b)) : PE X (.BoolOp .And [l, r] pos) (tV c X W cf (.and a b)) := (pe_and (frzPE ha) (pe_one hb)).weak wk_and
theorem se_and {rs : List Expr} (ha : PE X l (tV c X W cf a)) (hb : PE X (.BoolOp .And (r :: z :: rs) pos) (tV c X W cf b)) : PE X (.BoolOp .And (l :: r :: z :: rs) pos) (tV c X W cf (.and a b)) := (pe_and (frzPE ha) hb).weak wk_and
theorem se_or1 (ha : PE X l (tV c X W cf a)) (hb : PE X r (tV c X W cf b)) : PE X (.BoolOp .Or [l, r] pos) (tV c X W cf (.or a b)) := (pe_or (frzPE ha) (pe_one hb)).weak wk_or
theorem se_or {rs : List Expr} (ha : PE X l (tV c X W cf a)) (hb : PE X (.BoolOp .Or (r :: z :: rs) pos) (tV c X W cf b)) : PE X (.BoolOp .Or (l :: r :: z :: rs) pos) (tV c X W cf (.or a b)) := (pe_or (frzPE ha) hb).weak wk_or
theorem se_ife (hd : PT X z (tTs c X W cf d)) (ha : PE X l (tV c X W cf a)) (hb : PE X r (tV c X W cf b)) : PE X (.IfExp z l r pos) (tV c X W cf (.ife d a b)) := by
  refine (pe_ifExp hd ha hb).weak fun σ H Q ⟨g, fr, S, rel, h⟩ => ⟨g, fr, S, rel, ?_⟩
  refine (Aft.bind rId_tmp h).imp fun x H1 ⟨t, fr1, S1, g1, k1, rel1, r1, t1, h1⟩ => ?_
  obtain ⟨_, rfl⟩ := r1
  cases t with
  | true => exact iteT ⟨g1, fr1, S1, rel1, h1⟩
  | false => exact iteF ⟨g1, fr1, S1, rel1, h1⟩

/-! ### lists of expressions -/
theorem sa_nil : PA X [] (tAs c X W cf .nil) := pa_nil.weak fun σ H Q ⟨g, fr, S, rel, h⟩ => h g H [] Keep.refl rel ⟨rfl, .nil⟩
theorem sa_cons {ms : Xs} {es : List Expr} (ha : PE X l (tV c X W cf a)) (hb : PA X es (tAs c X W cf ms)) (hp : pln l = true) : PA X (l :: es) (tAs c X W cf (.cons a ms)) := by
  refine (pa_cons (frzPE ha) hb (pln_star hp _)).weak fun σ H Q ⟨g, fr, S, rel, h⟩ => ⟨g, fr, S, rel, ?_⟩
  refine (Aft.bind rD_tmp h).imp fun x H1 ⟨d1, fr1, S1, g1, k1, rel1, r1, t1, h1⟩ => ⟨g1, fr1, S1, rel1, ?_⟩
  refine (Aft.bind rDs_tmp h1).imp fun y H2 ⟨d2, fr2, S2, g2, k2, rel2, r2, t2, h2⟩ => ?_
  exact h2 g2 H2 _ Keep.refl rel2 ⟨rfl, .cons (r1.2.mono k2.mono) r2.2⟩
theorem se_tup {ms : Xs} {es : List Expr} {k : Nat} (h : PA X es (tAs c X W cf ms)) : PE X (.Tuple es k pos) (tV c X W cf (.tup ms)) := by
  refine (pe_tup h).weak fun σ H Q ⟨g, fr, S, rel, h⟩ => ⟨g, fr, S, rel, ?_⟩
  refine (Aft.bind rDs_tmp h).imp fun x H1 ⟨ds, fr1, S1, g1, k1, rel1, r1, t1, h1⟩ => ?_
  by_cases hz : ds.length ≤ sizeLine
  · rw [if_pos hz] at h1
    exact ⟨by rw [← r1.2.length]; exact hz, fun p hp => fin_tup h1 rel1 r1.2 hp⟩
  · rw [if_neg hz] at h1
    exact h1.elim
theorem se_lst {ms : Xs} {es : List Expr} (h : PA X es (tAs c X W cf ms)) : PE X (.List es pos) (tV c X W cf (.lst ms)) := by
  refine (pe_lst h).weak fun σ H Q ⟨g, fr, S, rel, h⟩ => ⟨g, fr, S, rel, ?_⟩
  refine (Aft.bind rDs_tmp h).imp fun x H1 ⟨ds, fr1, S1, g1, k1, rel1, r1, t1, h1⟩ => ?_
  by_cases hz : ds.length ≤ sizeLine
  · rw [if_pos hz] at h1
    exact ⟨by rw [← r1.2.length]; exact hz, fun p hp => fin_lst h1 rel1 r1.2 hp⟩
  · rw [if_neg hz] at h1
    exact h1.elim
theorem se_sub (G : Good c X W cf) (ha : PE X l (tV c X W cf a)) (hb : PE X r (tV c X W cf b)) (hp : pln r = true) : PE X (.Subscript l r pos) (tV c X W cf (.sub a b)) := by
  refine (pe_ix (ix_sub (W := W) (hu_of' G)) (frzPE ha) (frzPE hb) (pln_sub hp)).weak fun σ H Q ⟨g, fr, S, rel, h⟩ => ⟨g, fr, S, rel, ?_⟩
  refine (Aft.bind rD_tmp h).imp fun x H1 ⟨d1, fr1, S1, g1, k1, rel1, r1, t1, h1⟩ => ⟨g1, fr1, S1, rel1, ?_⟩
  refine (Aft.bind rD_tmp h1).imp fun y H2 ⟨d2, fr2, S2, g2, k2, rel2, r2, t2, h2⟩ => ?_
  exact ⟨g2, fr2, S2, σ, _, _, rel2, vw_look rel2.st (r1.2.mono k2.mono), r2.2, h2⟩
theorem so_any {o : Option Expr} (h : o = none ∧ a = .omit ∨ ∃ x, o = some x ∧ a ≠ .omit ∧ PE X x (tV c X W cf a)) : PO X o (tX X.K X.mg W rId (evO a (ev cf c.gl a))) := by
  rcases h with ⟨rfl, rfl⟩ | ⟨x, rfl, hn, hx⟩
  · exact po_none.weak fun σ H Q ⟨g, fr, S, rel, h⟩ => h g H none Keep.refl rel ⟨rfl, rfl⟩
  · refine (po_some (frzPE hx)).weak fun σ H Q ⟨g, fr, S, rel, h⟩ => ⟨g, fr, S, rel, ?_⟩
    have h' : Aft X.K X.mg W rId g H σ ((frzX (ev cf c.gl a fr S)).bind fun x fr S => RX.lift ((optI x).map some) fr S) Q := by
      cases a <;> first | exact absurd rfl hn | exact h
    refine (Aft.bind rD_tmp h').imp fun x H1 ⟨d1, fr1, S1, g1, k1, rel1, r1, t1, h1⟩ => ?_
    cases d1 with
    | int i =>
      obtain rfl := RD.of_int r1.2
      exact ⟨i, rfl, h1 g1 H1 _ Keep.refl rel1 ⟨rfl, rfl⟩⟩
    | _ => exact h1.elim
theorem se_slice {lo hi : Xp} {ol oh : Option Expr} {p2 : Pos} (ha : PE X l (tV c X W cf a)) (hl : PO X ol (tX X.K X.mg W rId (evO lo (ev cf c.gl lo)))) (hh : PO X oh (tX X.K X.mg W rId (evO hi (ev cf c.gl hi)))) :
    PE X (.Subscript l (.Slice ol oh none p2) pos) (tV c X W cf (.slice a lo hi)) := by
  refine (pe_slice (sl_any (W := W)) (frzPE ha) hl hh).weak fun σ H Q ⟨g, fr, S, rel, h⟩ => ⟨g, fr, S, rel, ?_⟩
  refine (Aft.bind rD_tmp h).imp fun x H1 ⟨d1, fr1, S1, g1, k1, rel1, r1, t1, h1⟩ => ⟨g1, fr1, S1, rel1, ?_⟩
  refine (Aft.bind rId_tmp h1).imp fun y H2 ⟨d2, fr2, S2, g2, k2, rel2, r2, t2, h2⟩ => ⟨g2, fr2, S2, rel2, ?_⟩
  refine (Aft.bind rId_tmp h2).imp fun w H3 ⟨d3, fr3, S3, g3, k3, rel3, r3, t3, h3⟩ => ?_
  obtain ⟨_, rfl⟩ := r2
  obtain ⟨_, rfl⟩ := r3
  exact ⟨g3, fr3, S3, σ, _, rel3, vw_look rel3.st ((r1.2.mono k2.mono).mono k3.mono), h3⟩

/-! ### calls -/
/-- the caller's own objects are the callee's strangers -/
abbrev Gh.down (g : Gh) : Gh := ⟨g.rho, [], g.own ++ g.tmp⟩
theorem down_av {g : Gh} {x : Addr} : g.down.av x ↔ g.av x := by
  constructor
  · intro z
    rcases z with z | z | z
    · exact .inl z
    · exact nomatch z
    · rcases List.mem_append.mp z with z | z
      · exact .inr (.inl z)
      · exact .inr (.inr z)
  · intro z
    rcases z with z | z | z
    · exact .inl z
    · exact .inr (.inr (List.mem_append.mpr (.inl z)))
    · exact .inr (.inr (List.mem_append.mpr (.inr z)))
theorem mono_down {K : PySem.W.Frag} {g : Gh} {H : Hp} : Mono K g H g.down H := Mono.less (fun _ z => down_av.mp z) fun _ _ z => z
theorem Rel.down {K : PySem.W.Frag} {mg : Str → Option Value} {g : Gh} {fr : Frame} {S : Store} {σ : L2.St} {H : Hp} (r : Rel K mg g fr S σ H) : StR K mg g.down S H :=
  ⟨r.st.len, r.st.nd, fun n c a e q => (r.st.cell n c a e q).mono mono_down rfl, fun a z => ⟨fun w => (nomatch w), fun w => (List.mem_append.mp w).elim (r.st.rt a z).1 (r.st.rt a z).2⟩, fun a z => (nomatch z), fun a z => r.st.tr a (down_av.mp z)⟩
/-- back in the caller -/
theorem Rel.up {K : PySem.W.Frag} {mg : Str → Option Value} {g g' : Gh} {fr : Frame} {S S' : Store} {σ : L2.St} {H H' : Hp} {t : List Addr} (r : Rel K mg g fr S σ H) (k : Keep g.down H g' H') (st : StR K mg g' S' H') (e0 : g'.own = [])
    (et : g'.tmp = t ++ (g.own ++ g.tmp)) (nt : ∀ a ∈ t, a ∉ g.own ∧ a ∉ g.tmp) : Keep g H ⟨g'.rho, g.own, t ++ g.tmp⟩ H' ∧ Rel K mg ⟨g'.rho, g.own, t ++ g.tmp⟩ fr S' σ H' ∧ Mono K g' H' ⟨g'.rho, g.own, t ++ g.tmp⟩ H' := by
  have av1 : ∀ x, Gh.av ⟨g'.rho, g.own, t ++ g.tmp⟩ x → g'.av x := fun x z => by
    rcases z with z | z | z
    · exact .inl z
    · exact .inr (.inr (by rw [et]; exact List.mem_append.mpr (.inr (List.mem_append.mpr (.inl z)))))
    · rcases List.mem_append.mp z with z | z
      · exact .inr (.inr (by rw [et]; exact List.mem_append.mpr (.inl z)))
      · exact .inr (.inr (by rw [et]; exact List.mem_append.mpr (.inr (List.mem_append.mpr (.inr z)))))
  have m : Mono K g' H' ⟨g'.rho, g.own, t ++ g.tmp⟩ H' := Mono.less av1 fun _ _ z => z
  have kp : Keep g H ⟨g'.rho, g.own, t ++ g.tmp⟩ H' := by
    refine ⟨fun a o h h1 h2 => ?_, fun a o h h1 h2 z => ?_, k.tups, k.pre⟩
    · obtain ⟨q1, q2, q3⟩ := k.keep a o h h1 (fun w => nomatch w)
      exact ⟨q1, q2, h2⟩
    · rcases List.mem_append.mp z with w | w
      · have := k.tmp a o h h1 (fun w => nomatch w) (by rw [et]; exact List.mem_append.mpr (.inl w))
        rcases List.mem_append.mp this with y | y
        · exact absurd y (nt a w).1
        · exact y
      · exact w
  refine ⟨kp, ⟨r.len, fun i v e => ?_, r.apart, ⟨st.len, st.nd, fun n c a e q => (st.cell n c a e q).mono m rfl, fun a z => ⟨fun w => ?_, fun w => ?_⟩, fun a z w => ?_, fun a z => st.tr a (av1 a z)⟩⟩, m⟩
  · obtain ⟨x, e1, s⟩ := r.slot i v e
    refine ⟨x, e1, ?_⟩
    cases v with
    | fz d => exact RD.mono kp.mono s
    | own cl =>
      obtain ⟨a, e2, ha, hc⟩ := s
      refine ⟨a, e2, ha, hc.mono kp.mono ?_⟩
      obtain ⟨o, ho, _⟩ := hc.some_of
      rw [(k.keep a o ho (fun w => (r.st.rt a w).1 ha) (fun w => nomatch w)).1, ho]
  · exact (st.rt a z).2 (by rw [et]; exact List.mem_append.mpr (.inr (List.mem_append.mpr (.inl w))))
  · refine (st.rt a z).2 ?_
    rw [et]
    rcases List.mem_append.mp w with w | w
    · exact List.mem_append.mpr (.inl w)
    · exact List.mem_append.mpr (.inr (List.mem_append.mpr (.inr w)))
  · rcases List.mem_append.mp w with w | w
    · exact (nt a w).1 z
    · exact r.st.ot a z w
theorem XR.mono {K : PySem.W.Frag} {mg : Str → Option Value} {g g' : Gh} {H : Hp} {e : Ex} {cl : Value} {d : Option Addr} (m : Mono K g H g' H) (h : XR K mg g H e cl d) : XR K mg g' H e cl d := by
  obtain ⟨h1, vs, h2, h3, h4⟩ := h
  exact ⟨h1, vs, h2.mono m, h3, h4⟩
/-- the promise of a call, from what is wanted behind it -/
theorem call_sp {g : Gh} {fr : Frame} {S : Store} {σ : L2.St} {H : Hp} {Q : VK} {m : List D → Store → RC} {ds : List D} {vs : List V} {ar : Nat} (rel : Rel X.K X.mg g fr S σ H) (r : RDs X.K g H ds vs) (hl : ds.length ≠ ar → m ds S = .no)
    (h : Aft X.K X.mg W (rV X.K X.mg) g H σ ((m ds S).back fr) Q) : spC X.K X.mg m ar vs H Q (WE W σ) := by
  have hlen : vs.length = ar := by
    by_cases e : ds.length = ar
    · rw [← r.length]; exact e
    · rw [hl e] at h; exact h.elim
  refine ⟨hlen, g.down, S, ds, rfl, rel.down, r.mono mono_down, ?_⟩
  cases e : m ds S with
  | no => rw [e] at h; exact h
  | ok v S' =>
    rw [e] at h
    intro g' H' x k e0 st rv
    cases v with
    | fz d =>
      obtain ⟨et, rd⟩ := rv
      obtain ⟨k', rel', m'⟩ := rel.up (t := []) k st e0 et (fun _ z => nomatch z)
      exact h _ H' x k' rel' ⟨rfl, rd.mono m'⟩
    | own cl =>
      obtain ⟨a, rfl, et, na, hc⟩ := rv
      obtain ⟨k', rel', m'⟩ := rel.up (t := [a]) k st e0 et (fun b z => by
        obtain rfl : b = a := List.mem_singleton.mp z
        exact ⟨fun w => na (List.mem_append.mpr (.inl w)), fun w => na (List.mem_append.mpr (.inr w))⟩)
      exact h _ H' _ k' rel' ⟨a, rfl, rfl, fun w => na (List.mem_append.mpr (.inr w)), hc.mono m' rfl⟩
  | ex e' S' =>
    rw [e] at h
    intro g' H' cl d k e0 st et xr
    obtain ⟨k', rel', m'⟩ := rel.up (t := []) k st e0 et (fun _ z => nomatch z)
    exact h _ H' cl d k' rel' rfl (xr.mono m')
/-- f(e, ..), f a def of the program -/
theorem pe_callG {n : Nat} {fa : Addr} {fd : FuncData} {qs : List Str} {sp : Sp} {U : L2.St → XK} {x : Str} {p pos : Pos} {y : Expr} {ys : List Expr} {t : TA} (F : FnG X.prog X.w X.K X.mg X.base n fa fd qs sp) (hq : X.A.guards = some []) (hr : Room n X.A) (g1 : Gl X x)
    (hm : X.mg x = some (.ref fa)) (hk : PySem.W.keepIn X.K (.ref fa) = true) (hb : Binds X.K fd qs []) (hx : ∀ σ, PassesAt (L2.CX X.prog X.w) X σ (U σ)) (ha : PA X (y :: ys) t) (g2 : (x == ("__debug__" : Str)) = false)
    (h1 : starEach (y :: ys) X.env = (false, eval y X.env) :: starEach ys X.env) (h2 : (backTo pos (starEach ys X.env)).any (·.1) = false) :
    PE X (.Call (.Name x p) (y :: ys) [] pos) (fun σ H Q => t σ H fun xs H1 => sp xs H1 Q (U σ)) := by
  refine ⟨fun pn s σ H Q I h => wpAny_Call_Name_kw (ld_glob I g1 hm (PySem.W.callWith_K (h₀ := X.base) I.ok.mod.kin hk (thn (ha.run pos pn s σ H _ I h) fun us s1 q => ?_) h1 h2) g2)⟩
  obtain ⟨xs, H1, J, rx, hs⟩ := q
  refine ⟨J.kIn, ?_⟩
  have hl : us.length = qs.length := rx.length.symm.trans (F.ar _ _ _ _ hs)
  have hbb := hb s1 us J.kIn (by rw [List.append_nil]; exact hl)
  rw [List.append_nil] at hbb
  refine wpAny_call (codeAny_mono (F.go X.A X.stack s1 H1 ⟨us, []⟩ us xs Q (U σ) hq hr J.env0 hbb rx hs) fun r s2 z => ?_)
  match r, z with
  | .error e, z => exact hx σ pn H1 s1 e s2 J z
  | .ok (.ret u), z => exact J.after z
  | .ok .next, z => exact z.elim
  | .ok .brk, z => exact z.elim
  | .ok .cont, z => exact z.elim
theorem se_call (G : Good c X W cf) {f : Str} {ms : Xs} {y : Expr} {ys : List Expr} {p : Pos} (hf : c.fs.contains f = true) (hg : glB c f = true) (ha : PA X (y :: ys) (tAs c X W cf ms)) (hc : chks ms c (y :: ys) = true) :
    PE X (.Call (.Name f p) (y :: ys) [] pos) (tV c X W cf (.call f ms)) := by
  obtain ⟨k, a, fd, ps, F, hr, hm, hk, hb, hl⟩ := G.fn f hf
  obtain ⟨g1, g2⟩ := G.glob hg
  have hy : pln y = true := by
    cases ms with
    | nil => exact nomatch hc
    | cons m ms =>
      have h' : (pln y && chk c m y && chks ms c ys) = true := hc
      rw [Bool.and_eq_true, Bool.and_eq_true] at h'
      exact h'.1.1
  have hys : (backTo pos (starEach ys X.env)).any (·.1) = false := by
    cases ms with
    | nil => exact nomatch hc
    | cons m ms =>
      have h' : (pln y && chk c m y && chks ms c ys) = true := hc
      rw [Bool.and_eq_true, Bool.and_eq_true] at h'
      exact chks_plain ms ys h'.2 _ _
  refine (pe_callG F G.gd hr g1 hm hk hb (fun σ => passAt G.tk σ) ha g2 (pln_star hy _) hys).weak fun σ H Q ⟨g, fr, S, rel, h⟩ => ⟨g, fr, S, rel, ?_⟩
  refine (Aft.bind rDs_tmp h).imp fun x H1 ⟨ds, fr1, S1, g1, k1, rel1, r1, t1, h1⟩ => ?_
  exact call_sp rel1 r1.2 (hl ds S1) h1
end
end Eng
end

section
/-! The engine, part I: built-ins called, names with own objects, targets, tests. -/
namespace Eng
open PySem PySem.Spec PyProof.Rows L2
section
variable {c : SC} {X : Cx} {W : WX} {cf : CF} {pos : Pos} {a b d : Xp} {l r z : Expr}

theorem FK.mem (k : FK) : k.name ∈ bltNames := by cases k <;> decide +kernel
theorem FK.ne (k : FK) : k.name ≠ "__name__" := by cases k <;> decide +kernel
theorem FK.boot (k : FK) : bootBuiltins k.name = some k.val := by cases k <;> decide +kernel
theorem chks_cons {ms : Xs} {y : Expr} {ys : List Expr} (hc : chks ms c (y :: ys) = true) (env : Env) (pos : Pos) : pln y = true ∧ (backTo pos (starEach ys env)).any (·.1) = false := by
  cases ms with
  | nil => exact nomatch hc
  | cons m ms =>
    have h' : (pln y && chk c m y && chks ms c ys) = true := hc
    rw [Bool.and_eq_true, Bool.and_eq_true] at h'
    exact ⟨h'.1.1, chks_plain ms ys h'.2 _ _⟩
/-- a built-in by name, its arguments read as t -/
theorem pe_fk (G : Good c X W cf) (k : FK) {y : Expr} {ys : List Expr} {p : Pos} {t : TA} (hg : glB c k.name = true) (ha : PA X (y :: ys) t) (hy : pln y = true) (hys : (backTo pos (starEach ys X.env)).any (·.1) = false) :
    PE X (.Call (.Name k.name p) (y :: ys) [] pos) (tCB (rBlt X W k) t) := by
  obtain ⟨g1, g2⟩ := G.glob hg
  have hm := G.blt _ k.mem
  have hb := k.boot
  have hc := call_blt (W := W) G.calm G.gd G.un k
  have hn := k.ne
  cases k with
  | len => exact pe_callB hc g1 hm hb ha hn g2 (pln_star hy _) hys
  | all => exact pe_callB hc g1 hm hb ha hn g2 (pln_star hy _) hys
  | any => exact pe_callB hc g1 hm hb ha hn g2 (pln_star hy _) hys
  | sum => exact pe_callB hc g1 hm hb ha hn g2 (pln_star hy _) hys
  | tuple => exact pe_callTy hc g1 hm hb ha hn g2 (pln_star hy _) hys
  | list => exact pe_callTy hc g1 hm hb ha hn g2 (pln_star hy _) hys
  | int => exact pe_callTy hc g1 hm hb ha hn g2 (pln_star hy _) hys
  | max2 => exact pe_callB hc g1 hm hb ha hn g2 (pln_star hy _) hys
  | min2 => exact pe_callB hc g1 hm hb ha hn g2 (pln_star hy _) hys
  | repr => exact pe_callB hc g1 hm hb ha hn g2 (pln_star hy _) hys
  | sorted => exact pe_callB hc g1 hm hb ha hn g2 (pln_star hy _) hys
theorem se_blt (G : Good c X W cf) (k : FK) {ms : Xs} {y : Expr} {ys : List Expr} {p : Pos} (hg : glB c k.name = true) (ha : PA X (y :: ys) (tAs c X W cf ms)) (hc : chks ms c (y :: ys) = true) :
    PE X (.Call (.Name k.name p) (y :: ys) [] pos) (tV c X W cf (.blt k ms)) := by
  obtain ⟨h1, h2⟩ := chks_cons hc X.env pos
  refine (pe_fk G k hg ha h1 h2).weak fun σ H Q ⟨g, fr, S, rel, h⟩ => ⟨g, fr, S, rel, ?_⟩
  refine (Aft.bind rDs_tmp h).imp fun x H1 ⟨ds, fr1, S1, g1, k1, rel1, r1, t1, h1⟩ => ?_
  exact ⟨g1, fr1, S1, σ, _, rel1, vws_look rel1.st r1.2, h1⟩
theorem TK.mem (k : TK) : k.name ∈ bltNames := by cases k <;> decide +kernel
theorem TK.ne (k : TK) : k.name ≠ "__name__" := by cases k <;> decide +kernel
theorem TK.boot (k : TK) : bootBuiltins k.name = some (.type k.tyn) := by cases k <;> decide +kernel
theorem se_isi (G : Good c X W cf) (t : TK) {p p2 : Pos} (hg : glB c "isinstance" = true) (hz : glB c t.name = true) (ha : PE X l (tV c X W cf a)) (hp : pln l = true) :
    PE X (.Call (.Name "isinstance" p) [l, .Name t.name p2] [] pos) (tV c X W cf (.isi t a)) := by
  obtain ⟨g1, g2⟩ := G.glob hg
  obtain ⟨z1, z2⟩ := G.glob hz
  have hn : PE X (.Name t.name p2) (tC (.ty t.tyn)) := pe_bltn z1 (G.blt _ t.mem) t.boot rfl t.ne z2
  refine (pe_callB call_isi g1 (G.blt _ (by decide +kernel)) (by decide +kernel) (pa_cons (frzPE ha) (pa_cons hn pa_nil rfl) (pln_star hp _)) (by decide +kernel) g2 (pln_star hp _) rfl).weak fun σ H Q ⟨g, fr, S, rel, h⟩ => ⟨g, fr, S, rel, ?_⟩
  refine (Aft.bind rD_tmp h).imp fun x H1 ⟨d1, fr1, S1, g1, k1, rel1, r1, t1, h1⟩ => ?_
  cases e : isD t d1 with
  | none => rw [e] at h1; exact h1.elim
  | some k =>
    rw [e] at h1
    obtain ⟨ty, h2, h3⟩ := tyx_of r1.2 e
    exact ⟨x, _, _, _, k, rfl, .ty _, h2, kit_ty h3, fin_old h1 rel1 (.bl _)⟩

/-! ### names that hold own objects -/
theorem peek_rel {K : PySem.W.Frag} {mg : Str → Option Value} {g : Gh} {fr : Frame} {S : Store} {σ : L2.St} {H : Hp} {i : Nat} {d : D} (rel : Rel K mg g fr S σ H) (e : peek i fr S = some d) : ∃ x, σ[i]? = some (some x) ∧ Vw K g H x d := by
  unfold peek at e
  cases q : fr[i]? with
  | none => rw [q] at e; cases e
  | some o =>
    rw [q] at e
    cases o with
    | none => cases e
    | some v =>
      cases v with
      | fz d' =>
        obtain ⟨x, h1, h2⟩ := rel.slot i _ q
        cases e
        exact ⟨x, h1, vw_look rel.st h2⟩
      | own cl =>
        obtain ⟨x, h1, p, rfl, h2, h3⟩ := rel.slot i _ q
        exact ⟨_, h1, vw_cell h3 e⟩
theorem se_bltv (G : Good c X W cf) (k : FK) {i : Nat} {y : Str} {p p2 : Pos} (hg : glB c k.name = true) (hv : visB c i y = true) : PE X (.Call (.Name k.name p) [.Name y p2] [] pos) (tV c X W cf (.bltv k i)) := by
  obtain ⟨h1, h2, h3, h4⟩ := G.vis hv
  refine (pe_fk G k hg (pa_cons (pe_var h1 h2 h3 h4) pa_nil rfl) rfl rfl).weak fun σ H Q ⟨g, fr, S, rel, h⟩ => ?_
  have h' : Aft X.K X.mg W (rV X.K X.mg) g H σ (RX.lift ((peek i fr S).bind fun d => bltD k [d]) fr S) Q := h
  cases e : peek i fr S with
  | none => rw [e] at h'; exact h'.elim
  | some d =>
    rw [e] at h'
    obtain ⟨p, e1, v⟩ := peek_rel rel e
    exact ⟨_, e1, g, fr, S, σ, [d], rel, .cons v .nil, h'⟩
theorem se_subv (G : Good c X W cf) {i : Nat} {y : Str} {p : Pos} (hv : visB c i y = true) (hb : PE X r (tV c X W cf b)) (hp : pln r = true) : PE X (.Subscript (.Name y p) r pos) (tV c X W cf (.subv i b)) := by
  obtain ⟨h1, h2, h3, h4⟩ := G.vis hv
  refine (pe_ix (ix_sub (W := W) (hu_of' G)) (pe_var h1 h2 h3 h4) (frzPE hb) (pln_sub hp)).weak fun σ H Q ⟨g, fr, S, rel, h⟩ => ?_
  have h' : Aft X.K X.mg W (rV X.K X.mg) g H σ (if (peek i fr S).isSome then (frzX (ev cf c.gl b fr S)).bind fun y fr S => RX.lift ((peek i fr S).bind fun d => (subD d y).map Val.fz) fr S else .no) Q := h
  cases e : peek i fr S with
  | none => rw [e] at h'; exact h'.elim
  | some d0 =>
    rw [e] at h'
    obtain ⟨q, e1, _⟩ := peek_rel rel e
    refine ⟨_, e1, g, fr, S, rel, ?_⟩
    refine (Aft.bind rD_tmp h').imp fun x H1 ⟨d1, fr1, S1, g1, k1, rel1, r1, t1, h1⟩ => ?_
    cases e' : peek i fr1 S1 with
    | none => rw [e'] at h1; exact h1.elim
    | some d2 =>
      rw [e'] at h1
      obtain ⟨q', e2, v⟩ := peek_rel rel1 e'
      rw [e1] at e2; cases e2
      exact ⟨g1, fr1, S1, σ, d2, d1, rel1, v, r1.2, h1⟩
theorem wk_cmpv (k : CK) {i : Nat} : ∀ σ H Q, tV c X W cf (.cmpv k a i) σ H Q → tOp (rCmp X W k) (tF c X W cf a) (tVar i) σ H Q := fun σ H Q ⟨g, fr, S, rel, h⟩ => by
  refine ⟨g, fr, S, rel, ?_⟩
  refine (Aft.bind rD_tmp h).imp fun x H1 ⟨d1, fr1, S1, g1, k1, rel1, r1, t1, h1⟩ => ?_
  cases e' : peek i fr1 S1 with
  | none => rw [e'] at h1; exact h1.elim
  | some d2 =>
    rw [e'] at h1
    obtain ⟨q', e2, v⟩ := peek_rel rel1 e'
    exact ⟨_, e2, g1, fr1, S1, σ, look S1 d1, d2, rel1, vw_look rel1.st r1.2, v, h1⟩
theorem se_cmpv (G : Good c X W cf) (k : CK) {i : Nat} {y : Str} {p : Pos} (hv : visB c i y = true) (ha : PE X l (tV c X W cf a)) : PE X (.Compare l [k.op] [.Name y p] pos) (tV c X W cf (.cmpv k a i)) := by
  obtain ⟨h1, h2, h3, h4⟩ := G.vis hv
  exact (pe_cmpR (op_cmp (W := W) (hu_of' G) k) (frzPE ha) (pe_var h1 h2 h3 h4) rfl).weak (wk_cmpv k)
theorem ixN_bounds {n : Nat} {i : Int} {j : Nat} (hn : n ≤ sizeLine) (h : ixN n i = some j) : -(2 ^ 63) ≤ i ∧ i < 2 ^ 63 ∧ seqIndex? i n = some j := by
  obtain ⟨h1, h2, h3, h4⟩ := ixN_seq h
  have : sizeLine = 16777216 := rfl
  refine ⟨?_, ?_, h1⟩
  · have : (n : Int) ≤ 16777216 := by omega
    omega
  · have : (n : Int) ≤ 16777216 := by omega
    omega
theorem se_popv (G : Good c X W cf) {i : Nat} {y : Str} {p ap : Pos} (hv : visB c i y = true) (hb : PE X r (tV c X W cf b)) (hp : pln r = true) (hline : (ap.endLine == pos.line) = true) : PE X (.Call (.Attribute (.Name y p) "pop" ap) [r] [] pos) (tV c X W cf (.popv i b)) := by
  obtain ⟨h1, h2, h3, h4⟩ := G.vis hv
  have hfew : ((backTo pos (starEach [r] X.env)).all (fun x => !x.1) && (backToKw pos (keywordEach [] X.env)).all (fun x => x.1.isSome)
      && decide (([r] : List Expr).length + ([] : List Keyword).length + (if ([] : List Keyword).isEmpty then 0 else 1) < 30)) = true := by
    rw [pln_star hp]; rfl
  refine (pe_bm PySem.F.plainAttrs_list PySem.F.slot_list_pop PySem.F.type_list_pop mt_popAt (pe_var h1 h2 h3 h4) (pa_cons (frzPE hb) pa_nil (pln_star hp _)) rfl hfew hline (pln_star hp _) rfl).weak fun σ H Q ⟨g, fr, S, rel, h⟩ => ?_
  have h' : Aft X.K X.mg W (rV X.K X.mg) g H σ (if ownL i fr then (frzX (ev cf c.gl b fr S)).bind fun y fr S => popX i y fr S else .no) Q := h
  have own_of : ∀ {fr : Frame}, ownL i fr = true → ∃ xs, fr[i]? = some (some (.own (.lst xs))) := fun {fr} e => by
    unfold ownL at e
    split at e
    · rename_i xs q; exact ⟨xs, q⟩
    · cases e
  by_cases ho : ownL i fr = true
  · rw [if_pos ho] at h'
    obtain ⟨xs, q⟩ := own_of ho
    obtain ⟨x, e1, a1, rfl, ha1, vs, hv1, rv1⟩ := rel.slot i _ q
    refine ⟨_, e1, .inl ⟨rfl, vs, SqL.of hv1⟩, g, fr, S, rel, ?_⟩
    refine (Aft.bind rD_tmp h').imp fun x H1 ⟨d1, fr1, S1, g1, k1, rel1, r1, t1, h1⟩ => ?_
    have h1' : Aft X.K X.mg W (rV X.K X.mg) g1 H1 σ (popX i d1 fr1 S1) Q := h1
    unfold popX at h1'
    split at h1'
    · rename_i ys k q1
      obtain rfl := RD.of_int r1.2
      obtain ⟨x2, e2, a2, rfl, ha2, ws, hv2, rv2⟩ := rel1.slot i _ q1
      rw [e1] at e2; cases e2
      cases q2 : ixN ys.length k with
      | none => rw [q2] at h1'; exact h1'.elim
      | some j =>
        rw [q2] at h1'
        dsimp only at h1'
        cases q3 : ys[j]? with
        | none => rw [q3] at h1'; exact h1'.elim
        | some d =>
          rw [q3] at h1'
          dsimp only at h1'
          by_cases hz : ys.length ≤ sizeLine
          · rw [if_pos hz] at h1'
            obtain ⟨w, q4, rw4⟩ := rv2.get q3
            obtain ⟨kp, rl⟩ := rel1.mut (c' := .lst (ys.eraseIdx j)) (o := .lst (ws.eraseIdx j)) q1 e1 (fun g2 H2 m hh => ⟨_, hh, (rv2.mono m).eraseIdx j⟩)
            obtain ⟨b1, b2, b3⟩ := ixN_bounds hz q2
            rw [rv2.length] at b3
            exact ⟨a1, ws, k, j, w, rfl, rfl, hv2, b1, b2, b3, q4, h1' g1 _ w kp rl ⟨rfl, rw4.mono (show Mono X.K g1 H1 g1 _ from kp.mono)⟩⟩
          · rw [if_neg hz] at h1'; exact h1'.elim
    · exact h1'.elim
  · rw [if_neg ho] at h'; exact h'.elim

theorem se_share (ha : PE X l (tV c X W cf a)) : PE X l (tV c X W cf (.share a)) := by
  refine ha.weak fun σ H Q ⟨g, fr, S, rel, h⟩ => ⟨g, fr, S, rel, ?_⟩
  have h' : Aft X.K X.mg W (rV X.K X.mg) g H σ ((ev cf c.gl a fr S).bind fun v fr S => match v with | .own c => .ok (.fz (.ref S.length)) fr (S ++ [c]) | _ => .no) Q := h
  cases e : ev cf c.gl a fr S with
  | no => rw [e] at h'; exact h'
  | ex x fr1 S1 => rw [e] at h'; exact h'
  | ok v fr1 S1 =>
    rw [e] at h'
    cases v with
    | fz d => exact h'.elim
    | own cl =>
      intro g' H' x k rel' rv
      obtain ⟨p, rfl, ht, na, hc⟩ := rv
      refine h' ⟨g'.rho ++ [p], g'.own, g.tmp⟩ H' (.ref p) (keep_share ht na rfl k) (rel'.share ht na hc) ⟨rfl, .ref ?_⟩
      show (g'.rho ++ [p])[S1.length]? = some p
      rw [List.getElem?_append_right (by rw [rel'.st.len]; exact Nat.le_refl _), rel'.st.len]
      simp
theorem rg_rel {K : PySem.W.Frag} {g : Gh} {H : Hp} (i j : Int) : RDs K g H (rgD i j) (rgV i j) := by
  unfold rgD rgV
  induction (List.range (j - i).toNat) with
  | nil => exact .nil
  | cons n ns ih => exact .cons (.int _) ih
theorem rgOk_of {i j : Int} (h : rgOk i j = true) : -(2 ^ 62) ≤ i ∧ i < 2 ^ 62 ∧ -(2 ^ 62) ≤ j ∧ j < 2 ^ 62 := of_decide_eq_true h
theorem se_listrg (G : Good c X W cf) {p p2 p3 : Pos} (hl : glB c "list" = true) (hr : glB c "range" = true) (hb : PE X r (tV c X W cf b)) (hp : pln r = true) :
    PE X (.Call (.Name "list" p) [.Call (.Name "range" p2) [r] [] p3] [] pos) (tV c X W cf (.listrg b)) := by
  obtain ⟨g1, g2⟩ := G.glob hl
  obtain ⟨z1, z2⟩ := G.glob hr
  refine (pe_listRg G.calm g1 (G.blt _ (by decide +kernel)) (prg_1 z1 (G.blt _ (by decide +kernel)) (frzPE hb) (pln_star hp _)) rfl).weak fun σ H Q ⟨g, fr, S, rel, h⟩ => ⟨g, fr, S, rel, ?_⟩
  refine (Aft.bind rD_tmp h).imp fun x H1 ⟨d1, fr1, S1, g1, k1, rel1, r1, t1, h1⟩ => ?_
  cases d1 with
  | int j =>
    obtain rfl := RD.of_int r1.2
    have h1' : Aft X.K X.mg W (rV X.K X.mg) g1 H1 σ (if rgOk 0 j = true ∧ j.toNat ≤ 2 ^ 24 then .ok (.own (.lst (rgD 0 j))) fr1 S1 else .no) Q := h1
    by_cases hc : rgOk 0 j = true ∧ j.toNat ≤ 2 ^ 24
    · rw [if_pos hc] at h1'
      obtain ⟨b1, b2, b3, b4⟩ := rgOk_of hc.1
      exact ⟨j, rfl, ⟨b1, b2, b3, b4, by rw [Int.sub_zero]; exact hc.2⟩, fun q hq => fin_lst h1' rel1 (rg_rel 0 j) hq⟩
    · rw [if_neg hc] at h1'; exact h1'.elim
  | _ => exact h1.elim

theorem se_lenset (G : Good c X W cf) {p p2 p3 : Pos} (hl : glB c "len" = true) (hr : glB c "set" = true) (hb : PE X r (tV c X W cf b)) (hp : pln r = true) :
    PE X (.Call (.Name "len" p) [.Call (.Name "set" p2) [r] [] p3] [] pos) (tV c X W cf (.lenset b)) := by
  obtain ⟨g1, g2⟩ := G.glob hl
  obtain ⟨z1, z2⟩ := G.glob hr
  refine (RZ.pe_lenSetI g1 (G.blt _ (by decide +kernel)) z1 (G.blt _ (by decide +kernel)) (frzPE hb) G.calm (pln_star hp _)).weak fun σ H Q ⟨g, fr, S, rel, h⟩ => ⟨g, fr, S, rel, ?_⟩
  refine (Aft.bind rD_tmp h).imp fun x H1 ⟨d1, fr1, S1, g1, k1, rel1, r1, t1, h1⟩ => ?_
  cases d1 with
  | lst ys =>
    obtain ⟨q, vs, rfl, h2, _, h3⟩ := r1.2.tracked_lst
    have h1' : Aft X.K X.mg W (rV X.K X.mg) g1 H1 σ (RX.lift ((intL ys).bind fun ns => if ns.Nodup ∧ ns.length ≤ 4000 then some (.fz (.int ns.length)) else none) fr1 S1) Q := h1
    cases q1 : intL ys with
    | none => rw [q1] at h1'; exact h1'.elim
    | some ns =>
      rw [q1] at h1'
      obtain rfl := intL_rel h3 q1
      by_cases hc : ns.Nodup ∧ ns.length ≤ 4000
      · have h4 : Aft X.K X.mg W (rV X.K X.mg) g1 H1 σ (RX.lift (if ns.Nodup ∧ ns.length ≤ 4000 then some (.fz (.int ns.length)) else none) fr1 S1) Q := h1'
        rw [if_pos hc] at h4
        exact ⟨q, ns, rfl, SqL.of h2, hc.1, hc.2, fin_old h4 rel1 (.int _)⟩
      · have h4 : Aft X.K X.mg W (rV X.K X.mg) g1 H1 σ (RX.lift (if ns.Nodup ∧ ns.length ≤ 4000 then some (.fz (.int ns.length)) else none) fr1 S1) Q := h1'
        rw [if_neg hc] at h4
        exact h4.elim
  | _ => exact h1.elim

/-! ### tests -/
theorem st_truth (he : ∀ whole, isTrue l X.env whole = (do let v ← whole; standAt l.pos; holding [v] (truthy v))) (ha : PE X l (tV c X W cf a)) : PT X l (tX X.K X.mg W rId (tru (ev cf c.gl a))) := by
  refine (pt_truth (frzPE ha) he).weak fun σ H Q ⟨g, fr, S, rel, h⟩ => ⟨g, fr, S, rel, ?_⟩
  refine (Aft.bind rD_tmp h).imp fun x H1 ⟨d1, fr1, S1, g1, k1, rel1, r1, t1, h1⟩ => ?_
  cases e : truD (look S1 d1) with
  | none => rw [e] at h1; exact h1.elim
  | some k =>
    rw [e] at h1
    exact ⟨k, truV_of (vw_look rel1.st r1.2) e, h1 g1 H1 k Keep.refl rel1 ⟨rfl, rfl⟩⟩
/-- a value that is always a truth, as a test -/
theorem bool_res {f : Frame → Store → RX Val} (hf : ∀ fr S v fr' S', f fr S = .ok v fr' S' → ∃ k, v = .fz (.bl k)) {g : Gh} {fr : Frame} {S : Store} {σ : L2.St} {H : Hp} {Q : Bool → Hp → Prop} (h : Aft X.K X.mg W rId g H σ (tru f fr S) Q) :
    Aft X.K X.mg W (rV X.K X.mg) g H σ (f fr S) (fun x H' => ∃ k, x = .bl k ∧ Q k H') := by
  unfold tru at h
  cases e : f fr S with
  | no => rw [e] at h; exact h
  | ex x fr1 S1 => rw [e] at h; exact h
  | ok v fr1 S1 =>
    rw [e] at h
    obtain ⟨k, rfl⟩ := hf _ _ _ _ _ e
    intro g' H' x kp rel' rv
    obtain rfl := RD.of_bl rv.2
    exact ⟨k, rfl, h g' H' k kp rel' ⟨rv.1, rfl⟩⟩
theorem bind_ok {α β : Type} {r : RX α} {k : α → Frame → Store → RX β} {v : β} {fr : Frame} {S : Store} (h : r.bind k = .ok v fr S) : ∃ a fr1 S1, r = .ok a fr1 S1 ∧ k a fr1 S1 = .ok v fr S := by
  cases r with
  | ok a fr1 S1 => exact ⟨a, fr1, S1, rfl, h⟩
  | ex e f s => cases h
  | no => cases h
theorem lift_ok {α : Type} {o : Option α} {fr fr' : Frame} {S S' : Store} {v : α} (h : RX.lift o fr S = .ok v fr' S') : o = some v := by
  cases o with
  | none => cases h
  | some a => cases h; rfl
theorem map_bl {o : Option Bool} {v : Val} (h : (o.map fun r => Val.fz (.bl r)) = some v) : ∃ k, v = .fz (.bl k) := by
  cases o with
  | none => cases h
  | some k => exact ⟨k, (Option.some.inj h).symm⟩
theorem st_cmp (G : Good c X W cf) (k : CK) (ha : PE X l (tV c X W cf a)) (hb : PE X r (tV c X W cf b)) (hp : pln r = true) : PT X (.Compare l [k.op] [r] pos) (tTs c X W cf (.cmp k a b)) := by
  refine (pt_cmpR (op_cmp (W := W) (hu_of' G) k) (frzPE ha) (frzPE hb) (pln_in hp _)).weak fun σ H Q ⟨g, fr, S, rel, h⟩ => ?_
  refine wk_cmp k σ H _ ⟨g, fr, S, rel, bool_res (fun fr S v fr' S' e => ?_) h⟩
  obtain ⟨x, f1, s1, _, e⟩ := bind_ok e
  obtain ⟨y, f2, s2, _, e⟩ := bind_ok e
  exact map_bl (lift_ok e)
theorem st_cmpv (G : Good c X W cf) (k : CK) {i : Nat} {y : Str} {p : Pos} (hv : visB c i y = true) (ha : PE X l (tV c X W cf a)) : PT X (.Compare l [k.op] [.Name y p] pos) (tTs c X W cf (.cmpv k a i)) := by
  obtain ⟨h1, h2, h3, h4⟩ := G.vis hv
  refine (pt_cmpR (op_cmp (W := W) (hu_of' G) k) (frzPE ha) (pe_var h1 h2 h3 h4) rfl).weak fun σ H Q ⟨g, fr, S, rel, h⟩ => ?_
  refine wk_cmpv k σ H _ ⟨g, fr, S, rel, bool_res (fun fr S v fr' S' e => ?_) h⟩
  obtain ⟨x, f1, s1, _, e⟩ := bind_ok e
  have e' := lift_ok e
  cases q : peek i f1 s1 with
  | none => rw [q] at e'; cases e'
  | some d => rw [q] at e'; exact map_bl e'
theorem st_chain (G : Good c X W cf) (k m : CK) (ha : PE X l (tV c X W cf a)) (hb : PE X r (tV c X W cf b)) (hd : PE X z (tV c X W cf d)) (hp : pln z = true) : PT X (.Compare l [k.op, m.op] [r, z] pos) (tTs c X W cf (.chain k m a b d)) := by
  refine (pt_chain (op_cmp (W := W) (hu_of' G) k) (op_cmp (W := W) (hu_of' G) m) (frzPE ha) (frzPE hb) (frzPE hd) (pln_last hp _ _ _)).weak fun σ H Q ⟨g, fr, S, rel, h⟩ => ?_
  refine wk_chain k m σ H _ ⟨g, fr, S, rel, bool_res (fun fr S v fr' S' e => ?_) h⟩
  obtain ⟨x, f1, s1, _, e⟩ := bind_ok e
  obtain ⟨y, f2, s2, _, e⟩ := bind_ok e
  cases q : cmpD k (look s2 x) (look s2 y) with
  | none => rw [q] at e; cases e
  | some t =>
    rw [q] at e
    cases t with
    | true =>
      obtain ⟨w, f3, s3, _, e⟩ := bind_ok e
      exact map_bl (lift_ok e)
    | false => cases e; exact ⟨false, rfl⟩
theorem st_not (ha : PT X l (tTs c X W cf a)) : PT X (.UnaryOp .Not l pos) (tTs c X W cf (.not a)) := by
  refine (pt_not ha).weak fun σ H Q ⟨g, fr, S, rel, h⟩ => ⟨g, fr, S, rel, ?_⟩
  refine (Aft.bind rId_tmp h).imp fun x H1 ⟨t, fr1, S1, g1, k1, rel1, r1, t1, h1⟩ => ?_
  obtain ⟨_, rfl⟩ := r1
  exact h1 g1 H1 _ Keep.refl rel1 ⟨rfl, rfl⟩
theorem wkt_and : ∀ σ H Q, tTs c X W cf (.and a b) σ H Q → tAnd (tTs c X W cf a) (tTs c X W cf b) σ H Q := fun σ H Q ⟨g, fr, S, rel, h⟩ => by
  refine ⟨g, fr, S, rel, ?_⟩
  refine (Aft.bind rId_tmp h).imp fun x H1 ⟨t, fr1, S1, g1, k1, rel1, r1, t1, h1⟩ => ?_
  obtain ⟨_, rfl⟩ := r1
  cases t with
  | true => exact iteT ⟨g1, fr1, S1, rel1, h1⟩
  | false => exact iteF (h1 g1 H1 _ Keep.refl rel1 ⟨rfl, rfl⟩)
theorem wkt_or : ∀ σ H Q, tTs c X W cf (.or a b) σ H Q → tOr (tTs c X W cf a) (tTs c X W cf b) σ H Q := fun σ H Q ⟨g, fr, S, rel, h⟩ => by
  refine ⟨g, fr, S, rel, ?_⟩
  refine (Aft.bind rId_tmp h).imp fun x H1 ⟨t, fr1, S1, g1, k1, rel1, r1, t1, h1⟩ => ?_
  obtain ⟨_, rfl⟩ := r1
  cases t with
  | true => exact iteT (h1 g1 H1 _ Keep.refl rel1 ⟨rfl, rfl⟩)
  | false => exact iteF ⟨g1, fr1, S1, rel1, h1⟩
theorem pw_of {op : BoolOp} {vs : List Expr} {t : TT} (h : PT X (.BoolOp op vs pos) t) : PW X (.BoolOp op vs pos) t := ⟨fun w pins s σ H Q I q => h.run pins s σ H Q I q⟩
theorem st_and1 (ha : PT X l (tTs c X W cf a)) (hb : PT X r (tTs c X W cf b)) : PT X (.BoolOp .And [l, r] pos) (tTs c X W cf (.and a b)) := (PW.pt (pw_and ha (pw_and1 hb))).weak wkt_and
theorem st_and {rs : List Expr} (ha : PT X l (tTs c X W cf a)) (hb : PT X (.BoolOp .And (r :: z :: rs) pos) (tTs c X W cf b)) : PT X (.BoolOp .And (l :: r :: z :: rs) pos) (tTs c X W cf (.and a b)) := (PW.pt (pw_and ha (pw_of hb))).weak wkt_and
theorem st_or1 (ha : PT X l (tTs c X W cf a)) (hb : PT X r (tTs c X W cf b)) : PT X (.BoolOp .Or [l, r] pos) (tTs c X W cf (.or a b)) := (PW.pt (pw_or ha (pw_or1 hb))).weak wkt_or
theorem st_or {rs : List Expr} (ha : PT X l (tTs c X W cf a)) (hb : PT X (.BoolOp .Or (r :: z :: rs) pos) (tTs c X W cf b)) : PT X (.BoolOp .Or (l :: r :: z :: rs) pos) (tTs c X W cf (.or a b)) := (PW.pt (pw_or ha (pw_of hb))).weak wkt_or

/-! ### targets -/
def gT (X : Cx) (tg : Tg) : TG := fun v σ H Q => ∃ g fr S d fr', Rel X.K X.mg g fr S σ H ∧ RD X.K g H d v ∧ asg tg d fr = some fr' ∧ ∀ σ', Rel X.K X.mg g fr' S σ' H → σ'.length = σ.length → (∀ i, i ∉ tg.slots → σ'[i]? = σ[i]?) → Q σ' H
def gTs (X : Cx) (tg : Tgs) : TGs := fun vs σ H Q => ∃ g fr S ds fr', Rel X.K X.mg g fr S σ H ∧ RDs X.K g H ds vs ∧ asgs tg ds fr = some fr' ∧ ∀ σ', Rel X.K X.mg g fr' S σ' H → σ'.length = σ.length → (∀ i, i ∉ tg.slots → σ'[i]? = σ[i]?) → Q σ' H
theorem assignEach_len (env : Env) : ∀ {ts : Tgs} {es : List Expr}, chkGs c ts es = true → (assignEach es env).findIdx? (·.1) = none
  | .nil, [], _ => rfl
  | .nil, _ :: _, h => nomatch h
  | .cons _ _, [], h => nomatch h
  | .cons t ts, e :: es, h => by
    have h' : (chkG c t e && chkGs c ts es) = true := h
    rw [Bool.and_eq_true] at h'
    have ih := assignEach_len env h'.2
    cases t with
    | nm i =>
      cases e with
      | Name x p =>
        show List.findIdx? _ ((false, _) :: assignEach es env) = none
        rw [List.findIdx?_cons]
        simp [ih]
      | _ => exact nomatch h'.1
    | tp ts' =>
      cases e with
      | Tuple l k p =>
        show List.findIdx? _ ((false, _) :: assignEach es env) = none
        rw [List.findIdx?_cons]
        simp [ih]
      | _ => exact nomatch h'.1
end
end Eng
end

section
/-! The engine, part V: enumerate over a tuple. -/
namespace Eng
open PySem PySem.Spec PyProof.Rows L2
theorem meets_enum1 {v : Value} {o : Obj} {Hh : Heap → Prop} (B : Begins v o Hh) :
    Meets (Builtin.«enumerate.__new__» ⟨[.type "enumerate", v], []⟩) (fun _ R s => Hh s.heap ∧ R (.ok (.ret (.ref (s.heap.push o).objs.size)))
      { s with heap := (s.heap.push o).push { cls := .type "enumerate", data := .fields #[.none, .bool false, .ref s.heap.objs.size, rawInt 0, .none, .none] } }) :=
  .of_wp fun prog w A R s h => by
    obtain ⟨hp, g, d, tk, os⟩ := s
    obtain ⟨h1, h⟩ := h
    have hsub := sub_enumerate
    have go : ∀ {A' : Around} {E : Value → Shared → Prop} {Q : Value → Shared → Prop}, Q (.ref hp.objs.size) ⟨hp.push o, g, d, tk, os⟩ → wpAny (model prog w) A' (pyIter v) Q E ⟨hp, g, d, tk, os⟩ :=
      fun q => B.iter prog w _ _ ⟨hp, g, d, tk, os⟩ _ h1 q
    wp_walk
    refine wpAny_stack_any fun st => wpAny_pure ?_
    split
    · rename_i c _ _ _ _ _
      cases (c == Value.type "enumerate")
      · wp_walk using go
        exact ⟨_, rfl, h⟩
      · wp_walk using go
        exact ⟨_, rfl, h⟩
    · wp_walk using go
      exact ⟨_, rfl, h⟩
/-- enumerate(v): two new objects -/
theorem enum1_begins {prog : Program} {w : World} {A : Around} {E : Value → Shared → Prop} {s : Shared} {v : Value} {o : Obj} {Hh : Heap → Prop} {Q : Value → Shared → Prop} (B : Begins v o Hh) (h1 : Hh s.heap)
    (h : ∀ h', IsEnum h' (s.heap.objs.size + 1) s.heap.objs.size 0 .none → h'.get? s.heap.objs.size = some o → (∀ b u, s.heap.get? b = some u → h'.get? b = some u) → Q (.ref (s.heap.objs.size + 1)) { s with heap := h' }) :
    wpAny (model prog w) A (call (.type "enumerate") [v]) Q E s := by
  refine callType_new F.called_enumerate (by decide) (F.typeCall_enumerate_1 _) (F.newCall_enumerate_1 _) (fun obj => F.args_object_init_2 obj _) F.entry_enumerate_new (meets_enum1 B) ⟨h1, ?_⟩
  have z1 : (s.heap.push o).objs.size = s.heap.objs.size + 1 := Heap.size_push ..
  have en : IsEnum ((s.heap.push o).push { cls := .type "enumerate", data := .fields #[.none, .bool false, .ref s.heap.objs.size, rawInt 0, .none, .none] }) (s.heap.objs.size + 1) s.heap.objs.size 0 .none := by
    have y := Heap.get?_push_size (s.heap.push o) (o := { cls := .type "enumerate", data := .fields #[.none, .bool false, .ref s.heap.objs.size, rawInt 0, .none, .none] }) rfl
    rw [z1] at y; exact y
  show _ ∧ _
  rw [z1]
  exact ⟨⟨_, en, rfl⟩, h _ en (Heap.get?_push_of_some _ (Heap.get?_push_size _ B.free)) fun b u z => Heap.get?_push_of_some _ (Heap.get?_push_of_some _ z)⟩
/-- the tuple at a, each item in a new pair -/
def IteT (K : PySem.W.Frag) (a : Addr) : It :=
  ⟨fun i H => ∃ (xs : List V) (x : V), SqT K H a xs ∧ xs[i]? = some x, fun i H v H' => ∃ T x, v = .ref T ∧ H T = none ∧ H' = upd H T (.tup [.int (i : Nat), x]) ∧ ∀ xs, SqT K H a xs → xs[i]? = some x, fun i H => ∃ xs : List V, SqT K H a xs ∧ xs.length = i⟩
theorem turn_enumT {P : Program} {w : World} {K : PySem.W.Frag} {elts : List Expr} {kk : Nat} {tpos : Pos} (a e it : Addr) :
    Turn P w K (.Tuple elts kk tpos) (IteT K a) [e, it] e (fun i h => (∃ old, IsEnum h e it ((i : Nat) : Int) old) ∧ h.IsTupleIter it a i ∧ e ≠ it ∧ a ≠ it ∧ e ≠ a) where
  mem := List.mem_cons_self ..
  obj := fun i h st b hb => by
    obtain ⟨⟨old, he⟩, ⟨o, ho, hc, hd⟩, _⟩ := st
    rcases List.mem_cons.mp hb with z | hb
    · rw [z]; exact ⟨_, he, fun v q => nomatch q⟩
    · rw [List.mem_singleton.mp hb]; exact ⟨o, ho, fun v q => by rw [hd] at q; cases q⟩
  keep := fun i h h' st k => by
    obtain ⟨⟨old, he⟩, hi, hn⟩ := st
    exact ⟨⟨old, k e (by simp) _ he⟩, hi.at fun o q => k it (by simp) o q, hn⟩
  item := by
    intro X hP hw hK hc i pins s σ H E I hf st hg
    subst hP hw hK
    obtain ⟨⟨old, he⟩, hit, n1, n2, n3⟩ := st
    obtain ⟨xs, x, hq, hx⟩ := hg
    obtain ⟨its, rv, tp, _⟩ := I.tuple hq
    have tp' : s.heap.IsTuple a its.toArray := tp
    have hel : e < s.heap.objs.size := Heap.lt_size he
    have hil : it < s.heap.objs.size := by obtain ⟨_, q, _⟩ := hit; exact Heap.lt_size q
    have hlt : i < its.toArray.size := by
      have := (List.getElem?_eq_some_iff.mp hx).1
      have l := rv.length
      simp; omega
    refine wpAny_pyNext_enum_itemD (Draws.tuple (A := X.A.in1) (I.ok.hd hc) it a n2 its.toArray) he ⟨hit, tp'⟩ hlt n1 (fun z => ?_) fun u h' tk hu ho st' hT hsz hk => ?_
    · rcases List.mem_cons.mp z with z | z
      · exact n1 z
      · exact n3 (List.mem_singleton.mp z)
    · refine ⟨_, rfl, wpAny_letOwnedTupleGo_enum (s := { s with heap := h', toks := tk + 1 }) ho fun h2 he2 sb => ?_⟩
      have ru : RelV x u := by
        obtain ⟨u', hu', r⟩ := rv.get hx
        have : its[i]? = some u := by simpa using hu
        rw [hu'] at this
        cases this
        exact r
      have hT2 : h2.get? s.heap.objs.size = some { cls := .type "tuple", data := .seq #[.int i tk, u] } := (sb.2 _ (Nat.ne_of_gt hel)).trans hT
      have new : ObjOk X.prog X.w (upd H s.heap.objs.size (.tup [.int (i : Nat), x])) h2 s.heap.objs.size (.tup [.int (i : Nat), x]) :=
        ⟨by show 2 ≤ sizeLine; decide, [.int i tk, u], .cons ⟨_, rfl⟩ (.cons ru .nil), ⟨_, hT2, rfl, _, rfl⟩⟩
      have I1 : Inv X pins σ (upd H s.heap.objs.size (.tup [.int (i : Nat), x])) { s with heap := h2, toks := tk + 1 } :=
        I.turnedNew (ch := [e, it]) (fun b ob hb q => (sb.2 b (fun z => hb (by simp [z]))).trans (hk b ob (fun z => hb (by simp [z])) (fun z => hb (by simp [z])) q)) hf (Nat.le_refl _) new
      refine ⟨.ref s.heap.objs.size, _, I1, rfl, ⟨_, x, rfl, I.hok.fresh (Nat.le_refl _), rfl, fun ys hy => by rw [I.tuple_inj hy hq]; exact hx⟩, ⟨⟨u, ?_⟩, st'.1.at fun o q => (sb.2 it (Ne.symm n1)).trans q, n1, n2, n3⟩, fun b hb => ?_⟩
      · have e1 : ((i + 1 : Nat) : Int) = (i : Int) + 1 := by omega
        rw [e1]; exact he2
      · have hb' : b < s.heap.objs.size := by
          rcases List.mem_cons.mp hb with z | z
          · rw [z]; exact hel
          · rw [List.mem_singleton.mp z]; exact hil
        rw [upd_ne (Nat.ne_of_lt hb')]
        exact (hf b hb).1
  done := by
    intro X hP hw hK hc i pins s σ H E I hf st hg
    subst hP hw hK
    obtain ⟨⟨old, he⟩, hit, n1, n2, n3⟩ := st
    obtain ⟨xs, hq, hx⟩ := hg
    obtain ⟨its, rv, tp, _⟩ := I.tuple hq
    have tp' : s.heap.IsTuple a its.toArray := tp
    obtain ⟨f0, f1, f2, f3, f4, f5⟩ := hf it (by simp)
    have hi : i = its.toArray.size := by
      have l := rv.length
      simp; omega
    rw [hi] at hit
    exact wpAny_pyNext_enum_endD (Draws.tuple (A := X.A.in1) (I.ok.hd hc) it a n2 its.toArray) he ⟨hit, tp'⟩ fun h' eb => ⟨rfl, I.turned (t' := s.toks) (fun b o hb q => eb b o hb q) f0 f1 f3 f4 f5⟩
  self := fun A i s Q E st h => by
    obtain ⟨⟨old, he⟩, _⟩ := st
    exact wpAny_pyIter_enum he h
/-- what enumerate walks: a list or a tuple -/
def iEnumA (K : PySem.W.Frag) (ta : TA) : TI := fun σ H R => ta σ H fun vs H1 => ∃ a xs, vs = [.ref a] ∧ ((SqL K H1 a xs ∧ R (Ite K a) H1) ∨ (SqT K H1 a xs ∧ R (IteT K a) H1))
theorem pi_enumA {X : Cx} {e : Expr} {ta : TA} {p pos tpos : Pos} {elts : List Expr} {kk : Nat} (hg : Gl X "enumerate") (hm : X.mg "enumerate" = none) (ha : PA X [e] ta) (hs : starEach [e] X.env = [(false, eval e X.env)]) :
    PI X (.Tuple elts kk tpos) (.Call (.Name "enumerate" p) [e] [] pos) (iEnumA X.K ta) := by
  refine ⟨fun pins s σ H R I h => Call_ (ld_blt I hg hm boot_enumerate (PyProof.Rows.callWith_type1 (thn (ha.run pos pins s σ H _ I h) fun us s1 q => ?_) hs rfl))⟩
  obtain ⟨vs, H1, I1, r1, a, xs, rfl, q⟩ := q
  cases r1 with
  | cons r rr =>
    cases rr
    cases r
    have fresh : ∀ b ∈ [s1.heap.objs.size + 1, s1.heap.objs.size], FpOk X pins H1 b := fun b hb => by
      have hle : s1.heap.objs.size ≤ b := by
        rcases List.mem_cons.mp hb with z | z
        · omega
        · rw [List.mem_singleton.mp z]; exact Nat.le_refl _
      exact I1.fpOk hle (I1.hok.fresh hle)
    rcases q with ⟨hq, q⟩ | ⟨hq, q⟩
    · obtain ⟨its, rv, p', _⟩ := I1.list hq
      refine call_enumerate_list p'.isList fun h' he hit hsz hk => wpAny_pyIter_enum he ?_
      exact ⟨s1.heap.objs.size + 1, [s1.heap.objs.size + 1, s1.heap.objs.size], _, _, H1, rfl, I1.kept (t' := s1.toks) hk, turn_enum a (s1.heap.objs.size + 1) s1.heap.objs.size, ⟨⟨.none, he⟩, hit, Nat.succ_ne_self _⟩, fresh, q⟩
    · obtain ⟨its, rv, p', _⟩ := I1.tuple hq
      have p2 : s1.heap.IsTuple a its.toArray := p'
      have al : a < s1.heap.objs.size := by obtain ⟨o, ho, _⟩ := p2; exact Heap.lt_size ho
      refine enum1_begins (begins_tuple a its.toArray) p2 fun h' he hit hk => wpAny_pyIter_enum he ?_
      exact ⟨s1.heap.objs.size + 1, [s1.heap.objs.size + 1, s1.heap.objs.size], _, _, H1, rfl, I1.kept (t' := s1.toks) hk, turn_enumT a (s1.heap.objs.size + 1) s1.heap.objs.size, ⟨⟨.none, he⟩, ⟨_, hit, rfl, rfl⟩, Nat.succ_ne_self _, Nat.ne_of_lt al, Nat.ne_of_gt (Nat.lt_succ_of_lt al)⟩, fresh, q⟩
theorem walk_enumT {K : PySem.W.Frag} {a : Addr} {xs : List V} : Walk (IteT K a) xs.length (fun H => SqT K H a xs) (YPair (fun i => some (.int (i : Nat))) (fun i => xs[i]?)) := by
  refine ⟨fun i _ hi q => ⟨xs, xs[i], q, by simp [hi]⟩, fun _ q => ⟨xs, q, rfl⟩, fun i H v H' _ q y => ?_⟩
  obtain ⟨T, x, h1, h2, h3, h4⟩ := y
  exact ⟨T, .int (i : Nat), x, h1, h2, h3, rfl, h4 xs q⟩
end Eng
end

section
/-! The engine, part W: sorted(set(x)), min(x, default=y), over the heap. -/
namespace Eng
open PySem PySem.Spec PyProof.Rows L2

section
variable {P : Program} {w : World} {A : Around} {E : Value → Shared → Prop} {s : Shared}
/-- a new set's object -/
abbrev set0 (w : World) : Obj := { cls := .type "set", dict := none, data := .set #[] 0 (.fresh 0 0 (!w.params.followText "set-order")) }
/-- set(x), x a list of ints: the set as sorted wants it -/
theorem call_set_listR {l : Addr} {its : Array Value} (ns : List Int) {Q : Value → Shared → Prop} (hd : A.handled = none) (hl : s.heap.IsList l its) (hit : IntsAre its.toList ns) (hb : ns.length + 1 < scanBound)
    (h : ∀ (h' : Heap) (tk c : Nat), SetR w h' s.heap.objs.size (fun j => decide (j ∈ ns)) c → c ≤ ns.length → (∀ b o, s.heap.get? b = some o → h'.get? b = some o) → Q (.ref s.heap.objs.size) { s with heap := h', toks := tk }) :
    wpAny (model P w) A (call (.type "set") [.ref l]) Q E s := by
  have hz : its.size = ns.length := by rw [← Array.length_toList]; exact hit.length
  obtain ⟨cc, tt, m1⟩ := F.called_set.mro
  have m2 := F.called_set.made
  have m3 := F.called_set.sub
  refine wpAny_call (codeAny_of_tree ?_)
  show wpAny _ _ (callAny (.type "set") _) _ _ _
  refine wpAny_pure ⟨Code.quiet_builtin _ (by decide +kernel), codeAny_builtin F.entry_type_call ?_⟩
  rw [Around.under_plain (weight_type_call_type "set" [.ref l] []) rfl]
  have m4 := F.called_set.notType
  have m5 := F.called_set.canCreate
  have m6 := F.typeCall_set_1 (.ref l)
  repeat any_goals first | assumption | wp_step
  refine codeAny_mono (code_set_led1 (.ref l) (E := E) (Q₁ := fun ob s1 => ob = .ref s.heap.objs.size ∧ s1 = { s with heap := s.heap.push (set0 w) }) ⟨rfl, rfl⟩) fun r s1 hr => ?_
  cases r with
  | error e => exact hr
  | ok fl =>
    cases fl with
    | ret ob =>
      obtain ⟨rfl, rfl⟩ := hr
      have gS : (s.heap.push (set0 w)).get? s.heap.objs.size = some (set0 w) := Heap.get?_push_size _ rfl
      have tS : Shared.TypeIs { s with heap := s.heap.push (set0 w) } (.ref s.heap.objs.size) "set" := ⟨_, gS, rfl⟩
      have i1 := F.called_set.init.lookup
      have i2 := F.called_set.init.bind (.ref s.heap.objs.size)
      repeat any_goals first | assumption | wp_step
      refine codeAny_mono (codeAny_call_builtin (R := wants (fun r s2 => r = .none ∧ ∃ h' tk c, s2 = { s with heap := h', toks := tk } ∧ SetR w h' s.heap.objs.size (fun j => decide (j ∈ ns)) c ∧ c ≤ ns.length ∧
          (∀ b o, s.heap.get? b = some o → h'.get? b = some o)) E) F.called_set.init.plain F.entry_set_init (check_set_init_1 tS ?_)) fun r2 s2 hr2 => ?_
      · obtain ⟨ol, gl, kl, nl, dl⟩ := hl
        obtain ⟨c1, c2, c3, c4⟩ := ol
        simp only at kl dl
        subst kl; subst dl
        have gl' : (s.heap.push (set0 w)).get? l = some { cls := .type "list", dict := c2, data := .seq its nl, slots := c4 } := Heap.get?_push_of_some _ gl
        have n1 := F.sub_list_set
        have n2 := F.sub_list_frozenset
        have n3 : (Value.type "list" == Value.type "dict") = false := by decide
        have hl1 : (s.heap.push (set0 w)).IsList l its := ⟨_, gl', rfl, nl, rfl⟩
        unfold Builtin.«set.__init__» noKeywords Builtin.Frozenset.updateFrom
        generalize ePI : pyIter = PI
        wp_walk
        subst ePI
        refine wpAny_pyIter_list hl1 ?_
        refine wpAny_bind (wpAny_runValue ?_)
        have lS : l < s.heap.objs.size := Heap.lt_size gl
        have d3 : A.in1.in1.in1.handled = none := by simp [hd]
        have z1 : (s.heap.push (set0 w)).objs.size = s.heap.objs.size + 1 := Heap.size_push ..
        have neI : l ≠ (s.heap.push (set0 w)).objs.size := by rw [z1]; exact Nat.ne_of_lt (Nat.lt_succ_of_lt lS)
        have nS : s.heap.objs.size ∉ [(s.heap.push (set0 w)).objs.size, l] := by
          rw [z1]; intro z
          rcases List.mem_cons.mp z with z | z
          · exact absurd z (Nat.ne_of_lt (Nat.lt_succ_self _))
          · exact absurd (List.mem_singleton.mp z) (Nat.ne_of_gt lS)
        have val : ∀ (i : Nat) (v : Value), its[i]? = some v → ∃ k t, ns[i]? = some k ∧ v = .int k t := fun i v hv => by
          have hi : i < ns.length := by rw [← hz]; exact (Array.getElem?_eq_some_iff.mp hv).1
          obtain ⟨t, e⟩ := PyProof.Rows.IntsAre.int_at hit i v (by rw [Array.getElem?_toList]; exact hv)
          refine ⟨ns[i], t, List.getElem?_eq_getElem hi, ?_⟩
          rw [e, List.getD_eq_getElem?_getD, List.getElem?_eq_getElem hi] <;> rfl
        refine set_update_ints ((Walks.list d3 _ l neI its).toS) s.heap.objs.size nS ns hz hb val (its.size - 0) 0 _ (by omega) (Nat.zero_le _) ⟨⟨_, Heap.get?_push_size _ rfl, rfl, rfl⟩, (hl1.push _)⟩ ?g0 ?g1
        case g0 => exact ⟨0, Nat.le_refl 0, setR_new_at (Heap.get?_push_of_some _ gS)⟩
        case g1 =>
          intro s' c' hm hc' hS'
          obtain ⟨h', g2, d', tk', os'⟩ := s'
          obtain rfl : g2 = s.gens := hm.gens
          obtain rfl : d' = s.drawn := hm.drawn
          obtain rfl : os' = s.os := hm.os
          show wpAny _ _ _ _ _ _
          refine wpAny_pure ?_
          show wpAny _ _ (ret Value.none) _ _ _
          rw [hz] at hc'
          refine wpAny_pure ⟨rfl, h', tk', c', rfl, hS', hc', fun b o e => ?_⟩
          have b0 : b < s.heap.objs.size := Heap.lt_size e
          refine hm.heap b o (fun z => ?_) (Heap.get?_push_of_some _ (Heap.get?_push_of_some _ e))
          rcases List.mem_cons.mp z with z | z
          · exact absurd z (Nat.ne_of_lt b0)
          · have z := List.mem_singleton.mp z
            rw [z1] at z
            exact absurd z (Nat.ne_of_lt (Nat.lt_succ_of_lt b0))
      · cases r2 with
        | error e => exact hr2
        | ok f2 =>
          cases f2 with
          | ret r =>
            obtain ⟨rfl, h', tk, c', rfl, hS', hc', hk'⟩ := hr2
            repeat any_goals first | assumption | wp_step
            exact h _ _ _ hS' hc' hk'
          | _ => exact hr2.elim
    | _ => exact hr.elim
end

/-- sorted(set(x)), x a list or a tuple of ints -/
def tSortSet (K : PySem.W.Frag) (ta : TE) : TE := fun σ H Q => ta σ H fun x H1 => ∃ (l : Addr) (ns : List Int), x = .ref l ∧ (SqL K H1 l (ns.map V.int) ∨ SqT K H1 l (ns.map V.int)) ∧ ns.length ≤ 60 ∧
  ∀ (ms : List Int) (p : Addr), ms.Pairwise (· < ·) → (∀ k, k ∈ ms ↔ k ∈ ns) → H1 p = none → Q (.ref p) (upd H1 p (.lst (ms.map V.int)))
theorem pe_sortset {X : Cx} {a : Expr} {ta : TE} {p p2 q pos : Pos} (hg : Gl X "sorted") (hm : X.mg "sorted" = none) (hg2 : Gl X "set") (hm2 : X.mg "set" = none) (ha : PE X a ta) (hc : X.calm = true)
    (na : starEach [a] X.env = (false, eval a X.env) :: starEach [] X.env) : PE X (.Call (.Name "sorted" p) [.Call (.Name "set" p2) [a] [] q] [] pos) (tSortSet X.K ta) := by
  refine ⟨fun pins s σ H Q I h => ?_⟩
  refine Call_ (ld_blt I hg hm boot_sorted ?_)
  refine PyProof.Rows.callWith_builtin1 (PyProof.Rows.args_cons ?_ rfl) rfl rfl
  refine Call_ (ld_blt I hg2 hm2 boot_set ?_)
  refine PyProof.Rows.callWith_type1 (PyProof.Rows.args_cons (thn (ha.run pins s σ H _ I h) fun v s1 ⟨x, H1, I1, r1, q1⟩ => PyProof.Rows.args_nil ?_) na) na rfl
  obtain ⟨l, ns, rfl, hq, hl, q1⟩ := q1
  cases r1
  have fin : ∀ (h' : Heap) (tk c : Nat), SetR X.w h' s1.heap.objs.size (fun j => decide (j ∈ ns)) c → c ≤ ns.length → (∀ b o, s1.heap.get? b = some o → h'.get? b = some o) →
      wpAny (model X.prog X.w) X.A (call (.builtin "sorted") [.ref s1.heap.objs.size]) (EP X pins σ Q) X.xe { s1 with heap := h', toks := tk } := fun h' tk c R hcn k => by
    have I2 : Inv X pins σ H1 { s1 with heap := h', toks := tk } := I1.kept fun b o e => k b o e
    refine sorted_set R (I1.ok.hd hc) (by omega) fun s' p out c ms k g o hp hg hi hs hm hl => ?_
    have hlen : (ms.map V.int).length ≤ sizeLine := by rw [List.length_map, hl, sizeLine_eq]; omega
    have hn : H1 p = none := I2.hok.fresh hp
    have J : Inv X pins σ (upd H1 p (.lst (ms.map V.int))) { (⟨h', s1.gens, s1.drawn, tk, s1.os⟩ : Shared) with heap := s'.heap, gens := s'.gens, drawn := s'.drawn, toks := s'.toks } :=
      I2.call (ch := []) (Un.laid k hp hn) (I2.hok.laid k hp ⟨hlen, out.toList, c, vals_of_ints hi, hg⟩) (by rw [g]; exact I2.bare) (fun _ z => nomatch z)
    have e : s' = { (⟨h', s1.gens, s1.drawn, tk, s1.os⟩ : Shared) with heap := s'.heap, gens := s'.gens, drawn := s'.drawn, toks := s'.toks } := by
      cases s'; cases o; rfl
    rw [e]
    exact ⟨.ref p, _, J, rfl, q1 ms p hs (fun z => by rw [hm z, decide_eq_true_iff]) hn⟩
  rcases hq with hq | hq
  · obtain ⟨its, r, pl, hz⟩ := I1.list hq
    exact call_set_listR ns (I1.ok.hd hc) pl.isList (by simpa using ints_of_vals r) (by unfold scanBound; omega) fun h' tk c R hcn k => PyProof.Rows.args_nil (fin h' tk c R hcn k)
  · obtain ⟨its, r, pl, hz⟩ := I1.tuple hq
    exact call_set_tupI ns (I1.ok.hd hc) (show s1.heap.IsTuple l its.toArray from pl) (ints_of_vals r) (by unfold scanBound; omega) fun h' tk c R hcn k => PyProof.Rows.args_nil (fin h' tk c R hcn k)

theorem dpAll_at {K : PySem.W.Frag} {H : Hp} : ∀ {us : List V} {xs : List PyData} {i : Nat} {v : V}, DpAll K H us xs → us[i]? = some v → ∃ d, xs[i]? = some d ∧ Dp K H v d
  | _, _, _, _, .nil, e => by simp at e
  | _, _, 0, _, .cons h _, e => by simp at e; subst e; exact ⟨_, rfl, h⟩
  | _, _, i + 1, v, .cons _ t, e => by
    obtain ⟨d, h1, h2⟩ := dpAll_at (i := i) (v := v) t (by simpa using e)
    exact ⟨d, by simpa using h1, h2⟩
theorem vals_at : ∀ {xs : List V} {us : List Value} {i : Nat} {u : Value}, Vals xs us → us[i]? = some u → ∃ x, xs[i]? = some x ∧ RelV x u
  | _, _, _, _, .nil, e => by simp at e
  | _, _, 0, _, .cons h _, e => by simp at e; subst e; exact ⟨_, rfl, h⟩
  | _, _, i + 1, v, .cons _ t, e => by
    obtain ⟨d, h1, h2⟩ := vals_at (i := i) (u := v) t (by simpa using e)
    exact ⟨d, by simpa using h1, h2⟩
/-- min(x, default=z), x a list of alike data -/
def rMinDef (K : PySem.W.Frag) : List V → List V → Hp → VK → Prop := fun vs zs H Q => ∃ (a : Addr) (us : List V) (xs : List PyData) (z : V), vs = [.ref a] ∧ zs = [z] ∧ SqL K H a us ∧ DpAll K H us xs ∧ PySem.W.AlikeAll xs ∧ PyData.depthAll xs ≤ 60 ∧
  (xs = [] → Q z H) ∧ ∀ (i : Nat) v y ys, xs = y :: ys → us[i]? = some v → xs[i]? = some (PySem.W.minD y ys) → Q v H
theorem cr_minDef {X : Cx} (hc : X.calm = true) (hu : X.A.units + 100 < cLine) : CallRK X (.builtin "min") [Str.ofString "default"] (rMinDef X.K) := by
  intro pins s σ H vs zs us ws Q I r rz ⟨a, xs, ds, z, e1, e2, hs, hd, ha, hdp, h0, h1⟩
  subst e1; subst e2
  obtain rfl := Vals.ref1 r
  obtain ⟨w1, rfl, rw1⟩ := vals1 rz
  obtain ⟨its, rv, hl, hz⟩ := I.list hs
  obtain ⟨as, hr⟩ := Dp.readsAll I ds xs its hd rv
  refine PySem.W.min_list_default (I.ok.hd hc) hl.isList (xs := ds) (as := as) (by simpa using hr) ha (by omega) (fun e h' tk k => ?_) fun y ys i v h' tk bs e hv hrd k => ?_
  · exact ⟨z, H, I.kept k, rw1, h0 e⟩
  · obtain ⟨x, hx, rx⟩ := vals_at rv (by simpa using hv)
    obtain ⟨d, hd1, hd2⟩ := dpAll_at hd hx
    obtain ⟨cs, hc1⟩ := Dp.reads I d x v hd2 rx
    obtain ⟨e3, _⟩ := PyProof.Rows.reads_det (fun b o e _ => k b o e) hc1 hrd
    exact ⟨x, H, I.kept k, rx, h1 i x y ys e hx (by rw [hd1, ← e3])⟩
end Eng
end

section
/-! The engine, part J: targets, what is walked, comprehensions; every expression. -/
namespace Eng
open PySem PySem.Spec PyProof.Rows L2
section
variable {c : SC} {X : Cx} {W : WX} {cf : CF} {pos : Pos}

/-! ### targets -/
mutual
def Tgs.len : Tgs → Nat
  | .nil => 0
  | .cons _ ts => ts.len + 1
end
theorem chkGs_len : ∀ {ts : Tgs} {es : List Expr}, chkGs c ts es = true → es.length = ts.len
  | .nil, [], _ => rfl
  | .nil, _ :: _, h => nomatch h
  | .cons _ _, [], h => nomatch h
  | .cons t ts, e :: es, h => by
    have h' : (chkG c t e && chkGs c ts es) = true := h
    rw [Bool.and_eq_true] at h'
    show es.length + 1 = ts.len + 1
    rw [chkGs_len h'.2]
theorem asgs_len : ∀ {ts : Tgs} {ds : List D} {fr fr' : Frame}, asgs ts ds fr = some fr' → ds.length = ts.len
  | .nil, [], _, _, _ => rfl
  | .nil, _ :: _, _, _, h => nomatch h
  | .cons _ _, [], _, _, h => nomatch h
  | .cons t ts, d :: ds, fr, fr', h => by
    have h' : (asg t d fr).bind (fun f => asgs ts ds f) = some fr' := h
    cases q : asg t d fr with
    | none => rw [q] at h'; cases h'
    | some f =>
      rw [q] at h'
      show ds.length + 1 = ts.len + 1
      rw [asgs_len (show asgs ts ds f = some fr' from h')]
theorem assignEach_length (env : Env) : ∀ es : List Expr, (assignEach es env).length = es.length
  | [] => rfl
  | e :: es => by
    have ih := assignEach_length env es
    cases e <;> (show (assignEach es env).length + 1 = es.length + 1; rw [ih])
mutual
theorem sg (G : Good c X W cf) : ∀ (t : Tg) (e : Expr), chkG c t e = true → PG X e (gT X t)
  | .nm i, e, h => by
    cases e with
    | Name x p =>
      have h' : (decide (c.N[i]? = some x) && isLoc c.top (c.sc.names.lookup x)) = true := h
      rw [Bool.and_eq_true, decide_eq_true_iff] at h'
      have hl : L2.Loc X.env.scope x ∧ (X.fn x = true ∨ X.env.scope.names.lookup x = some .local) := by
        unfold L2.Loc
        rw [G.sc]
        have h2 := h'.2
        cases q : c.sc.names.lookup x with
        | none => rw [q] at h2; cases h2
        | some k =>
          rw [q] at h2
          cases k with
          | «local» => exact ⟨.inl rfl, .inr rfl⟩
          | cell => exact ⟨.inr rfl, .inl (G.top h2 x)⟩
          | free => cases h2
          | globalExplicit => cases h2
          | globalImplicit => cases h2
      refine (pg_name (i := i) (by rw [G.N]; exact G.nd) (by rw [G.N]; exact h'.1) hl.1 hl.2).weak fun v σ H Q ⟨g, fr, S, d, fr', rel, rd, e, q⟩ => ?_
      have e' : some (fr.set i (some (Val.fz d))) = some fr' := e
      cases e'
      exact q _ (rel.setFz rd) (List.length_set ..) fun j hj => List.getElem?_set_ne (fun z => hj (by rw [z]; exact List.mem_singleton.mpr rfl))
    | _ => exact nomatch h
  | .tp ts, e, h => by
    cases e with
    | Tuple es k p =>
      have h' : chkGs c ts es = true := h
      refine (pg_tup G.calm (sgs G ts es h') rfl (assignEach_len X.env h')).weak fun v σ H Q ⟨g, fr, S, d, fr', rel, rd, e, q⟩ => ?_
      cases d with
      | tup ds =>
        have e' : asgs ts ds fr = some fr' := e
        obtain ⟨a, vs, rfl, h1, h2⟩ := rd.of_tup
        refine ⟨a, vs, rfl, h1, ?_, g, fr, S, ds, fr', rel, h2, e', q⟩
        rw [← h2.length, asgs_len e', assignEach_length, chkGs_len h']
      | _ => exact nomatch e
    | _ => exact nomatch h
theorem sgs (G : Good c X W cf) : ∀ (t : Tgs) (e : List Expr), chkGs c t e = true → PGs X e (gTs X t)
  | .nil, [], _ => pgs_nil.weak fun v σ H Q ⟨g, fr, S, ds, fr', rel, rd, e, q⟩ => by
    cases ds with
    | nil =>
      cases rd
      have e' : some fr = some fr' := e
      cases e'
      exact ⟨rfl, q σ rel rfl fun _ _ => rfl⟩
    | cons d ds => exact nomatch e
  | .nil, _ :: _, h => nomatch h
  | .cons _ _, [], h => nomatch h
  | .cons t ts, e :: es, h => by
    have h' : (chkG c t e && chkGs c ts es) = true := h
    rw [Bool.and_eq_true] at h'
    have hs : (assignEach (e :: es) X.env).map (·.2) = assign e X.env :: (assignEach es X.env).map (·.2) := by
      cases t with
      | nm i => cases e with
        | Name x p => rfl
        | _ => exact nomatch h'.1
      | tp ts' => cases e with
        | Tuple l k p => rfl
        | _ => exact nomatch h'.1
    refine (pgs_cons (sg G t e h'.1) (sgs G ts es h'.2) hs).weak fun v σ H Q ⟨g, fr, S, ds, fr', rel, rd, e, q⟩ => ?_
    cases ds with
    | nil => exact nomatch e
    | cons d ds =>
      cases rd with
      | cons r1 r2 =>
        have e' : (asg t d fr).bind (fun f => asgs ts ds f) = some fr' := e
        cases q1 : asg t d fr with
        | none => rw [q1] at e'; cases e'
        | some f =>
          rw [q1] at e'
          refine ⟨_, _, rfl, g, fr, S, d, f, rel, r1, q1, fun σ1 rel1 l1 s1 => ⟨g, f, S, ds, fr', rel1, r2, e', fun σ2 rel2 l2 s2 => q σ2 rel2 (l2.trans l1) fun j hj => ?_⟩⟩
          have hj' : j ∉ t.slots ++ ts.slots := hj
          rw [s2 j (fun z => hj' (List.mem_append.mpr (.inr z))), s1 j (fun z => hj' (List.mem_append.mpr (.inl z)))]
end

/-! ### what is walked -/
def WalksD (K : PySem.W.Frag) (J : It) (g0 : Gh) (H0 : Hp) (ds : List D) : Prop := ∃ G Y, Walk J ds.length G Y ∧ (∀ g H, Keep g0 H0 g H → G H) ∧
  ∀ i g H x H', Keep g0 H0 g H → i < ds.length → Y i H x H' → Grows H H' ∧ ∃ d, ds[i]? = some d ∧ RD K g H' d x
def rW (K : PySem.W.Frag) : List Addr → Gh → Hp → List D → It → Prop := fun t g H ds J => g.tmp = t ∧ WalksD K J g H ds
theorem rW_tmp {K : PySem.W.Frag} : ∀ t g H a b, rW K t g H a b → g.tmp = t := fun _ _ _ _ _ h => h.1
abbrev tWk (c : SC) (X : Cx) (W : WX) (cf : CF) (w : Wk) : TI := tX X.K X.mg W (rW X.K) (evW cf c.gl w)
theorem walks_list {K : PySem.W.Frag} {g : Gh} {H : Hp} {p : Addr} {xs : List D} {vs : List V} (h : H p = some (.lst vs)) (n : ¬ g.av p) (r : RDs K g H xs vs) : WalksD K (Itl K p) g H xs := by
  have keep : ∀ g' H', Keep g H g' H' → H' p = some (.lst vs) := fun g' H' k => (k.keep p _ h (fun z => n (.inl z)) (fun z => n (.inr (.inl z)))).1
  refine ⟨_, _, by rw [r.length]; exact walk_list (xs := vs), fun g' H' k => SqL.of (keep g' H' k), fun i g' H' x H2 k hi y => ?_⟩
  obtain ⟨rfl, e⟩ := y
  obtain ⟨d, e1, e2⟩ := r.getV e
  exact ⟨Grows.refl, d, e1, e2.mono k.mono⟩
theorem walks_tup {K : PySem.W.Frag} {g : Gh} {H : Hp} {p : Addr} {xs : List D} {vs : List V} (h : H p = some (.tup vs)) (r : RDs K g H xs vs) : WalksD K (Itt K p) g H xs := by
  refine ⟨_, _, by rw [r.length]; exact walk_tup (xs := vs), fun g' H' k => SqT.of (k.tups _ _ h), fun i g' H' x H2 k hi y => ?_⟩
  obtain ⟨rfl, e⟩ := y
  obtain ⟨d, e1, e2⟩ := r.getV e
  exact ⟨Grows.refl, d, e1, e2.mono k.mono⟩
theorem walks_rng {K : PySem.W.Frag} {g : Gh} {H : Hp} (lo hi : Int) : WalksD K (Itr lo (hi - lo).toNat) g H (rgD lo hi) := by
  have hl : (rgD lo hi).length = (hi - lo).toNat := by unfold rgD; rw [List.length_map, List.length_range]
  refine ⟨_, _, by rw [hl]; exact walk_range, fun _ _ _ => trivial, fun i g' H' x H2 k hi' y => ?_⟩
  obtain ⟨rfl, rfl⟩ := y
  refine ⟨Grows.refl, .int (lo + (i : Nat)), ?_, .int _⟩
  unfold rgD
  rw [List.getElem?_map, List.getElem?_range (by rw [hl] at hi'; exact hi')]
  rfl
variable {a b : Xp} {l r tge : Expr}
theorem sw_seq (ha : PE X l (tV c X W cf a)) : PI X tge l (tWk c X W cf (.seq a)) := by
  refine (PI.or (pi_list (frzPE ha)) (pi_tup (frzPE ha))).weak fun σ H R ⟨g, fr, S, rel, h⟩ => ?_
  have h' : Aft X.K X.mg W (rW X.K) g H σ ((frzX (ev cf c.gl a fr S)).bind fun x fr S => match x with | .lst xs => .ok xs fr S | .tup xs => .ok xs fr S | _ => .no) R := h
  cases e : frzX (ev cf c.gl a fr S) with
  | no => rw [e] at h'; exact h'.elim
  | ex x f s =>
    rw [e] at h'
    refine .inl ⟨g, fr, S, rel, ?_⟩
    show Aft X.K X.mg W (rD X.K) g H σ (frzX (ev cf c.gl a fr S)) _
    rw [e]; exact h'
  | ok d f s =>
    rw [e] at h'
    cases d with
    | lst xs =>
      refine .inl ⟨g, fr, S, rel, ?_⟩
      show Aft X.K X.mg W (rD X.K) g H σ (frzX (ev cf c.gl a fr S)) _
      rw [e]
      intro g1 H1 x k1 rel1 ⟨t1, r1⟩
      obtain ⟨p, vs, rfl, h1, h2, h3⟩ := r1.tracked_lst
      exact ⟨p, rfl, ⟨vs, SqL.of h1⟩, h' g1 H1 _ k1 rel1 ⟨t1, walks_list h1 h2 h3⟩⟩
    | tup xs =>
      refine .inr ⟨g, fr, S, rel, ?_⟩
      show Aft X.K X.mg W (rD X.K) g H σ (frzX (ev cf c.gl a fr S)) _
      rw [e]
      intro g1 H1 x k1 rel1 ⟨t1, r1⟩
      obtain ⟨p, vs, rfl, h1, h2⟩ := r1.of_tupX
      exact ⟨p, rfl, ⟨vs, SqT.of h1⟩, h' g1 H1 _ k1 rel1 ⟨t1, walks_tup h1 h2⟩⟩
    | _ => exact h'.elim
theorem pair_rel {K : PySem.W.Frag} {g : Gh} {H : Hp} {T : Addr} {d1 d2 : D} {x y : V} (hT : H T = none) (r1 : RD K g H d1 x) (r2 : RD K g H d2 y) : RD K g (upd H T (.tup [x, y])) (.tup [d1, d2]) (.ref T) :=
  .tup upd_same (.cons (r1.mono (Grows.fresh hT).mono) (.cons (r2.mono (Grows.fresh hT).mono) .nil))
theorem enum_at {ds : List D} {i : Nat} {d : D} (h : ds[i]? = some d) : (enumD ds)[i]? = some (.tup [.int (i : Nat), d]) := by
  have hi := (List.getElem?_eq_some_iff.mp h).1
  unfold enumD
  rw [List.getElem?_map, List.getElem?_range hi]
  show some (D.tup [.int (i : Nat), ds.getD i .non]) = _
  rw [List.getD_eq_getElem?_getD, h]; rfl
theorem enum_len (ds : List D) : (enumD ds).length = ds.length := by unfold enumD; rw [List.length_map, List.length_range]
theorem walks_enumL {K : PySem.W.Frag} {g : Gh} {H : Hp} {p : Addr} {xs : List D} {vs : List V} (h : H p = some (.lst vs)) (n : ¬ g.av p) (r : RDs K g H xs vs) : WalksD K (Ite K p) g H (enumD xs) := by
  have keep : ∀ g' H', Keep g H g' H' → H' p = some (.lst vs) := fun g' H' k => (k.keep p _ h (fun z => n (.inl z)) (fun z => n (.inr (.inl z)))).1
  refine ⟨_, _, by rw [enum_len, r.length]; exact walk_enum (xs := vs), fun g' H' k => SqL.of (keep g' H' k), fun i g' H' x H2 k hi y => ?_⟩
  obtain ⟨T, u, v, rfl, hT, rfl, e1, e2⟩ := y
  cases e1
  obtain ⟨d, q1, q2⟩ := r.getV e2
  exact ⟨Grows.fresh hT, _, enum_at q1, pair_rel hT (.int _) (q2.mono k.mono)⟩
theorem walks_enumT {K : PySem.W.Frag} {g : Gh} {H : Hp} {p : Addr} {xs : List D} {vs : List V} (h : H p = some (.tup vs)) (r : RDs K g H xs vs) : WalksD K (IteT K p) g H (enumD xs) := by
  refine ⟨_, _, by rw [enum_len, r.length]; exact walk_enumT (xs := vs), fun g' H' k => SqT.of (k.tups _ _ h), fun i g' H' x H2 k hi y => ?_⟩
  obtain ⟨T, u, v, rfl, hT, rfl, e1, e2⟩ := y
  cases e1
  obtain ⟨d, q1, q2⟩ := r.getV e2
  exact ⟨Grows.fresh hT, _, enum_at q1, pair_rel hT (.int _) (q2.mono k.mono)⟩
theorem sw_enm (G : Good c X W cf) {p : Pos} {elts : List Expr} {kk : Nat} {tp : Pos} (hr : glB c "enumerate" = true) (ha : PE X l (tV c X W cf a)) (hp : pln l = true) : PI X (.Tuple elts kk tp) (.Call (.Name "enumerate" p) [l] [] pos) (tWk c X W cf (.enm a)) := by
  obtain ⟨z1, z2⟩ := G.glob hr
  refine (pi_enumA z1 (G.blt _ (by decide +kernel)) (pa_cons (frzPE ha) pa_nil (pln_star hp _)) (pln_star hp _)).weak fun σ H R ⟨g, fr, S, rel, h⟩ => ⟨g, fr, S, rel, ?_⟩
  refine (Aft.bind rD_tmp h).imp fun x H1 ⟨d1, fr1, S1, g1, k1, rel1, r1, t1, h1⟩ => ?_
  cases d1 with
  | lst xs =>
    obtain ⟨q, vs, rfl, y1, y2, y3⟩ := r1.2.tracked_lst
    have h1' : Aft X.K X.mg W (rW X.K) g1 H1 σ (.ok (enumD xs) fr1 S1) R := h1
    exact ⟨q, vs, rfl, .inl ⟨SqL.of y1, h1' g1 H1 _ Keep.refl rel1 ⟨rfl, walks_enumL y1 y2 y3⟩⟩⟩
  | tup xs =>
    obtain ⟨q, vs, rfl, y1, y2⟩ := r1.2.of_tupX
    have h1' : Aft X.K X.mg W (rW X.K) g1 H1 σ (.ok (enumD xs) fr1 S1) R := h1
    exact ⟨q, vs, rfl, .inr ⟨SqT.of y1, h1' g1 H1 _ Keep.refl rel1 ⟨rfl, walks_enumT y1 y2⟩⟩⟩
  | _ => exact h1.elim
theorem zip_at {xs ys : List D} {i : Nat} {d e : D} (h1 : xs[i]? = some d) (h2 : ys[i]? = some e) : (zipD xs ys)[i]? = some (.tup [d, e]) := by
  unfold zipD
  rw [List.getElem?_zipWith, h1, h2]
theorem zip_len (xs ys : List D) : (zipD xs ys).length = min xs.length ys.length := by unfold zipD; rw [List.length_zipWith]
theorem walks_zipL {K : PySem.W.Frag} {g : Gh} {H : Hp} {p q : Addr} {xs ys : List D} {vs us : List V} (h : H p = some (.lst vs)) (n : ¬ g.av p) (r : RDs K g H xs vs) (h' : H q = some (.lst us)) (n' : ¬ g.av q) (r' : RDs K g H ys us) : WalksD K (Itz K p q) g H (zipD xs ys) := by
  have keep : ∀ g' H', Keep g H g' H' → H' p = some (.lst vs) := fun g' H' k => (k.keep p _ h (fun z => n (.inl z)) (fun z => n (.inr (.inl z)))).1
  have keep' : ∀ g' H', Keep g H g' H' → H' q = some (.lst us) := fun g' H' k => (k.keep q _ h' (fun z => n' (.inl z)) (fun z => n' (.inr (.inl z)))).1
  refine ⟨_, _, walk_zip (xs := vs) (ys := us) (by rw [zip_len, r.length, r'.length]), fun g' H' k => ⟨SqL.of (keep g' H' k), SqL.of (keep' g' H' k)⟩, fun i g' H' x H2 k hi y => ?_⟩
  obtain ⟨T, u, v, rfl, hT, rfl, e1, e2⟩ := y
  obtain ⟨d1, q1, q2⟩ := r.getV e1
  obtain ⟨d2, q3, q4⟩ := r'.getV e2
  exact ⟨Grows.fresh hT, _, zip_at q1 q3, pair_rel hT (q2.mono k.mono) (q4.mono k.mono)⟩
theorem walk_zipT {K : PySem.W.Frag} {a b : Addr} {xs ys : List V} {n : Nat} (hn : n = min xs.length ys.length) : Walk (RZ.ItzT K a b) n (fun H => SqT K H a xs ∧ SqT K H b ys) (YPair (fun i => xs[i]?) (fun i => ys[i]?)) := by
  refine ⟨fun i _ hi q => ?_, fun _ q => ⟨xs, ys, q.1, q.2, by omega⟩, fun i H v H' _ q y => ?_⟩
  · have b1 : i < xs.length := by omega
    have b2 : i < ys.length := by omega
    exact ⟨xs, ys, xs[i], ys[i], q.1, q.2, List.getElem?_eq_getElem b1, List.getElem?_eq_getElem b2⟩
  · obtain ⟨T, x, z, y1, y2, y3, y4, y5⟩ := y
    exact ⟨T, x, z, y1, y2, y3, y4 xs q.1, y5 ys q.2⟩
theorem walks_zipT {K : PySem.W.Frag} {g : Gh} {H : Hp} {p q : Addr} {xs ys : List D} {vs us : List V} (h : H p = some (.tup vs)) (r : RDs K g H xs vs) (h' : H q = some (.tup us)) (r' : RDs K g H ys us) : WalksD K (RZ.ItzT K p q) g H (zipD xs ys) := by
  refine ⟨_, _, walk_zipT (xs := vs) (ys := us) (by rw [zip_len, r.length, r'.length]), fun g' H' k => ⟨SqT.of (k.tups _ _ h), SqT.of (k.tups _ _ h')⟩, fun i g' H' x H2 k hi y => ?_⟩
  obtain ⟨T, u, v, rfl, hT, rfl, e1, e2⟩ := y
  obtain ⟨d1, q1, q2⟩ := r.getV e1
  obtain ⟨d2, q3, q4⟩ := r'.getV e2
  exact ⟨Grows.fresh hT, _, zip_at q1 q3, pair_rel hT (q2.mono k.mono) (q4.mono k.mono)⟩
theorem sw_zip (G : Good c X W cf) {p : Pos} {elts : List Expr} {kk : Nat} {tp : Pos} (hr : glB c "zip" = true) (ha : PE X l (tV c X W cf a)) (hb : PE X r (tV c X W cf b)) (hp : pln l = true) (hq : pln r = true) :
    PI X (.Tuple elts kk tp) (.Call (.Name "zip" p) [l, r] [] pos) (tWk c X W cf (.zip a b)) := by
  obtain ⟨z1, z2⟩ := G.glob hr
  have s2 : starEach [r] X.env = [(false, eval r X.env)] := pln_star hq _
  refine (RZ.pi_zipA z1 (G.blt _ (by decide +kernel)) (pa_cons (frzPE ha) (pa_cons (frzPE hb) pa_nil (pln_star hq _)) (pln_star hp _)) (pln_star hp _) (by rw [s2]; rfl)).weak fun σ H R ⟨g, fr, S, rel, h⟩ => ⟨g, fr, S, rel, ?_⟩
  refine (Aft.bind rD_tmp h).imp fun x H1 ⟨d1, fr1, S1, g1, k1, rel1, r1, t1, h1⟩ => ⟨g1, fr1, S1, rel1, ?_⟩
  refine (Aft.bind rD_tmp h1).imp fun y H2 ⟨d2, fr2, S2, g2, k2, rel2, r2, t2, h2⟩ => ?_
  have r1' := r1.2.mono k2.mono
  cases d1 with
  | lst xs =>
    cases d2 with
    | lst ys =>
      obtain ⟨q1, vs, rfl, y1, y2, y3⟩ := r1'.tracked_lst
      obtain ⟨q2, us, rfl, w1, w2, w3⟩ := r2.2.tracked_lst
      have h2' : Aft X.K X.mg W (rW X.K) g2 H2 σ (.ok (zipD xs ys) fr2 S2) R := h2
      exact ⟨q1, q2, vs, us, rfl, .inl ⟨SqL.of y1, SqL.of w1, h2' g2 H2 _ Keep.refl rel2 ⟨rfl, walks_zipL y1 y2 y3 w1 w2 w3⟩⟩⟩
    | _ => exact h2.elim
  | tup xs =>
    cases d2 with
    | tup ys =>
      obtain ⟨q1, vs, rfl, y1, y3⟩ := r1'.of_tupX
      obtain ⟨q2, us, rfl, w1, w3⟩ := r2.2.of_tupX
      have h2' : Aft X.K X.mg W (rW X.K) g2 H2 σ (.ok (zipD xs ys) fr2 S2) R := h2
      exact ⟨q1, q2, vs, us, rfl, .inr ⟨SqT.of y1, SqT.of w1, h2' g2 H2 _ Keep.refl rel2 ⟨rfl, walks_zipT y1 y3 w1 w3⟩⟩⟩
    | _ => exact h2.elim
  | _ => exact h2.elim
theorem sw_rng1 (G : Good c X W cf) {p : Pos} (hr : glB c "range" = true) (ha : PE X l (tV c X W cf a)) (hp : pln l = true) : PI X tge (.Call (.Name "range" p) [l] [] pos) (tWk c X W cf (.rng1 a)) := by
  obtain ⟨z1, z2⟩ := G.glob hr
  refine (pi_range1 z1 (G.blt _ (by decide +kernel)) (pa_cons (frzPE ha) pa_nil (pln_star hp _)) (pln_star hp _)).weak fun σ H R ⟨g, fr, S, rel, h⟩ => ⟨g, fr, S, rel, ?_⟩
  refine (Aft.bind rD_tmp h).imp fun x H1 ⟨d1, fr1, S1, g1, k1, rel1, r1, t1, h1⟩ => ?_
  cases d1 with
  | int j =>
    obtain rfl := RD.of_int r1.2
    have h1' : Aft X.K X.mg W (rW X.K) g1 H1 σ (if rgOk 0 j then .ok (rgD 0 j) fr1 S1 else .no) R := h1
    by_cases hc : rgOk 0 j = true
    · rw [if_pos hc] at h1'
      obtain ⟨b1, b2, b3, b4⟩ := rgOk_of hc
      refine ⟨j, rfl, b3, b4, ?_⟩
      have := walks_rng (K := X.K) (g := g1) (H := H1) 0 j
      rw [Int.sub_zero] at this
      exact h1' g1 H1 _ Keep.refl rel1 ⟨rfl, this⟩
    · rw [if_neg hc] at h1'; exact h1'.elim
  | _ => exact h1.elim
theorem sw_rng2 (G : Good c X W cf) {p : Pos} (hr : glB c "range" = true) (ha : PE X l (tV c X W cf a)) (hb : PE X r (tV c X W cf b)) (hp : pln l = true) (hq : pln r = true) : PI X tge (.Call (.Name "range" p) [l, r] [] pos) (tWk c X W cf (.rng2 a b)) := by
  obtain ⟨z1, z2⟩ := G.glob hr
  have s2 : starEach [r] X.env = [(false, eval r X.env)] := pln_star hq _
  have s1 : starEach [l, r] X.env = [(false, eval l X.env), (false, eval r X.env)] := by rw [pln_star hp, s2]
  refine (pi_range2 z1 (G.blt _ (by decide +kernel)) (pa_cons (frzPE ha) (pa_cons (frzPE hb) pa_nil (pln_star hq _)) (pln_star hp _)) s1 s2).weak fun σ H R ⟨g, fr, S, rel, h⟩ => ⟨g, fr, S, rel, ?_⟩
  refine (Aft.bind rD_tmp h).imp fun x H1 ⟨d1, fr1, S1, g1, k1, rel1, r1, t1, h1⟩ => ⟨g1, fr1, S1, rel1, ?_⟩
  refine (Aft.bind rD_tmp h1).imp fun y H2 ⟨d2, fr2, S2, g2, k2, rel2, r2, t2, h2⟩ => ?_
  cases d1 with
  | int i =>
    cases d2 with
    | int j =>
      obtain rfl := RD.of_int r1.2
      obtain rfl := RD.of_int r2.2
      have h2' : Aft X.K X.mg W (rW X.K) g2 H2 σ (if rgOk i j then .ok (rgD i j) fr2 S2 else .no) R := h2
      by_cases hc : rgOk i j = true
      · rw [if_pos hc] at h2'
        exact ⟨i, j, rfl, rgOk_of hc, h2' g2 H2 _ Keep.refl rel2 ⟨rfl, walks_rng i j⟩⟩
      · rw [if_neg hc] at h2'; exact h2'.elim
    | _ => exact h2.elim
  | _ => exact h2.elim

/-! ### comprehensions -/
theorem own_slots (N : List Str) (tg : Tg) : (tg.own N).map (·.2) = tg.slots := by
  unfold Tg.own
  rw [List.map_map]
  exact List.map_id' _
theorem wipe_length' (σ : L2.St) : ∀ vs : List Nat, (wipe σ vs).length = σ.length
  | [] => rfl
  | v :: vs => by show ((wipe σ vs).set v none).length = _; rw [List.length_set, wipe_length' σ vs]
theorem wipe_in {σ : L2.St} {i : Nat} : ∀ {vs : List Nat}, i ∈ vs → i < σ.length → (wipe σ vs)[i]? = some none
  | [], h, _ => nomatch h
  | v :: vs, h, hl => by
    show ((wipe σ vs).set v none)[i]? = some none
    by_cases e : v = i
    · subst e; rw [List.getElem?_set_self (by rw [wipe_length']; exact hl)]
    · rw [List.getElem?_set_ne e]
      exact wipe_in ((List.mem_cons.mp h).resolve_left fun z => e z.symm) hl
theorem wipe_eq {σ σ' : L2.St} {vs : List Nat} (hl : σ'.length = σ.length) (h : ∀ i, i ∉ vs → σ'[i]? = σ[i]?) : wipe σ' vs = wipe σ vs := by
  apply List.ext_getElem?
  intro i
  by_cases hi : i ∈ vs
  · by_cases hb : i < σ.length
    · rw [wipe_in hi hb, wipe_in hi (by rw [hl]; exact hb)]
    · rw [List.getElem?_eq_none (by rw [wipe_length', hl]; omega), List.getElem?_eq_none (by rw [wipe_length']; omega)]
  · rw [wipe_out hi, wipe_out hi, h i hi]
theorem wipe_wipe {σ σ' : L2.St} {vs : List Nat} (hl : σ'.length = (wipe σ vs).length) (h : ∀ i, i ∉ vs → σ'[i]? = (wipe σ vs)[i]?) : wipe σ' vs = wipe σ vs :=
  wipe_eq (by rw [hl, wipe_length']) fun i hi => by rw [h i hi, wipe_out hi]
theorem Rel.wipe {K : PySem.W.Frag} {mg : Str → Option Value} {g : Gh} {fr : Frame} {S : Store} {σ : L2.St} {H : Hp} (r : Rel K mg g fr S σ H) : ∀ vs : List Nat, Rel K mg g (wipeF fr vs) S (L2.wipe σ vs) H
  | [] => r
  | v :: vs => (Rel.wipe r vs).setNoneV
theorem backF_length (old fr : Frame) : ∀ vs : List Nat, (backF old fr vs).length = fr.length
  | [] => rfl
  | v :: vs => by show ((backF old fr vs).set v _).length = _; rw [List.length_set, backF_length old fr vs]
theorem backF_in {old fr : Frame} {i : Nat} : ∀ {vs : List Nat}, i ∈ vs → i < fr.length → (backF old fr vs)[i]? = some (old.getD i none)
  | [], h, _ => nomatch h
  | v :: vs, h, hl => by
    show ((backF old fr vs).set v (old.getD v none))[i]? = _
    by_cases e : v = i
    · subst e; rw [List.getElem?_set_self (by rw [backF_length]; exact hl)]
    · rw [List.getElem?_set_ne e]
      exact backF_in ((List.mem_cons.mp h).resolve_left fun z => e z.symm) hl
theorem backF_out {old fr : Frame} {i : Nat} : ∀ {vs : List Nat}, i ∉ vs → (backF old fr vs)[i]? = fr[i]?
  | [], _ => rfl
  | v :: vs, h => by
    show ((backF old fr vs).set v (old.getD v none))[i]? = _
    rw [List.getElem?_set_ne (fun z => h (by rw [z]; exact List.mem_cons_self))]
    exact backF_out fun z => h (List.mem_cons_of_mem _ z)
theorem calmF_at {fr : Frame} {vs : List Nat} {i : Nat} {cl : Cell} (h : calmF fr vs = true) (hi : i ∈ vs) (e : fr[i]? = some (some (.own cl))) : False := by
  unfold calmF at h
  have := List.all_eq_true.mp h i hi
  rw [List.getD_eq_getElem?_getD, e] at this
  exact nomatch this
theorem Rel.back {K : PySem.W.Frag} {mg : Str → Option Value} {g g' : Gh} {fr fr' : Frame} {S S' : Store} {σ : L2.St} {H H' : Hp} {vs : List Nat} (r : Rel K mg g fr S σ H) (r' : Rel K mg g' fr' S' (L2.wipe σ vs) H') (k : Keep g H g' H') (hc : calmF fr vs = true) :
    Rel K mg g' (backF fr fr' vs) S' σ H' := by
  have hl : fr'.length = fr.length := by rw [r'.len, wipe_length', r.len]
  have get_in : ∀ (j : Nat) v, j ∈ vs → (backF fr fr' vs)[j]? = some (some v) → fr[j]? = some (some v) := fun j v hj e => by
    have hb : j < fr'.length := by
      have := (List.getElem?_eq_some_iff.mp e).1
      rw [backF_length] at this; exact this
    rw [backF_in hj hb] at e
    rw [List.getD_eq_getElem?_getD] at e
    cases q : fr[j]? with
    | none => rw [q] at e; cases e
    | some o => rw [q] at e; exact congrArg some (Option.some.inj e)
  have own_out : ∀ (j : Nat) cl, (backF fr fr' vs)[j]? = some (some (.own cl)) → j ∉ vs := fun j cl e hj => calmF_at hc hj (get_in j _ hj e)
  refine ⟨by rw [backF_length, r'.len, wipe_length'], fun j v e => ?_, fun i j c1 c2 a ne e1 e2 e3 => ?_, r'.st⟩
  · by_cases hj : j ∈ vs
    · have e' := get_in j v hj e
      obtain ⟨x, e1, s⟩ := r.slot j v e'
      refine ⟨x, e1, ?_⟩
      cases v with
      | fz d => exact RD.mono k.mono s
      | own cl => exact (calmF_at hc hj e').elim
    · rw [backF_out hj] at e
      obtain ⟨x, e1, s⟩ := r'.slot j v e
      rw [wipe_out hj] at e1
      exact ⟨x, e1, s⟩
  · have n1 := own_out i c1 e1
    have n2 := own_out j c2 e2
    rw [backF_out n1] at e1
    rw [backF_out n2] at e2
    have := r'.apart i j c1 c2 a ne e1 e2 (by rw [wipe_out n1]; exact e3)
    rw [wipe_out n2] at this
    exact this
theorem wk_comp {elt : Xp} {tg : Tg} {it : Wk} {cs : Xs} : ∀ σ H Q, tV c X W cf (.comp elt tg it cs) σ H Q →
    tLc (tWk c X W cf it) (gT X tg) (tX X.K X.mg (fun _ _ _ _ => False) rId (evC cf c.gl cs)) (tX X.K X.mg (fun _ _ _ _ => False) (rD X.K) (fun fr S => frzX (ev cf c.gl elt fr S))) ((tg.own c.N).map (·.2)) σ H Q := fun σ H Q ⟨g, fr, S, rel, h⟩ => by
  rw [own_slots]
  refine ⟨g, fr, S, rel, (Aft.bind rW_tmp h).imp fun J H1 ⟨ds, fr1, S1, g1, k1, rel1, r1, t1, h1⟩ => fun p hp => ?_⟩
  have h1' : Aft X.K X.mg W (rV X.K X.mg) g1 H1 σ (if calmF fr1 tg.slots then
      match compGo tg (evC cf c.gl cs) (fun fr S => frzX (ev cf c.gl elt fr S)) ds [] (wipeF fr1 tg.slots) S1 with
      | .ok acc fr' S' => .ok (.own (.lst acc)) (backF fr1 fr' tg.slots) S'
      | _ => .no else .no) Q := h1
  by_cases hcalm : calmF fr1 tg.slots = true
  · rw [if_pos hcalm] at h1'
    cases hR : compGo tg (evC cf c.gl cs) (fun fr S => frzX (ev cf c.gl elt fr S)) ds [] (wipeF fr1 tg.slots) S1 with
    | no => rw [hR] at h1'; exact h1'.elim
    | ex e f s => rw [hR] at h1'; exact h1'.elim
    | ok acc0 fr0 S0 =>
      rw [hR] at h1'
      obtain ⟨GG, Y, wk, hG, hY⟩ := r1.2
      have ntmp : p ∉ g1.tmp := fun z => rel1.st.fresh hp (.inr (.inr z))
      refine lc_it wk (fun j H2 => ∃ g2 fr2 S2 acc vacc, Keep g1 H1 g2 H2 ∧ g2.tmp = p :: g1.tmp ∧ Rel X.K X.mg g2 fr2 S2 (L2.wipe σ tg.slots) H2 ∧ H2 p = some (.lst vacc) ∧ RDs X.K g2 H2 acc vacc ∧
          compGo tg (evC cf c.gl cs) (fun fr S => frzX (ev cf c.gl elt fr S)) (ds.drop j) acc fr2 S2 = .ok acc0 fr0 S0)
        ⟨g1.push p, wipeF fr1 tg.slots, S1, [], [], keep_push hp, rfl, (rel1.push hp).wipe _, upd_same, .nil, hR⟩ (fun j H2 _ ⟨g2, _, _, _, _, kp, _⟩ => hG g2 H2 kp) ?_ ?_
      · rintro j x H2 H2' hj ⟨g2, fr2, S2, acc, vacc, kp, tm, rl, hv, racc, hgo⟩ hy
        obtain ⟨gr, d, ed, rd⟩ := hY j g2 H2 x H2' kp hj hy
        have rl' := rl.grows gr
        have hv' : H2' p = some (.lst vacc) := gr _ _ hv
        have racc' : RDs X.K g2 H2' acc vacc := racc.mono gr.mono
        have kp' : Keep g1 H1 g2 H2' := kp.trans gr.keep
        have ptmp : p ∈ g2.tmp := by rw [tm]; exact List.mem_cons_self
        have edrop : ds.drop j = d :: ds.drop (j + 1) := by
          obtain ⟨hb, e⟩ := List.getElem?_eq_some_iff.mp ed
          rw [List.drop_eq_getElem_cons hb, e]
        rw [edrop] at hgo
        have hgo' : (match asg tg d fr2 with
          | none => RX.no
          | some fr1 => match evC cf c.gl cs fr1 S2 with
            | .ok true fr2 S2 => match frzX (ev cf c.gl elt fr2 S2) with
              | .ok y fr3 S3 => if acc.length < sizeLine then compGo tg (evC cf c.gl cs) (fun fr S => frzX (ev cf c.gl elt fr S)) (ds.drop (j + 1)) (acc ++ [y]) (wipeF fr3 tg.slots) S3 else .no
              | _ => .no
            | .ok false fr2 S2 => compGo tg (evC cf c.gl cs) (fun fr S => frzX (ev cf c.gl elt fr S)) (ds.drop (j + 1)) acc (wipeF fr2 tg.slots) S2
            | _ => .no) = RX.ok acc0 fr0 S0 := hgo
        cases q1 : asg tg d fr2 with
        | none => rw [q1] at hgo'; cases hgo'
        | some fr3 =>
          rw [q1] at hgo'
          refine ⟨g2, fr2, S2, d, fr3, rl', rd, q1, fun σ2 rel2 l2 s2 => ⟨wipe_wipe l2 s2, ?_⟩⟩
          have ew : L2.wipe σ2 tg.slots = L2.wipe σ tg.slots := wipe_wipe l2 s2
          refine ⟨g2, fr3, S2, rel2, ?_⟩
          dsimp only at hgo'
          cases q2 : evC cf c.gl cs fr3 S2 with
          | no => rw [q2] at hgo'; cases hgo'
          | ex e f s => rw [q2] at hgo'; cases hgo'
          | ok bb fr4 S4 =>
            rw [q2] at hgo'
            intro g4 H4 b' k4 rel4 ⟨t4, eb⟩
            subst eb
            have p4 : p ∈ g4.tmp := by rw [t4]; exact ptmp
            have hv4 : H4 p = some (.lst vacc) := (k4.keep p _ hv' (fun z => (rel2.st.rt p z).2 ptmp) (fun z => rel2.st.ot p z ptmp)).1
            cases bb with
            | false =>
              refine iteF ⟨g4, wipeF fr4 tg.slots, S4, acc, vacc, kp'.trans k4, t4.trans tm, ?_, hv4, racc'.mono k4.mono, hgo'⟩
              have := rel4.wipe tg.slots
              rw [ew] at this
              exact this
            | true =>
              refine iteT ⟨g4, fr4, S4, rel4, ?_⟩
              dsimp only at hgo'
              show Aft X.K X.mg _ (rD X.K) g4 H4 σ2 (frzX (ev cf c.gl elt fr4 S4)) _
              cases q3 : frzX (ev cf c.gl elt fr4 S4) with
              | no => rw [q3] at hgo'; cases hgo'
              | ex e f s => rw [q3] at hgo'; cases hgo'
              | ok y fr5 S5 =>
                rw [q3] at hgo'
                intro g5 H5 yv k5 rel5 ⟨t5, ry⟩
                dsimp only at hgo'
                have hv5 : H5 p = some (.lst vacc) := (k5.keep p _ hv4 (fun z => (rel4.st.rt p z).2 p4) (fun z => rel4.st.ot p z p4)).1
                have p5 : p ∈ g5.tmp := by rw [t5]; exact p4
                by_cases hz : acc.length < sizeLine
                · rw [if_pos hz] at hgo'
                  refine ⟨vacc, hv5, by rw [← racc.length]; exact hz, ?_⟩
                  obtain ⟨m5, rel6⟩ := rel5.mutT (o := .lst (vacc ++ [yv])) p5 hv5
                  have kk := (kp'.trans k4).trans k5
                  refine ⟨g5, wipeF fr5 tg.slots, S5, acc ++ [y], vacc ++ [yv], ⟨fun a o e n1 n2 => ?_, kk.tmp, fun a xs e => m5.tups _ _ (kk.tups _ _ e), kk.pre⟩, t5.trans (t4.trans tm), ?_, upd_same, ((((racc'.mono k4.mono).mono k5.mono).mono m5).append (.one (ry.mono m5))), hgo'⟩
                  · obtain ⟨q, w1, w2⟩ := kk.keep a o e n1 n2
                    exact ⟨by rw [upd_ne (ne_of_none e hp)]; exact q, w1, w2⟩
                  · have := rel6.wipe tg.slots
                    rw [ew] at this
                    exact this
                · rw [if_neg hz] at hgo'; cases hgo'
      · rintro H2 ⟨g2, fr2, S2, acc, vacc, kp, tm, rl, hv, racc, hgo⟩
        rw [List.drop_length] at hgo
        have hgo' : RX.ok acc fr2 S2 = RX.ok acc0 fr0 S0 := hgo
        cases hgo'
        exact h1' g2 H2 (.ref p) kp (rel1.back rl kp hcalm) ⟨p, rfl, tm, ntmp, vacc, hv, racc⟩
  · rw [if_neg hcalm] at h1'; exact h1'.elim
theorem se_comp (G : Good c X W cf) {elt : Xp} {tg : Tg} {it : Wk} {cs : Xs} {el t i : Expr} {fs : List Expr} {sc : Scope} (hok : blkC c.N c.sc sc (tg.own c.N) = true) (hp : pln i = true) (hi : PI X t i (tWk c X W cf it))
    (hg : ∀ (s : Shared) (H : Hp) (C : Addr) (cl : List (Str × Addr)) (fp : List Addr), PG (X.blk s H sc (compEnvC sc cl C X.env) fp) t (gT X tg))
    (ht : ∀ (s : Shared) (H : Hp) (C : Addr) (cl : List (Str × Addr)) (fp : List Addr), PTs (X.blk s H sc (compEnvC sc cl C X.env) fp) fs (tX X.K X.mg (fun _ _ _ _ => False) rId (evC cf c.gl cs)))
    (he : ∀ (s : Shared) (H : Hp) (C : Addr) (cl : List (Str × Addr)) (fp : List Addr), PE (X.blk s H sc (compEnvC sc cl C X.env) fp) el (tX X.K X.mg (fun _ _ _ _ => False) (rV X.K X.mg) (ev cf c.gl elt))) :
    PE X (.ListComp el [⟨t, i, fs, 0⟩] sc pos) (tV c X W cf (.comp elt tg it cs)) := by
  have hok' : BlkOk X.N X.env.scope sc (tg.own c.N) := by rw [G.N, G.sc]; exact blkOk_by hok
  exact (pe_lc G.calm (by rw [G.N]; exact G.nd) hi hok' hg ht (fun s H C cl fp => frzPE (he s H C cl fp)) (pln_fold hp _)).weak wk_comp
end
end Eng
end

section
/-! The engine, part X: more expressions: -x, {}, sorted(set(x)), min(x, default=y), range(a, b, -1). -/
namespace Eng
open PySem PySem.Spec PyProof.Rows L2
section
variable {c : SC} {X : Cx} {W : WX} {cf : CF} {pos : Pos} {a b d : Xp} {l r z : Expr}
theorem se_neg (ha : PE X l (tV c X W cf a)) : PE X (.UnaryOp .USub l pos) (tV c X W cf (.neg a)) := by
  refine (pe_un un_neg (frzPE ha)).weak fun σ H Q ⟨g, fr, S, rel, h⟩ => ⟨g, fr, S, rel, ?_⟩
  refine (Aft.bind rD_tmp h).imp fun x H1 ⟨d1, fr1, S1, g1, k1, rel1, r1, t1, h1⟩ => ?_
  cases d1 with
  | int i =>
    obtain rfl := RD.of_int r1.2
    exact ⟨i, rfl, fin_old h1 rel1 (.int _)⟩
  | _ => exact h1.elim
theorem fin_own {cl : Cell} {g : Gh} {H : Hp} {fr : Frame} {S : Store} {σ : L2.St} {Q : VK} {o : HO} {p : Addr} (h : Aft X.K X.mg W (rV X.K X.mg) g H σ (.ok (.own cl) fr S) Q) (rel : Rel X.K X.mg g fr S σ H) (hp : H p = none)
    (hc : ∀ g' H', H' p = some o → CellR X.K X.mg g' H' p cl) : Q (.ref p) (upd H p o) :=
  h (g.push p) _ _ (keep_push hp) (rel.push hp) ⟨p, rfl, rfl, fun z => rel.st.fresh hp (.inr (.inr z)), hc _ _ upd_same⟩
theorem se_dic0 (t : Bool) : PE X (.Dict [] [] pos) (tV c X W cf (.dic0 t)) := by
  cases t with
  | true => exact pe_dnewT.weak fun σ H Q ⟨g, fr, S, rel, h⟩ p hp => fin_own h rel hp fun g' H' e => ⟨[], e, rfl, .nil⟩
  | false => exact pe_dnewK.weak fun σ H Q ⟨g, fr, S, rel, h⟩ p hp => fin_own h rel hp fun g' H' e => ⟨[], e, rfl, .nil⟩
theorem se_sortset (G : Good c X W cf) {p p2 p3 : Pos} (hl : glB c "sorted" = true) (hr : glB c "set" = true) (hb : PE X r (tV c X W cf b)) (hp : pln r = true) :
    PE X (.Call (.Name "sorted" p) [.Call (.Name "set" p2) [r] [] p3] [] pos) (tV c X W cf (.sortset b)) := by
  obtain ⟨g1, g2⟩ := G.glob hl
  obtain ⟨z1, z2⟩ := G.glob hr
  refine (pe_sortset g1 (G.blt _ (by decide +kernel)) z1 (G.blt _ (by decide +kernel)) (frzPE hb) G.calm (pln_star hp _)).weak fun σ H Q ⟨g, fr, S, rel, h⟩ => ⟨g, fr, S, rel, ?_⟩
  refine (Aft.bind rD_tmp h).imp fun x H1 ⟨d1, fr1, S1, g1, k1, rel1, r1, t1, h1⟩ => ?_
  have key : ∀ (ys : List D) (vs : List V) (q : Addr), (SqL X.K H1 q vs ∨ SqT X.K H1 q vs) → RDs X.K g1 H1 ys vs → Aft X.K X.mg W (rV X.K X.mg) g1 H1 σ (RX.lift ((intL ys).bind fun ns => if ns.length ≤ 60 then some (Val.own (.lst ((setI ns).map .int))) else none) fr1 S1) Q →
      ∃ (l : Addr) (ns : List Int), V.ref q = .ref l ∧ (SqL X.K H1 l (ns.map V.int) ∨ SqT X.K H1 l (ns.map V.int)) ∧ ns.length ≤ 60 ∧ ∀ (ms : List Int) (p : Addr), ms.Pairwise (· < ·) → (∀ k, k ∈ ms ↔ k ∈ ns) → H1 p = none → Q (.ref p) (upd H1 p (.lst (ms.map V.int))) := by
    intro ys vs q hs h3 h4
    cases q1 : intL ys with
    | none => rw [q1] at h4; exact h4.elim
    | some ns =>
      rw [q1] at h4
      obtain rfl := intL_rel h3 q1
      have h5 : Aft X.K X.mg W (rV X.K X.mg) g1 H1 σ (RX.lift (if ns.length ≤ 60 then some (Val.own (.lst ((setI ns).map .int))) else none) fr1 S1) Q := h4
      by_cases hc : ns.length ≤ 60
      · rw [if_pos hc] at h5
        refine ⟨q, ns, rfl, hs, hc, fun ms p pw mm hp => ?_⟩
        rw [setI_one pw mm]
        exact fin_lst h5 rel1 (ints_rel _) hp
      · rw [if_neg hc] at h5; exact h5.elim
  cases d1 with
  | lst ys =>
    obtain ⟨q, vs, rfl, h2, _, h3⟩ := r1.2.tracked_lst
    exact key ys vs q (.inl (SqL.of h2)) h3 h1
  | tup ys =>
    obtain ⟨q, vs, rfl, h2, h3⟩ := RD.of_tup r1.2
    exact key ys vs q (.inr h2) h3 h1
  | _ => exact h1.elim

theorem toP_inj : ∀ a b : D, a.pl = true → b.pl = true → a.toP = b.toP → a = b := by
  refine fun a => D.rec (motive_1 := fun a => ∀ b, a.pl = true → b.pl = true → a.toP = b.toP → a = b) (motive_2 := fun a => ∀ b, D.pls a = true → D.pls b = true → D.toPs a = D.toPs b → a = b) ?_ ?_ ?_ ?_ ?_ ?_ ?_ ?_ ?_ ?_ ?_ ?_ a
  · intro b _ h2 h; cases b <;> first | rfl | (cases h2; done) | (cases h; done)
  · intro t b _ h2 h; cases b <;> first | (cases h2; done) | (cases h; done) | (cases h; rfl)
  · intro t b _ h2 h; cases b <;> first | (cases h2; done) | (cases h; done) | (cases h; rfl)
  · intro t b _ h2 h; cases b <;> first | (cases h2; done) | (cases h; done) | (cases h; rfl)
  · intro xs ih b h1 h2 h
    cases b with
    | lst ys => rw [ih ys h1 h2 (PyData.list.inj h)]
    | _ => first | (cases h2; done) | (cases h; done)
  · intro xs ih b h1 h2 h
    cases b with
    | tup ys => rw [ih ys h1 h2 (PyData.tuple.inj h)]
    | _ => first | (cases h2; done) | (cases h; done)
  · intro ks vs _ b h1; cases h1
  · intro ks vs _ b h1; cases h1
  · intro n b h1; cases h1
  · intro xs _ b h1; cases h1
  · intro b _ _ h; cases b with
    | nil => rfl
    | cons _ _ => cases h
  · intro x xs ih1 ih2 b h1 h2 h
    cases b with
    | nil => cases h
    | cons y ys =>
      have h1' : (D.pl x && D.pls xs) = true := h1
      have h2' : (D.pl y && D.pls ys) = true := h2
      rw [Bool.and_eq_true] at h1' h2'
      obtain ⟨e1, e2⟩ := List.cons.inj (show D.toP x :: D.toPs xs = D.toP y :: D.toPs ys from h)
      rw [ih1 y h1'.1 h2'.1 e1, ih2 ys h1'.2 h2'.2 e2]
theorem toPs_map : ∀ xs : List D, D.toPs xs = xs.map D.toP
  | [] => rfl
  | x :: xs => by show D.toP x :: D.toPs xs = _; rw [toPs_map xs]; rfl
theorem pls_mem : ∀ {xs : List D}, D.pls xs = true → ∀ x ∈ xs, D.pl x = true
  | y :: ys, h, x, hx => by
    have h' : (D.pl y && D.pls ys) = true := h
    rw [Bool.and_eq_true] at h'
    rcases List.mem_cons.mp hx with rfl | hx
    · exact h'.1
    · exact pls_mem h'.2 x hx
theorem minL_toP : ∀ (ys : List D) (y : D), PySem.W.minD y.toP (D.toPs ys) = (minL y ys).toP
  | [], y => rfl
  | z :: ys, y => by
    show (D.toPs ys).foldl _ (if PySem.W.dataLt z.toP y.toP then z.toP else y.toP) = (ys.foldl _ (if D.ltb z y then z else y)).toP
    have e : (if PySem.W.dataLt z.toP y.toP = true then z.toP else y.toP) = (if D.ltb z y = true then z else y).toP := by
      show _ = (if PySem.W.dataLt z.toP y.toP = true then z else y).toP
      split <;> rfl
    rw [e]
    exact minL_toP ys _
theorem minL_mem : ∀ (ys : List D) (y : D), minL y ys ∈ y :: ys
  | [], y => List.mem_cons_self
  | z :: ys, y => by
    have h : minL y (z :: ys) = minL (if D.ltb z y then z else y) ys := rfl
    rw [h]
    rcases List.mem_cons.mp (minL_mem ys (if D.ltb z y then z else y)) with e | e
    · rw [e]; split
      · exact List.mem_cons_of_mem _ List.mem_cons_self
      · exact List.mem_cons_self
    · exact List.mem_cons_of_mem _ (List.mem_cons_of_mem _ e)
theorem isNon_toP {d : D} (h : d.pl = true) (n : d.isNon = false) : d.toP ≠ .none := by
  cases d <;> first | (cases h; done) | (cases n; done) | (intro e; cases e; done)
theorem se_mind (G : Good c X W cf) {p q : Pos} (hg : glB c "min" = true) (ha : PE X l (tV c X W cf a)) (hb : PE X r (tV c X W cf b)) (hp : pln l = true) :
    PE X (.Call (.Name "min" p) [l] [⟨some "default", r, q⟩] pos) (tV c X W cf (.mind a b)) := by
  obtain ⟨g1, g2⟩ := G.glob hg
  have s1 : starEach [l] X.env = [(false, eval l X.env)] := pln_star hp _
  refine (pe_callBK (cr_minDef G.calm G.un) g1 (G.blt _ (by decide +kernel)) (by decide +kernel) (pa_cons (frzPE ha) pa_nil (pln_star hp _)) (pk_cons (frzPE hb) pk_nil) (by decide +kernel) g2 (by rw [s1]; rfl) (by rw [s1]; rfl)).weak fun σ H Q ⟨g, fr, S, rel, h⟩ => ⟨g, fr, S, rel, ?_⟩
  refine (Aft.bind rD_tmp h).imp fun x H1 ⟨d1, fr1, S1, g1, k1, rel1, r1, t1, h1⟩ => ⟨g1, fr1, S1, rel1, ?_⟩
  refine (Aft.bind rD_tmp h1).imp fun y H2 ⟨d2, fr2, S2, g2, k2, rel2, r2, t2, h2⟩ => ?_
  cases d1 with
  | lst ys =>
    obtain ⟨q, vs, rfl, hq, _, h3⟩ := (r1.2.mono k2.mono).tracked_lst
    cases ys with
    | nil =>
      have e : D.toPs [] = [] := rfl
      cases h3
      exact ⟨q, [], [], y, rfl, rfl, SqL.of hq, .nil, ⟨fun _ z => (nomatch z), fun _ z => (nomatch z)⟩, Nat.zero_le _, fun _ => fin_old h2 rel2 r2.2, fun i v y ys e => (nomatch e)⟩
    | cons w ys =>
      have h2' : Aft X.K X.mg W (rV X.K X.mg) g2 H2 σ (RX.lift ((if alkD (w :: ys) then some (minL w ys) else none).map Val.fz) fr2 S2) Q := h2
      by_cases hk : alkD (w :: ys) = true
      · rw [if_pos hk] at h2'
        unfold alkD at hk
        rw [Bool.and_eq_true, Bool.and_eq_true] at hk
        obtain ⟨⟨p1, p2⟩, p3⟩ := hk
        have p2 := of_decide_eq_true p2
        rw [List.all_eq_true] at p3
        have dp := RDs.dp _ _ h3 p1
        refine ⟨q, vs, D.toPs (w :: ys), y, rfl, rfl, SqL.of hq, dp, ⟨fun x hx z hz => ?_, fun x hx => ?_⟩, by rw [toPs_dep _ p1]; exact p2, fun e => (nomatch e), fun i v y0 ys0 e hv hm => ?_⟩
        · rw [toPs_map] at hx hz
          obtain ⟨x', hx', rfl⟩ := List.mem_map.mp hx
          obtain ⟨z', hz', rfl⟩ := List.mem_map.mp hz
          have := p3 x' hx'
          rw [Bool.and_eq_true, List.all_eq_true] at this
          exact this.2 z' hz'
        · rw [toPs_map] at hx
          obtain ⟨x', hx', rfl⟩ := List.mem_map.mp hx
          have := p3 x' hx'
          rw [Bool.and_eq_true, Bool.not_eq_true'] at this
          exact isNon_toP (pls_mem p1 x' hx') this.1
        · obtain ⟨rfl, rfl⟩ := List.cons.inj (show D.toP w :: D.toPs ys = y0 :: ys0 from e)
          obtain ⟨dv, hd1, hd2⟩ := h3.getV hv
          have e1 : (D.toPs (w :: ys))[i]? = some dv.toP := by rw [toPs_map, List.getElem?_map, hd1]; rfl
          rw [e1, minL_toP] at hm
          have hm := Option.some.inj hm
          have : dv = minL w ys := toP_inj _ _ (pls_mem p1 dv (List.mem_of_getElem? hd1)) (pls_mem p1 _ (minL_mem ys w)) hm
          subst this
          exact fin_old h2' rel2 hd2
      · rw [if_neg hk] at h2'; exact h2'.elim
  | _ => exact h2.elim
theorem walks_rngN {K : PySem.W.Frag} {g : Gh} {H : Hp} (lo hi : Int) : WalksD K (Itc lo (-1) (lo - hi).toNat) g H (rgN lo hi) := by
  have hl : (rgN lo hi).length = (lo - hi).toNat := by unfold rgN; rw [List.length_map, List.length_range]
  refine ⟨_, _, by rw [hl]; exact walk_rangeC, fun _ _ _ => trivial, fun i g' H' x H2 k hi' y => ?_⟩
  obtain ⟨rfl, rfl⟩ := y
  refine ⟨Grows.refl, .int (lo - (i : Nat)), ?_, ?_⟩
  · unfold rgN
    rw [List.getElem?_map, List.getElem?_range (by rw [hl] at hi'; exact hi')]
    rfl
  · have e : lo + (i : Nat) * (-1) = lo - (i : Nat) := by omega
    show RD K g' H2 (D.int (lo - (i : Nat))) (V.int (lo + (i : Nat) * (-1)))
    rw [e]; exact .int _
theorem sw_rng3 (G : Good c X W cf) {p : Pos} {tge : Expr} (hr : glB c "range" = true) (ha : PE X l (tV c X W cf a)) (hb : PE X r (tV c X W cf b)) (hd : PE X z (tV c X W cf d)) (hp : pln l = true) (hq : pln r = true) (hz : pln z = true) :
    PI X tge (.Call (.Name "range" p) [l, r, z] [] pos) (tWk c X W cf (.rng3 a b d)) := by
  obtain ⟨z1, z2⟩ := G.glob hr
  have s3 : starEach [z] X.env = [(false, eval z X.env)] := pln_star hz _
  have s2 : starEach [r, z] X.env = [(false, eval r X.env), (false, eval z X.env)] := by rw [pln_star hq, s3]
  refine (pi_range3 z1 (G.blt _ (by decide +kernel)) (pa_cons (frzPE ha) (pa_cons (frzPE hb) (pa_cons (frzPE hd) pa_nil (pln_star hz _)) (pln_star hq _)) (pln_star hp _)) (pln_star hp _) (by rw [s2]; rfl)).weak fun σ H R ⟨g, fr, S, rel, h⟩ => ⟨g, fr, S, rel, ?_⟩
  refine (Aft.bind rD_tmp h).imp fun x H1 ⟨d1, fr1, S1, g1, k1, rel1, r1, t1, h1⟩ => ⟨g1, fr1, S1, rel1, ?_⟩
  refine (Aft.bind rD_tmp h1).imp fun y H2 ⟨d2, fr2, S2, g2, k2, rel2, r2, t2, h2⟩ => ⟨g2, fr2, S2, rel2, ?_⟩
  refine (Aft.bind rD_tmp h2).imp fun w H3 ⟨d3, fr3, S3, g3, k3, rel3, r3, t3, h3⟩ => ?_
  cases d1 with
  | int i =>
    cases d2 with
    | int j =>
      cases d3 with
      | int k =>
        obtain rfl := RD.of_int r1.2
        obtain rfl := RD.of_int r2.2
        obtain rfl := RD.of_int r3.2
        have h3' : Aft X.K X.mg W (rW X.K) g3 H3 σ (if k = -1 ∧ rgOk i j = true then .ok (rgN i j) fr3 S3 else .no) R := h3
        by_cases hc : k = -1 ∧ rgOk i j = true
        · rw [if_pos hc] at h3'
          obtain ⟨rfl, hc⟩ := hc
          obtain ⟨b1, b2, b3, b4⟩ := rgOk_of hc
          exact ⟨i, j, -1, _, rfl, RgC.neg b1 b2 b3 b4, h3' g3 H3 _ Keep.refl rel3 ⟨rfl, walks_rngN i j⟩⟩
        · rw [if_neg hc] at h3'; exact h3'.elim
      | _ => exact h3.elim
    | _ => exact h3.elim
  | _ => exact h3.elim
end
end Eng
end

section
/-! The engine, part K: every expression. -/
namespace Eng
open PySem PySem.Spec PyProof.Rows L2

abbrev SV (m : Xp) : Prop := ∀ (c : SC) (X : Cx) (W : WX) (cf : CF), Good c X W cf → (∀ e, (chk2 m c).v e = true → PE X e (tV c X W cf m)) ∧ ∀ e, (chk2 m c).t e = true → PT X e (tTs c X W cf m)
theorem and2 {a b : Bool} (h : (a && b) = true) : a = true ∧ b = true := by rw [Bool.and_eq_true] at h; exact h
mutual
theorem sv : ∀ m : Xp, SV m
  | .con d => fun c X W cf G => ⟨fun e h => by
      cases e with
      | Constant k j p => exact se_con d h
      | _ => exact (nomatch h), fun e h => (nomatch h)⟩
  | .var i => fun c X W cf G => ⟨fun e h => by
      cases e with
      | Name x p => exact se_var G h
      | _ => exact (nomatch h), fun e h => by
      cases e with
      | Name x p => exact st_truth (fun _ => rfl) (se_var G h)
      | _ => exact (nomatch h)⟩
  | .glo x => fun c X W cf G => ⟨fun e h => by
      cases e with
      | Name y p =>
        obtain ⟨h1, h2⟩ := and2 h
        obtain rfl := of_decide_eq_true h1
        exact se_glo G h2
      | _ => exact (nomatch h), fun e h => (nomatch h)⟩
  | .bin k a b => fun c X W cf G => ⟨fun e h => by
      cases e with
      | BinOp l o r p =>
        obtain ⟨h, h3⟩ := and2 h
        obtain ⟨h1, h2⟩ := and2 h
        obtain rfl := of_decide_eq_true h1
        exact se_bin k ((sv a c X W cf G).1 _ h2) ((sv b c X W cf G).1 _ h3)
      | _ => exact (nomatch h), fun e h => (nomatch h)⟩
  | .cmp k a b => fun c X W cf G => ⟨fun e h => by
      cases e with
      | Compare l os rs p =>
        cases os with
        | nil => exact (nomatch h)
        | cons o os => cases os with
          | cons _ _ => cases rs with
            | nil => exact (nomatch h)
            | cons _ _ => exact (nomatch h)
          | nil => cases rs with
            | nil => exact (nomatch h)
            | cons r rs => cases rs with
              | cons _ _ => exact (nomatch h)
              | nil =>
                obtain ⟨h, h4⟩ := and2 h
                obtain ⟨h, h3⟩ := and2 h
                obtain ⟨h1, h2⟩ := and2 h
                obtain rfl := of_decide_eq_true h1
                exact se_cmp G k ((sv a c X W cf G).1 _ h3) ((sv b c X W cf G).1 _ h4) h2
      | _ => exact (nomatch h), fun e h => by
      cases e with
      | Compare l os rs p =>
        cases os with
        | nil => exact (nomatch h)
        | cons o os => cases os with
          | cons _ _ => cases rs with
            | nil => exact (nomatch h)
            | cons _ _ => exact (nomatch h)
          | nil => cases rs with
            | nil => exact (nomatch h)
            | cons r rs => cases rs with
              | cons _ _ => exact (nomatch h)
              | nil =>
                obtain ⟨h, h4⟩ := and2 h
                obtain ⟨h, h3⟩ := and2 h
                obtain ⟨h1, h2⟩ := and2 h
                obtain rfl := of_decide_eq_true h1
                exact st_cmp G k ((sv a c X W cf G).1 _ h3) ((sv b c X W cf G).1 _ h4) h2
      | _ => exact (nomatch h)⟩
  | .chain k m a b d => fun c X W cf G =>
    have main : ∀ e, (chk2 (.chain k m a b d) c).v e = true → ∃ x o o' y z p, e = .Compare x [o, o'] [y, z] p ∧ o = k.op ∧ o' = m.op ∧ pln z = true ∧ (chk2 a c).v x = true ∧ (chk2 b c).v y = true ∧ (chk2 d c).v z = true := fun e h => by
      cases e with
      | Compare x os rs p =>
        cases os with
        | nil => exact (nomatch h)
        | cons o os => cases os with
          | nil => cases rs with
            | nil => exact (nomatch h)
            | cons _ _ => exact (nomatch h)
          | cons o' os => cases os with
            | cons _ _ => cases rs with
              | nil => exact (nomatch h)
              | cons _ rs => cases rs with
                | nil => exact (nomatch h)
                | cons _ _ => exact (nomatch h)
            | nil => cases rs with
              | nil => exact (nomatch h)
              | cons y rs => cases rs with
                | nil => exact (nomatch h)
                | cons z rs => cases rs with
                  | cons _ _ => exact (nomatch h)
                  | nil =>
                    obtain ⟨h, h6⟩ := and2 h
                    obtain ⟨h, h5⟩ := and2 h
                    obtain ⟨h, h4⟩ := and2 h
                    obtain ⟨h, h3⟩ := and2 h
                    obtain ⟨h1, h2⟩ := and2 h
                    exact ⟨x, o, o', y, z, p, rfl, of_decide_eq_true h1, of_decide_eq_true h2, h3, h4, h5, h6⟩
      | _ => exact (nomatch h)
    ⟨fun e h => by
      obtain ⟨x, o, o', y, z, p, rfl, rfl, rfl, h3, h4, h5, h6⟩ := main e h
      exact se_chain G k m ((sv a c X W cf G).1 _ h4) ((sv b c X W cf G).1 _ h5) ((sv d c X W cf G).1 _ h6) h3, fun e h => by
      obtain ⟨x, o, o', y, z, p, rfl, rfl, rfl, h3, h4, h5, h6⟩ := main e h
      exact st_chain G k m ((sv a c X W cf G).1 _ h4) ((sv b c X W cf G).1 _ h5) ((sv d c X W cf G).1 _ h6) h3⟩
  | .not a => fun c X W cf G => ⟨fun e h => by
      cases e with
      | UnaryOp o x p => cases o with
        | Not => exact se_not ((sv a c X W cf G).1 _ h)
        | _ => exact (nomatch h)
      | _ => exact (nomatch h), fun e h => by
      cases e with
      | UnaryOp o x p => cases o with
        | Not => exact st_not ((sv a c X W cf G).2 _ h)
        | _ => exact (nomatch h)
      | _ => exact (nomatch h)⟩
  | .and a b => fun c X W cf G => ⟨fun e h => by
      cases e with
      | BoolOp o vs p => cases o with
        | Or => exact (nomatch h)
        | And => cases vs with
          | nil => exact (nomatch h)
          | cons x vs => cases vs with
            | nil => exact (nomatch h)
            | cons y vs => cases vs with
              | nil => exact se_and1 ((sv a c X W cf G).1 _ (and2 h).1) ((sv b c X W cf G).1 _ (and2 h).2)
              | cons z vs => exact se_and ((sv a c X W cf G).1 _ (and2 h).1) ((sv b c X W cf G).1 _ (and2 h).2)
      | _ => exact (nomatch h), fun e h => by
      cases e with
      | BoolOp o vs p => cases o with
        | Or => exact (nomatch h)
        | And => cases vs with
          | nil => exact (nomatch h)
          | cons x vs => cases vs with
            | nil => exact (nomatch h)
            | cons y vs => cases vs with
              | nil => exact st_and1 ((sv a c X W cf G).2 _ (and2 h).1) ((sv b c X W cf G).2 _ (and2 h).2)
              | cons z vs => exact st_and ((sv a c X W cf G).2 _ (and2 h).1) ((sv b c X W cf G).2 _ (and2 h).2)
      | _ => exact (nomatch h)⟩
  | .or a b => fun c X W cf G => ⟨fun e h => by
      cases e with
      | BoolOp o vs p => cases o with
        | And => exact (nomatch h)
        | Or => cases vs with
          | nil => exact (nomatch h)
          | cons x vs => cases vs with
            | nil => exact (nomatch h)
            | cons y vs => cases vs with
              | nil => exact se_or1 ((sv a c X W cf G).1 _ (and2 h).1) ((sv b c X W cf G).1 _ (and2 h).2)
              | cons z vs => exact se_or ((sv a c X W cf G).1 _ (and2 h).1) ((sv b c X W cf G).1 _ (and2 h).2)
      | _ => exact (nomatch h), fun e h => by
      cases e with
      | BoolOp o vs p => cases o with
        | And => exact (nomatch h)
        | Or => cases vs with
          | nil => exact (nomatch h)
          | cons x vs => cases vs with
            | nil => exact (nomatch h)
            | cons y vs => cases vs with
              | nil => exact st_or1 ((sv a c X W cf G).2 _ (and2 h).1) ((sv b c X W cf G).2 _ (and2 h).2)
              | cons z vs => exact st_or ((sv a c X W cf G).2 _ (and2 h).1) ((sv b c X W cf G).2 _ (and2 h).2)
      | _ => exact (nomatch h)⟩
  | .ife t a b => fun c X W cf G => ⟨fun e h => by
      cases e with
      | IfExp x y z p =>
        obtain ⟨h, h3⟩ := and2 h
        obtain ⟨h1, h2⟩ := and2 h
        exact se_ife ((sv t c X W cf G).2 _ h1) ((sv a c X W cf G).1 _ h2) ((sv b c X W cf G).1 _ h3)
      | _ => exact (nomatch h), fun e h => (nomatch h)⟩
  | .tup es => fun c X W cf G => ⟨fun e h => by
      cases e with
      | Tuple l k p => exact se_tup ((sas es c X W cf G).1 _ h)
      | _ => exact (nomatch h), fun e h => (nomatch h)⟩
  | .lst es => fun c X W cf G => ⟨fun e h => by
      cases e with
      | List l p => exact se_lst ((sas es c X W cf G).1 _ h)
      | _ => exact (nomatch h), fun e h => (nomatch h)⟩
  | .sub a b => fun c X W cf G => ⟨fun e h => by
      cases e with
      | Subscript x y p =>
        obtain ⟨h, h3⟩ := and2 h
        obtain ⟨h1, h2⟩ := and2 h
        exact se_sub G ((sv a c X W cf G).1 _ h2) ((sv b c X W cf G).1 _ h3) h1
      | _ => exact (nomatch h), fun e h => by
      cases e with
      | Subscript x y p =>
        obtain ⟨h, h3⟩ := and2 h
        obtain ⟨h1, h2⟩ := and2 h
        exact st_truth (fun _ => rfl) (se_sub G ((sv a c X W cf G).1 _ h2) ((sv b c X W cf G).1 _ h3) h1)
      | _ => exact (nomatch h)⟩
  | .slice a lo hi => fun c X W cf G =>
    have op : ∀ (m : Xp), SV m → ∀ o, chkO m (chk2 m c).v o = true → PO X o (tX X.K X.mg W rId (evO m (ev cf c.gl m))) := fun m ih o h => so_any (by
      cases o with
      | none =>
        refine .inl ⟨rfl, ?_⟩
        cases m <;> first | rfl | exact (nomatch h)
      | some x =>
        refine .inr ⟨x, rfl, fun z => ?_, ?_⟩
        · subst z; exact (nomatch h)
        · have hn : m ≠ .omit := fun z => by subst z; exact (nomatch h)
          have h' : (chk2 m c).v x = true := by cases m <;> first | exact absurd rfl hn | exact h
          exact (ih c X W cf G).1 _ h')
    ⟨fun e h => by
      cases e with
      | Subscript x y p =>
        cases y with
        | Slice l u s p2 => cases s with
          | none =>
            obtain ⟨h, h3⟩ := and2 h
            obtain ⟨h1, h2⟩ := and2 h
            exact se_slice ((sv a c X W cf G).1 _ h1) (op lo (sv lo) _ h2) (op hi (sv hi) _ h3)
          | some _ => exact (nomatch h)
        | _ => exact (nomatch h)
      | _ => exact (nomatch h), fun e h => (nomatch h)⟩
  | .omit => fun c X W cf G => ⟨fun e h => (nomatch h), fun e h => (nomatch h)⟩
  | .call f es => fun c X W cf G =>
    have main : ∀ e, (chk2 (.call f es) c).v e = true → ∃ p1 y ys p, e = .Call (.Name f p1) (y :: ys) [] p ∧ PE X e (tV c X W cf (.call f es)) := fun e h => by
      cases e with
      | Call g as ks p => cases g with
        | Name x p1 => cases as with
          | nil => exact (nomatch h)
          | cons y ys => cases ks with
            | cons _ _ => exact (nomatch h)
            | nil =>
              obtain ⟨h, h4⟩ := and2 h
              obtain ⟨h, h3⟩ := and2 h
              obtain ⟨h1, h2⟩ := and2 h
              obtain rfl := of_decide_eq_true h1
              exact ⟨p1, y, ys, p, rfl, se_call G h2 h3 ((sas es c X W cf G).1 _ h4) h4⟩
        | _ => exact (nomatch h)
      | _ => exact (nomatch h)
    ⟨fun e h => let ⟨_, _, _, _, _, q⟩ := main e h; q, fun e h => by
      obtain ⟨p1, y, ys, p, rfl, q⟩ := main e h
      exact st_truth (fun _ => rfl) q⟩
  | .blt k es => fun c X W cf G =>
    have main : ∀ e, (chk2 (.blt k es) c).v e = true → ∃ p1 y ys p, e = .Call (.Name k.name p1) (y :: ys) [] p ∧ PE X e (tV c X W cf (.blt k es)) := fun e h => by
      cases e with
      | Call g as ks p => cases g with
        | Name x p1 => cases as with
          | nil => exact (nomatch h)
          | cons y ys => cases ks with
            | cons _ _ => exact (nomatch h)
            | nil =>
              obtain ⟨h, h4⟩ := and2 h
              obtain ⟨h1, h3⟩ := and2 h
              obtain rfl := of_decide_eq_true h1
              exact ⟨p1, y, ys, p, rfl, se_blt G k h3 ((sas es c X W cf G).1 _ h4) h4⟩
        | _ => exact (nomatch h)
      | _ => exact (nomatch h)
    ⟨fun e h => let ⟨_, _, _, _, _, q⟩ := main e h; q, fun e h => by
      obtain ⟨p1, y, ys, p, rfl, q⟩ := main e h
      exact st_truth (fun _ => rfl) q⟩
  | .isi t a => fun c X W cf G =>
    have main : ∀ e, (chk2 (.isi t a) c).v e = true → ∃ p1 y ys p, e = .Call (.Name "isinstance" p1) (y :: ys) [] p ∧ PE X e (tV c X W cf (.isi t a)) := fun e h => by
      cases e with
      | Call g as ks p => cases g with
        | Name x p1 => cases as with
          | nil => exact (nomatch h)
          | cons y ys => cases ys with
            | nil => exact (nomatch h)
            | cons z ys => cases ys with
              | cons _ _ => cases z <;> exact (nomatch h)
              | nil => cases z with
                | Name w p2 => cases ks with
                  | cons _ _ => exact (nomatch h)
                  | nil =>
                    obtain ⟨h, h6⟩ := and2 h
                    obtain ⟨h, h5⟩ := and2 h
                    obtain ⟨h, h4⟩ := and2 h
                    obtain ⟨h, h3⟩ := and2 h
                    obtain ⟨h1, h2⟩ := and2 h
                    obtain rfl := of_decide_eq_true h1
                    obtain rfl := of_decide_eq_true h2
                    exact ⟨p1, y, _, p, rfl, se_isi G t h3 h4 ((sv a c X W cf G).1 _ h6) h5⟩
                | _ => exact (nomatch h)
        | _ => exact (nomatch h)
      | _ => exact (nomatch h)
    ⟨fun e h => let ⟨_, _, _, _, _, q⟩ := main e h; q, fun e h => by
      obtain ⟨p1, y, ys, p, rfl, q⟩ := main e h
      exact st_truth (fun _ => rfl) q⟩
  | .bltv k i => fun c X W cf G =>
    have main : ∀ e, (chk2 (.bltv k i) c).v e = true → ∃ p1 y ys p, e = .Call (.Name k.name p1) (y :: ys) [] p ∧ PE X e (tV c X W cf (.bltv k i)) := fun e h => by
      cases e with
      | Call g as ks p => cases g with
        | Name x p1 => cases as with
          | nil => exact (nomatch h)
          | cons y ys => cases ys with
            | cons _ _ => cases y <;> exact (nomatch h)
            | nil => cases y with
              | Name w p2 => cases ks with
                | cons _ _ => exact (nomatch h)
                | nil =>
                  obtain ⟨h, h3⟩ := and2 h
                  obtain ⟨h1, h2⟩ := and2 h
                  obtain rfl := of_decide_eq_true h1
                  exact ⟨p1, _, _, p, rfl, se_bltv G k h2 h3⟩
              | _ => exact (nomatch h)
        | _ => exact (nomatch h)
      | _ => exact (nomatch h)
    ⟨fun e h => let ⟨_, _, _, _, _, q⟩ := main e h; q, fun e h => by
      obtain ⟨p1, y, ys, p, rfl, q⟩ := main e h
      exact st_truth (fun _ => rfl) q⟩
  | .subv i b => fun c X W cf G =>
    have main : ∀ e, (chk2 (.subv i b) c).v e = true → ∃ x y p, e = .Subscript x y p ∧ PE X e (tV c X W cf (.subv i b)) := fun e h => by
      cases e with
      | Subscript x y p => cases x with
        | Name w p2 =>
          obtain ⟨h, h3⟩ := and2 h
          obtain ⟨h1, h2⟩ := and2 h
          exact ⟨_, _, _, rfl, se_subv G h2 ((sv b c X W cf G).1 _ h3) h1⟩
        | _ => exact (nomatch h)
      | _ => exact (nomatch h)
    ⟨fun e h => let ⟨_, _, _, _, q⟩ := main e h; q, fun e h => by
      obtain ⟨x, y, p, rfl, q⟩ := main e h
      exact st_truth (fun _ => rfl) q⟩
  | .cmpv k a i => fun c X W cf G =>
    have main : ∀ e, (chk2 (.cmpv k a i) c).v e = true → ∃ l o y p2 p, e = .Compare l [o] [.Name y p2] p ∧ o = k.op ∧ visB c i y = true ∧ (chk2 a c).v l = true := fun e h => by
      cases e with
      | Compare l os rs p =>
        cases os with
        | nil => exact (nomatch h)
        | cons o os => cases os with
          | cons _ _ => cases rs with
            | nil => exact (nomatch h)
            | cons x _ => cases x <;> exact (nomatch h)
          | nil => cases rs with
            | nil => exact (nomatch h)
            | cons r rs => cases rs with
              | cons _ _ => cases r <;> exact (nomatch h)
              | nil => cases r with
                | Name y p2 =>
                  obtain ⟨h, h3⟩ := and2 h
                  obtain ⟨h1, h2⟩ := and2 h
                  exact ⟨l, o, y, p2, p, rfl, of_decide_eq_true h1, h2, h3⟩
                | _ => exact (nomatch h)
      | _ => exact (nomatch h)
    ⟨fun e h => by
      obtain ⟨l, o, y, p2, p, rfl, rfl, h2, h3⟩ := main e h
      exact se_cmpv G k h2 ((sv a c X W cf G).1 _ h3), fun e h => by
      obtain ⟨l, o, y, p2, p, rfl, rfl, h2, h3⟩ := main e h
      exact st_cmpv G k h2 ((sv a c X W cf G).1 _ h3)⟩
  | .popv i b => fun c X W cf G => ⟨fun e h => by
      cases e with
      | Call g as ks p => cases g with
        | Attribute x m ap => cases x with
          | Name w p2 => cases as with
            | nil => exact (nomatch h)
            | cons y ys => cases ys with
              | cons _ _ => exact (nomatch h)
              | nil => cases ks with
                | cons _ _ => exact (nomatch h)
                | nil =>
                  obtain ⟨h, h5⟩ := and2 h
                  obtain ⟨h, h4⟩ := and2 h
                  obtain ⟨h, h3⟩ := and2 h
                  obtain ⟨h1, h2⟩ := and2 h
                  obtain rfl := of_decide_eq_true h1
                  exact se_popv G h3 ((sv b c X W cf G).1 _ h5) h4 h2
          | _ => exact (nomatch h)
        | _ => exact (nomatch h)
      | _ => exact (nomatch h), fun e h => (nomatch h)⟩
  | .comp elt tg it cs => fun c X W cf G => ⟨fun e h => by
      cases e with
      | ListComp el gs sc p => cases gs with
        | nil => exact (nomatch h)
        | cons g gs => cases gs with
          | cons _ _ =>
            obtain ⟨t, i, fs, as⟩ := g
            cases as with
            | ofNat n => cases n with
              | zero => exact (nomatch h)
              | succ n => exact (nomatch h)
            | negSucc n => exact (nomatch h)
          | nil =>
            obtain ⟨t, i, fs, as⟩ := g
            cases as with
            | negSucc n => exact (nomatch h)
            | ofNat n => cases n with
              | succ n => exact (nomatch h)
              | zero =>
                have h' : (blkC c.N c.sc sc (tg.own c.N) && pln i && chkW it c t i && chkG { c with sc := relS sc c.sc, top := false } tg t && chkC cs { c with sc := relS sc c.sc, top := false } fs &&
                  (chk2 elt { c with sc := relS sc c.sc, top := false }).v el) = true := h
                obtain ⟨h, h6⟩ := and2 h'
                obtain ⟨h, h5⟩ := and2 h
                obtain ⟨h, h4⟩ := and2 h
                obtain ⟨h, h3⟩ := and2 h
                obtain ⟨h1, h2⟩ := and2 h
                exact se_comp G h1 h2 (sws it c X W cf G _ _ h3) (fun s H C cl fp => sg (G.blk sc s H C cl fp) tg t h4) (fun s H C cl fp => (sas cs _ _ _ cf (G.blk sc s H C cl fp)).2 _ h5)
                  (fun s H C cl fp => (sv elt _ _ _ cf (G.blk sc s H C cl fp)).1 _ h6)
      | _ => exact (nomatch h), fun e h => (nomatch h)⟩
  | .share a => fun c X W cf G => ⟨fun e h => se_share ((sv a c X W cf G).1 _ h), fun e h => (nomatch h)⟩
  | .listrg b => fun c X W cf G => ⟨fun e h => by
      cases e with
      | Call g as ks p => cases g with
        | Name x p1 => cases as with
          | nil => exact (nomatch h)
          | cons y ys => cases ys with
            | cons _ _ => 
              cases y with
              | Call g2 as2 ks2 p3 => cases g2 with
                | Name _ _ => cases as2 with
                  | nil => exact (nomatch h)
                  | cons _ as2 => cases as2 with
                    | nil => cases ks2 <;> exact (nomatch h)
                    | cons _ _ => exact (nomatch h)
                | _ => exact (nomatch h)
              | _ => exact (nomatch h)
            | nil => cases y with
              | Call g2 as2 ks2 p3 => cases g2 with
                | Name w p4 => cases as2 with
                  | nil => exact (nomatch h)
                  | cons z as2 => cases as2 with
                    | cons _ _ => exact (nomatch h)
                    | nil => cases ks2 with
                      | cons _ _ => exact (nomatch h)
                      | nil => cases ks with
                        | cons _ _ => exact (nomatch h)
                        | nil =>
                          obtain ⟨h, h6⟩ := and2 h
                          obtain ⟨h, h5⟩ := and2 h
                          obtain ⟨h, h4⟩ := and2 h
                          obtain ⟨h, h3⟩ := and2 h
                          obtain ⟨h1, h2⟩ := and2 h
                          obtain rfl := of_decide_eq_true h1
                          obtain rfl := of_decide_eq_true h2
                          exact se_listrg G h3 h4 ((sv b c X W cf G).1 _ h6) h5
                | _ => exact (nomatch h)
              | _ => exact (nomatch h)
        | _ => exact (nomatch h)
      | _ => exact (nomatch h), fun e h => (nomatch h)⟩
  | .lenset b => fun c X W cf G => ⟨fun e h => by
      cases e with
      | Call g as ks p => cases g with
        | Name x p1 => cases as with
          | nil => exact (nomatch h)
          | cons y ys => cases ys with
            | cons _ _ => 
              cases y with
              | Call g2 as2 ks2 p3 => cases g2 with
                | Name _ _ => cases as2 with
                  | nil => exact (nomatch h)
                  | cons _ as2 => cases as2 with
                    | nil => cases ks2 <;> exact (nomatch h)
                    | cons _ _ => exact (nomatch h)
                | _ => exact (nomatch h)
              | _ => exact (nomatch h)
            | nil => cases y with
              | Call g2 as2 ks2 p3 => cases g2 with
                | Name w p4 => cases as2 with
                  | nil => exact (nomatch h)
                  | cons z as2 => cases as2 with
                    | cons _ _ => exact (nomatch h)
                    | nil => cases ks2 with
                      | cons _ _ => exact (nomatch h)
                      | nil => cases ks with
                        | cons _ _ => exact (nomatch h)
                        | nil =>
                          obtain ⟨h, h6⟩ := and2 h
                          obtain ⟨h, h5⟩ := and2 h
                          obtain ⟨h, h4⟩ := and2 h
                          obtain ⟨h, h3⟩ := and2 h
                          obtain ⟨h1, h2⟩ := and2 h
                          obtain rfl := of_decide_eq_true h1
                          obtain rfl := of_decide_eq_true h2
                          exact se_lenset G h3 h4 ((sv b c X W cf G).1 _ h6) h5
                | _ => exact (nomatch h)
              | _ => exact (nomatch h)
        | _ => exact (nomatch h)
      | _ => exact (nomatch h), fun e h => (nomatch h)⟩
  | .neg a => fun c X W cf G => ⟨fun e h => by
      cases e with
      | UnaryOp o x p => cases o with
        | USub => exact se_neg ((sv a c X W cf G).1 _ h)
        | _ => exact (nomatch h)
      | _ => exact (nomatch h), fun e h => (nomatch h)⟩
  | .dic0 t => fun c X W cf G => ⟨fun e h => by
      cases e with
      | Dict ks vs p => cases ks with
        | nil => cases vs with
          | nil => exact se_dic0 t
          | cons _ _ => exact (nomatch h)
        | cons _ _ => exact (nomatch h)
      | _ => exact (nomatch h), fun e h => (nomatch h)⟩
  | .sortset a => fun c X W cf G => ⟨fun e h => by
      cases e with
      | Call g as ks p => cases g with
        | Name x p1 => cases as with
          | nil => exact (nomatch h)
          | cons y ys => cases ys with
            | cons _ _ => cases y with
              | Call g2 as2 ks2 p2 => cases g2 with
                | Name _ _ => cases as2 with
                  | nil => exact (nomatch h)
                  | cons _ as3 => cases as3 with
                    | nil => cases ks2 <;> exact (nomatch h)
                    | cons _ _ => exact (nomatch h)
                | _ => exact (nomatch h)
              | _ => exact (nomatch h)
            | nil => cases y with
              | Call g2 as2 ks2 p2 => cases g2 with
                | Name f p3 => cases as2 with
                  | nil => exact (nomatch h)
                  | cons u as3 => cases as3 with
                    | cons _ _ => exact (nomatch h)
                    | nil => cases ks2 with
                      | cons _ _ => exact (nomatch h)
                      | nil => cases ks with
                        | cons _ _ => exact (nomatch h)
                        | nil =>
                          obtain ⟨h, h6⟩ := and2 h
                          obtain ⟨h, h5⟩ := and2 h
                          obtain ⟨h, h4⟩ := and2 h
                          obtain ⟨h, h3⟩ := and2 h
                          obtain ⟨h1, h2⟩ := and2 h
                          obtain rfl := of_decide_eq_true h1
                          obtain rfl := of_decide_eq_true h2
                          exact se_sortset G h3 h4 ((sv a c X W cf G).1 _ h6) h5
                | _ => exact (nomatch h)
              | _ => exact (nomatch h)
        | _ => exact (nomatch h)
      | _ => exact (nomatch h), fun e h => (nomatch h)⟩
  | .mind a b => fun c X W cf G => ⟨fun e h => by
      cases e with
      | Call g as ks p => cases g with
        | Name x p1 => cases as with
          | nil => exact (nomatch h)
          | cons y ys => cases ys with
            | cons _ _ => exact (nomatch h)
            | nil => cases ks with
              | nil => exact (nomatch h)
              | cons k ks =>
                obtain ⟨o, u, p2⟩ := k
                cases o with
                | none => cases ks <;> exact (nomatch h)
                | some k => cases ks with
                  | cons _ _ => exact (nomatch h)
                  | nil =>
                    obtain ⟨h, h6⟩ := and2 h
                    obtain ⟨h, h5⟩ := and2 h
                    obtain ⟨h, h4⟩ := and2 h
                    obtain ⟨h, h3⟩ := and2 h
                    obtain ⟨h1, h2⟩ := and2 h
                    obtain rfl := of_decide_eq_true h1
                    obtain rfl := of_decide_eq_true h2
                    exact se_mind G h3 ((sv a c X W cf G).1 _ h5) ((sv b c X W cf G).1 _ h6) h4
        | _ => exact (nomatch h)
      | _ => exact (nomatch h), fun e h => (nomatch h)⟩
theorem sas : ∀ (ms : Xs) (c : SC) (X : Cx) (W : WX) (cf : CF), Good c X W cf → (∀ es, chks ms c es = true → PA X es (tAs c X W cf ms)) ∧ ∀ fs, chkC ms c fs = true → PTs X fs (tX X.K X.mg W rId (evC cf c.gl ms))
  | .nil => fun c X W cf G => ⟨fun es h => by
      cases es with
      | nil => exact sa_nil
      | cons _ _ => exact (nomatch h), fun fs h => by
      cases fs with
      | nil => exact pts_nil.weak fun σ H Q ⟨g, fr, S, rel, h⟩ => h g H true Keep.refl rel ⟨rfl, rfl⟩
      | cons _ _ => exact (nomatch h)⟩
  | .cons m ms => fun c X W cf G => ⟨fun es h => by
      cases es with
      | nil => exact (nomatch h)
      | cons x xs =>
        obtain ⟨h, h3⟩ := and2 h
        obtain ⟨h1, h2⟩ := and2 h
        exact sa_cons ((sv m c X W cf G).1 _ h2) ((sas ms c X W cf G).1 _ h3) h1, fun fs h => by
      cases ms with
      | cons _ _ => exact (nomatch h)
      | nil => cases fs with
        | nil => exact (nomatch h)
        | cons x xs => cases xs with
          | cons _ _ => exact (nomatch h)
          | nil => exact pts_one ((sv m c X W cf G).2 _ h)⟩
theorem sws : ∀ (w : Wk) (c : SC) (X : Cx) (W : WX) (cf : CF), Good c X W cf → ∀ t x, chkW w c t x = true → PI X t x (tWk c X W cf w)
  | .seq e => fun c X W cf G t x h => sw_seq ((sv e c X W cf G).1 _ h)
  | .rng1 a => fun c X W cf G t x h => by
      cases x with
      | Call g as ks p => cases g with
        | Name f p1 => cases as with
          | nil => exact (nomatch h)
          | cons y ys => cases ys with
            | cons _ _ => exact (nomatch h)
            | nil => cases ks with
              | cons _ _ => exact (nomatch h)
              | nil =>
                obtain ⟨h, h4⟩ := and2 h
                obtain ⟨h, h3⟩ := and2 h
                obtain ⟨h1, h2⟩ := and2 h
                obtain rfl := of_decide_eq_true h1
                exact sw_rng1 G h2 ((sv a c X W cf G).1 _ h4) h3
        | _ => exact (nomatch h)
      | _ => exact (nomatch h)
  | .rng2 a b => fun c X W cf G t x h => by
      cases x with
      | Call g as ks p => cases g with
        | Name f p1 => cases as with
          | nil => exact (nomatch h)
          | cons y ys => cases ys with
            | nil => exact (nomatch h)
            | cons z ys => cases ys with
              | cons _ _ => exact (nomatch h)
              | nil => cases ks with
                | cons _ _ => exact (nomatch h)
                | nil =>
                  obtain ⟨h, h6⟩ := and2 h
                  obtain ⟨h, h5⟩ := and2 h
                  obtain ⟨h, h4⟩ := and2 h
                  obtain ⟨h, h3⟩ := and2 h
                  obtain ⟨h1, h2⟩ := and2 h
                  obtain rfl := of_decide_eq_true h1
                  exact sw_rng2 G h2 ((sv a c X W cf G).1 _ h5) ((sv b c X W cf G).1 _ h6) h3 h4
        | _ => exact (nomatch h)
      | _ => exact (nomatch h)
  | .enm a => fun c X W cf G t x h => by
      cases t with
      | Tuple es kk tp => cases x with
        | Call g as ks p => cases g with
          | Name f p1 => cases as with
            | nil => exact (nomatch h)
            | cons y ys => cases ys with
              | cons _ _ => exact (nomatch h)
              | nil => cases ks with
                | cons _ _ => exact (nomatch h)
                | nil =>
                  obtain ⟨h, h4⟩ := and2 h
                  obtain ⟨h, h3⟩ := and2 h
                  obtain ⟨h1, h2⟩ := and2 h
                  obtain rfl := of_decide_eq_true h1
                  exact sw_enm G h2 ((sv a c X W cf G).1 _ h4) h3
          | _ => exact (nomatch h)
        | _ => exact (nomatch h)
      | _ => exact (nomatch h)
  | .zip a b => fun c X W cf G t x h => by
      cases t with
      | Tuple es kk tp => cases x with
        | Call g as ks p => cases g with
          | Name f p1 => cases as with
            | nil => exact (nomatch h)
            | cons y ys => cases ys with
              | nil => exact (nomatch h)
              | cons z ys => cases ys with
                | cons _ _ => exact (nomatch h)
                | nil => cases ks with
                  | cons _ _ => exact (nomatch h)
                  | nil =>
                    obtain ⟨h, h6⟩ := and2 h
                    obtain ⟨h, h5⟩ := and2 h
                    obtain ⟨h, h4⟩ := and2 h
                    obtain ⟨h, h3⟩ := and2 h
                    obtain ⟨h1, h2⟩ := and2 h
                    obtain rfl := of_decide_eq_true h1
                    exact sw_zip G h2 ((sv a c X W cf G).1 _ h5) ((sv b c X W cf G).1 _ h6) h3 h4
          | _ => exact (nomatch h)
        | _ => exact (nomatch h)
      | _ => exact (nomatch h)
  | .rng3 a b d => fun c X W cf G t x h => by
      cases x with
      | Call g as ks p => cases g with
        | Name f p1 => cases as with
          | nil => exact (nomatch h)
          | cons y ys => cases ys with
            | nil => exact (nomatch h)
            | cons z ys => cases ys with
              | nil => exact (nomatch h)
              | cons u ys => cases ys with
                | cons _ _ => exact (nomatch h)
                | nil => cases ks with
                  | cons _ _ => exact (nomatch h)
                  | nil =>
                    obtain ⟨h, h8⟩ := and2 h
                    obtain ⟨h, h7⟩ := and2 h
                    obtain ⟨h, h6⟩ := and2 h
                    obtain ⟨h, h5⟩ := and2 h
                    obtain ⟨h, h4⟩ := and2 h
                    obtain ⟨h, h3⟩ := and2 h
                    obtain ⟨h1, h2⟩ := and2 h
                    obtain rfl := of_decide_eq_true h1
                    exact sw_rng3 G h2 ((sv a c X W cf G).1 _ h6) ((sv b c X W cf G).1 _ h7) ((sv d c X W cf G).1 _ h8) h3 h4 h5
        | _ => exact (nomatch h)
      | _ => exact (nomatch h)
end
end Eng
end

section
/-! The engine, part L: statements. -/
namespace Eng
open PySem PySem.Spec PyProof.Rows L2

def noComp : Expr → Bool
  | .ListComp .. => false
  | .SetComp .. => false
  | .DictComp .. => false
  | _ => true
def noTup : Expr → Bool
  | .Tuple .. => false
  | _ => true
/-- a comprehension given to a name: the store is swapped in -/
def swB (c : SC) (e : Expr) (x : Str) (p : Pos) : Bool := match e with
  | .ListComp _ _ s q => decide (c.sc.kind = .function) && decide (c.sc.names.lookup x = some .local) && (p.line == q.line) && !(s.names.any fun (n, k) => n == x && (k == .local || k == .cell))
  | _ => false
def Xp.isComp : Xp → Bool
  | .comp _ _ _ _ => true
  | _ => false
def raiseB (x : Str) (c : SC) : Stmt → Bool
  | .Raise (some (.Call (.Name y _) [.Constant (.str _) _ _] [] _)) none _ => decide (x = y) && c.xs.contains y && glB c y
  | _ => false
/-- x, y = a, b with plain local names -/
def parB (c : SC) (x y : Str) (px py : Pos) (a b : Expr) : Bool := decide (c.sc.kind = .function) && decide (c.sc.names.lookup x = some .local) && decide (c.sc.names.lookup y = some .local) && (py.line == px.line) && !(x == y) && pln a && pln b &&
  !(foldedForSure 8 a && foldedForSure 8 b) && !(constantsAlone 8 a && constantsAlone 8 b)
def par2B (c : SC) (x y : Str) (a b : Expr) : Bool := pln a && pln b && isLoc c.top (c.sc.names.lookup x) && isLoc c.top (c.sc.names.lookup y) && (decide (c.sc.names.lookup x ≠ some .local) || decide (c.sc.names.lookup y ≠ some .local))
mutual
def chkS : Sm → SC → Stmt → Bool
  | .exp m, c => fun s => match s with | .Expr e _ => noComp e && (chk2 m c).v e | _ => false
  | .set i m, c => fun s => match s with
    | .Assign [.Name x p] e _ => decide (c.N[i]? = some x) && isLoc c.top (c.sc.names.lookup x) && (noComp e || decide (c.sc.names.lookup x = some .cell) && (match e with | .ListComp .. => true | _ => false) || m.isComp && swB c e x p) && (chk2 m c).v e
    | _ => false
  | .asg t m, c => fun s => match s with | .Assign [tg] e _ => isTupleE tg && chkG c t tg && noComp e && noTup e && (chk2 m c).v e | _ => false
  | .ret m, c => fun s => match s with | .Return (some e) _ => (chk2 m c).v e | _ => false
  | .retN, _ => fun s => match s with | .Return none _ => true | _ => false
  | .cond t a b, c => fun s => match s with | .If e x y _ => (chk2 t c).t e && chkSs a c x && chkSs b c y | _ => false
  | .loop tg it body, c => fun s => match s with | .For t i b [] _ => pln i && chkG c tg t && chkW it c t i && chkSs body c b | _ => false
  | .raise x, c => fun s => raiseB x c s
  | .appv i m, c => fun s => match s with | .Expr (.Call (.Attribute (.Name x _) a ap) [y] [] cp) _ => decide (a = "append") && (ap.endLine == cp.line) && visB c i x && pln y && (chk2 m c).v y | _ => false
  | .extv i m, c => fun s => match s with | .Expr (.Call (.Attribute (.Name x _) a ap) [y] [] cp) _ => decide (a = "extend") && (ap.endLine == cp.line) && visB c i x && pln y && (chk2 m c).v y | _ => false
  | .setv i ix m, c => fun s => match s with | .Assign [.Subscript (.Name x _) y _] e _ => noComp e && visB c i x && pln y && (chk2 ix c).v y && (chk2 m c).v e | _ => false
  | .setr a ix m, c => fun s => match s with | .Assign [.Subscript x y _] e _ => noComp e && pln y && (chk2 a c).v x && (chk2 ix c).v y && (chk2 m c).v e | _ => false
  | .pass, _ => fun s => match s with | .Pass _ => true | _ => false
  | .par i j m n, c => fun s => match s with | .Assign [.Tuple [.Name x px, .Name y py] _ _] (.Tuple [a, b] _ _) _ => decide (c.N[i]? = some x) && decide (c.N[j]? = some y) && (parB c x y px py a b || decide (i ≠ j) && par2B c x y a b) && (chk2 m c).v a && (chk2 n c).v b | _ => false
  | .setd i ix m, c => fun s => match s with | .Assign [.Subscript (.Name x _) y _] e _ => noComp e && visB c i x && pln y && (chk2 ix c).v y && (chk2 m c).v e | _ => false
def chkSs : Sms → SC → List Stmt → Bool
  | .nil, _ => fun l => l.isEmpty
  | .cons s ss, c => fun l => match l with | x :: xs => chkS s c x && chkSs ss c xs | [] => false
end

/-! ### what is wanted behind a statement -/
def AftS (K : PySem.W.Frag) (mg : Str → Option Value) (W : WX) (g : Gh) (H : Hp) (r : RS) (D : Ends) : Prop := match r with
  | .nx fr S => ∀ g' H' σ', Keep g H g' H' → g'.tmp = g.tmp → Rel K mg g' fr S σ' H' → D.nx σ' H'
  | .rt v fr S => ∀ g' H' σ' x, Keep g H g' H' → Rel K mg g' fr S σ' H' → rV K mg g.tmp g' H' v x → D.rt x H'
  | .ex e fr S => ∀ g' H' σ' c d, Keep g H g' H' → Rel K mg g' fr S σ' H' → g'.tmp = g.tmp → XR K mg g' H' e c d → W c d σ' H'
  | .bk fr S => ∀ g' H' σ', Keep g H g' H' → g'.tmp = g.tmp → Rel K mg g' fr S σ' H' → D.bk σ' H'
  | .ct fr S => ∀ g' H' σ', Keep g H g' H' → g'.tmp = g.tmp → Rel K mg g' fr S σ' H' → D.ct σ' H'
  | .no => False
def tS (K : PySem.W.Frag) (mg : Str → Option Value) (W : WX) (f : Frame → Store → RS) : TS := fun D σ H => ∃ g fr S, Rel K mg g fr S σ H ∧ AftS K mg W g H (f fr S) D
section
variable {K : PySem.W.Frag} {mg : Str → Option Value} {W : WX} {g g1 : Gh} {H H1 : Hp} {σ : L2.St} {D : Ends}
theorem AftS.shift {r : RS} (k : Keep g H g1 H1) (t : g1.tmp = g.tmp) (h : AftS K mg W g H r D) : AftS K mg W g1 H1 r D := by
  cases r with
  | nx fr S => exact fun g' H' σ' k' t' e => h g' H' σ' (k.trans k') (t'.trans t) e
  | rt v fr S => exact fun g' H' σ' x k' e q => h g' H' σ' x (k.trans k') e (by rw [← t]; exact q)
  | ex e fr S => exact fun g' H' σ' c d k' e t' q => h g' H' σ' c d (k.trans k') e (t'.trans t) q
  | bk fr S => exact fun g' H' σ' k' t' e => h g' H' σ' (k.trans k') (t'.trans t) e
  | ct fr S => exact fun g' H' σ' k' t' e => h g' H' σ' (k.trans k') (t'.trans t) e
  | no => exact h
theorem AftS.bind {α β : Type} {R : List Addr → Gh → Hp → α → β → Prop} {r : RX α} {k : α → Frame → Store → RS} (hR : ∀ t g H a b, R t g H a b → g.tmp = t) (h : AftS K mg W g H (r.thn k) D) :
    Aft K mg W R g H σ r (fun b H1 => ∃ a fr1 S1 g1, Keep g H g1 H1 ∧ Rel K mg g1 fr1 S1 σ H1 ∧ R g1.tmp g1 H1 a b ∧ g1.tmp = g.tmp ∧ AftS K mg W g1 H1 (k a fr1 S1) D) := by
  cases r with
  | ok a fr S => exact fun g' H' b k' e q => ⟨a, fr, S, g', k', e, by rw [hR _ _ _ _ _ q]; exact q, hR _ _ _ _ _ q, AftS.shift k' (hR _ _ _ _ _ q) h⟩
  | ex e fr S => exact fun g' H' c d k' e t q => h g' H' σ c d k' e t q
  | no => exact h
end

section
variable {c : SC} {X : Cx} {W : WX} {cf : CF} {pos : Pos} {m : Xp} {e : Expr}
abbrev tSm (c : SC) (X : Cx) (W : WX) (cf : CF) (s : Sm) : TS := tS X.K X.mg W (ex cf c.gl s)
abbrev tSs (c : SC) (X : Cx) (W : WX) (cf : CF) (s : Sms) : TS := tS X.K X.mg W (exs cf c.gl s)
theorem noComp_sw (h : noComp e = true) (t : Option Expr) (l : Nat) (env : Env) : swapsWith e t l env = pure false := by
  cases e <;> first | rfl | cases h
theorem noComp_sole (h : noComp e = true) (t : Expr) (l : Nat) (env : Env) : swapsWithSole [t] e l env = pure false := noComp_sw h (some t) l env
theorem ss_exp (h : PE X e (tV c X W cf m)) (hn : noComp e = true) : PS X (.Expr e pos) (tSm c X W cf (.exp m)) := by
  refine (ps_expr (frzPE h) (noComp_sw hn _ _ _)).weak fun D σ H ⟨g, fr, S, rel, h⟩ => ⟨g, fr, S, rel, ?_⟩
  exact (AftS.bind rD_tmp h).imp fun x H1 ⟨d, fr1, S1, g1, k1, rel1, r1, t1, h1⟩ => h1 g1 H1 σ Keep.refl rfl rel1
/-- a result stored in a slot -/
theorem wk_set {i : Nat} {D : Ends} {σ : L2.St} {H : Hp} (h : tSm c X W cf (.set i m) D σ H) : tV c X W cf m σ H (fun x H1 => D.nx (σ.set i (some x)) H1) := by
  obtain ⟨g, fr, S, rel, h⟩ := h
  refine ⟨g, fr, S, rel, ?_⟩
  have h' : AftS X.K X.mg W g H ((ev cf c.gl m fr S).thn fun v fr S => .nx (fr.set i (some v)) S) D := h
  cases e : ev cf c.gl m fr S with
  | no => rw [e] at h'; exact h'
  | ex x f s => rw [e] at h'; exact fun g' H' c d k' e t q => h' g' H' σ c d k' e t q
  | ok v f s =>
    rw [e] at h'
    intro g1 H1 x k1 rel1 rv
    cases v with
    | fz d => exact h' g1 H1 _ k1 rv.1 (rel1.setFz rv.2)
    | own cl =>
      obtain ⟨a, rfl, ht, na, hc⟩ := rv
      refine h' ⟨g1.rho, a :: g1.own, g.tmp⟩ H1 _ ⟨fun b o h0 n1 n2 => ?_, fun b o h0 n1 n2 z => z, k1.tups, k1.pre⟩ rfl (rel1.setOwn ht na hc)
      obtain ⟨q1, q2, q3⟩ := k1.keep b o h0 n1 n2
      refine ⟨q1, q2, fun z => ?_⟩
      rcases List.mem_cons.mp z with z | z
      · subst z
        exact na (k1.tmp b o h0 n1 n2 (by rw [ht]; exact List.mem_cons_self))
      · exact q3 z
theorem good_loc (G : Good c X W cf) {i : Nat} {x : Str} (h1 : c.N[i]? = some x) (h2 : isLoc c.top (c.sc.names.lookup x) = true) : X.N[i]? = some x ∧ L2.Loc X.env.scope x ∧ (X.fn x = true ∨ X.env.scope.names.lookup x = some .local) := by
  refine ⟨by rw [G.N]; exact h1, ?_⟩
  unfold L2.Loc
  rw [G.sc]
  cases q : c.sc.names.lookup x with
  | none => rw [q] at h2; cases h2
  | some k =>
    rw [q] at h2
    cases k with
    | «local» => exact ⟨.inl rfl, .inr rfl⟩
    | cell => exact ⟨.inr rfl, .inl (G.top h2 x)⟩
    | free => cases h2
    | globalExplicit => cases h2
    | globalImplicit => cases h2
theorem keep_fin {g g2 gf : Gh} {H H2 : Hp} (k : Keep g H g2 H2) (hr : gf.rho = g2.rho) (ht : gf.tmp = g.tmp) (ho : ∀ b, b ∈ gf.own → b ∈ g2.own ∨ (b ∈ g2.tmp ∧ b ∉ g.tmp)) : Keep g H gf H2 where
  keep := fun b o h n1 n2 => by
    obtain ⟨q1, q2, q3⟩ := k.keep b o h n1 n2
    refine ⟨q1, by rw [hr]; exact q2, fun z => ?_⟩
    rcases ho b z with z | ⟨z1, z2⟩
    · exact q3 z
    · exact z2 (k.tmp b o h n1 n2 z1)
  tmp := fun b o h n1 n2 z => by rw [ht] at z; exact z
  tups := k.tups
  pre := fun n b h => by rw [hr]; exact k.pre n b h
/-- two results stored in two slots -/
theorem wk_par {i j : Nat} {n : Xp} (hij : i ≠ j) {D : Ends} {σ : L2.St} {H : Hp} (h : tSm c X W cf (.par i j m n) D σ H) :
    tV c X W cf m σ H (fun x H1 => tV c X W cf n σ H1 fun y H2 => ∀ H3, Grows H2 H3 → D.nx ((σ.set i (some x)).set j (some y)) H3) := by
  obtain ⟨g, fr, S, rel, h⟩ := h
  refine ⟨g, fr, S, rel, ?_⟩
  have h' : AftS X.K X.mg W g H ((ev cf c.gl m fr S).thn fun v fr S => (ev cf c.gl n fr S).thn fun w fr S => .nx ((fr.set i (some v)).set j (some w)) S) D := h
  cases e : ev cf c.gl m fr S with
  | no => rw [e] at h'; exact h'
  | ex x f s => rw [e] at h'; exact fun g' H' c d k' e t q => h' g' H' σ c d k' e t q
  | ok v f s =>
    rw [e] at h'
    intro g1 H1 x k1 rel1 rv
    refine ⟨g1, f, s, rel1, ?_⟩
    have h2 : AftS X.K X.mg W g H ((ev cf c.gl n f s).thn fun w fr S => .nx ((fr.set i (some v)).set j (some w)) S) D := h'
    have sub : ∀ a, a ∈ g.tmp → a ∈ g1.tmp := fun a ha => by
      cases v with
      | fz d => rw [rv.1]; exact ha
      | own cl => obtain ⟨b, rfl, ht, na, hc⟩ := rv; rw [ht]; exact List.mem_cons_of_mem _ ha
    cases e2 : ev cf c.gl n f s with
    | no => rw [e2] at h2; exact h2
    | ex x f2 s2 =>
      rw [e2] at h2
      intro g2 H2 cc dd k2 rel2 t2 q2
      have sub2 : ∀ a, a ∈ g.tmp → a ∈ g2.tmp := fun a ha => by rw [t2]; exact sub a ha
      have k3 := k1.trans k2
      have kf : Keep g H { g2 with tmp := g.tmp } H2 := keep_fin k3 rfl rfl fun b hb => .inl hb
      obtain ⟨q3, vs, q4, q5, q6⟩ := q2
      exact h2 _ H2 σ cc dd kf (rel2.drop sub2) rfl ⟨q3, vs, q4.mono (mono_drop sub2), q5, q6⟩
    | ok w f2 s2 =>
      rw [e2] at h2
      intro g2 H0 y k2 rel2 rw2 H2 gr
      replace rel2 := rel2.grows gr
      replace k2 := k2.trans gr.keep
      replace rw2 : rV X.K X.mg g1.tmp g2 H2 w y := by
        cases w with
        | fz d => exact ⟨rw2.1, rw2.2.mono gr.mono⟩
        | own cl => obtain ⟨b, r1, r2, r3, r4⟩ := rw2; exact ⟨b, r1, r2, r3, r4.grows gr⟩
      have k3 := k1.trans k2
      have cm : (σ.set i (some x)).set j (some y) = (σ.set j (some y)).set i (some x) := List.set_comm _ _ hij
      have cf' : (f2.set i (some v)).set j (some w) = (f2.set j (some w)).set i (some v) := List.set_comm _ _ hij
      cases v with
      | fz d =>
        have r1 : RD X.K g2 H2 d x := rv.2.mono k2.mono
        cases w with
        | fz d2 => exact h2 g2 H2 _ k3 (rw2.1.trans rv.1) ((rel2.setFz r1).setFz rw2.2)
        | own cl =>
          obtain ⟨b, rfl, ht, na, hc⟩ := rw2
          have ht' : g2.tmp = b :: g.tmp := by rw [ht, rv.1]
          have na' : b ∉ g.tmp := by rw [← rv.1]; exact na
          refine h2 ⟨g2.rho, b :: g2.own, g.tmp⟩ H2 _ (keep_fin k3 rfl rfl fun z hz => ?_) rfl ((rel2.setFz r1).setOwn ht' na' hc)
          rcases List.mem_cons.mp hz with rfl | hz
          · exact .inr ⟨by rw [ht']; exact List.mem_cons_self, na'⟩
          · exact .inl hz
      | own c1 =>
        obtain ⟨a, rfl, ht1, na1, hc1⟩ := rv
        have ha1 : a ∈ g1.tmp := by rw [ht1]; exact List.mem_cons_self
        obtain ⟨o, ho, _⟩ := hc1.some_of
        have ha2 : H2 a = H1 a := by rw [ho]; exact (k2.keep a o ho (fun z => (rel1.st.rt a z).2 ha1) (fun z => rel1.st.ot a z ha1)).1
        have hc2 : CellR X.K X.mg g2 H2 a c1 := hc1.mono k2.mono ha2
        rw [cm]
        rw [show (fun (w : Val) (fr : Frame) (S : Store) => RS.nx ((fr.set i (some (Val.own c1))).set j (some w)) S) = (fun w fr S => RS.nx ((fr.set j (some w)).set i (some (Val.own c1))) S) from funext fun w => funext fun fr => funext fun S => by rw [List.set_comm _ _ hij]] at h2
        cases w with
        | fz d2 =>
          have ht2 : g2.tmp = a :: g.tmp := by rw [rw2.1, ht1]
          refine h2 ⟨g2.rho, a :: g2.own, g.tmp⟩ H2 _ (keep_fin k3 rfl rfl fun z hz => ?_) rfl ((rel2.setFz rw2.2).setOwn ht2 na1 hc2)
          rcases List.mem_cons.mp hz with rfl | hz
          · exact .inr ⟨by rw [ht2]; exact List.mem_cons_self, na1⟩
          · exact .inl hz
        | own cl =>
          obtain ⟨b, rfl, ht, na, hc⟩ := rw2
          have ht2 : g2.tmp = b :: a :: g.tmp := by rw [ht, ht1]
          have na2 : b ∉ a :: g.tmp := by rw [← ht1]; exact na
          have mm : Mono X.K g2 H2 ⟨g2.rho, b :: g2.own, a :: g.tmp⟩ H2 := Mono.less (fun z hz => by
            rcases hz with hz | hz | hz
            · exact .inl hz
            · rcases List.mem_cons.mp hz with rfl | hz
              · exact .inr (.inr (by rw [ht2]; exact List.mem_cons_self))
              · exact .inr (.inl hz)
            · exact .inr (.inr (by rw [ht2]; exact List.mem_cons_of_mem _ hz))) fun _ _ z => z
          have rel3 := rel2.setOwn (i := j) ht2 na2 hc
          refine h2 ⟨g2.rho, a :: b :: g2.own, g.tmp⟩ H2 _ (keep_fin k3 rfl rfl fun z hz => ?_) rfl (rel3.setOwn (i := i) rfl na1 (hc2.mono mm rfl))
          rcases List.mem_cons.mp hz with rfl | hz
          · exact .inr ⟨by rw [ht2]; exact List.mem_cons_of_mem _ List.mem_cons_self, na1⟩
          · rcases List.mem_cons.mp hz with rfl | hz
            · exact .inr ⟨by rw [ht2]; exact List.mem_cons_self, fun zz => na2 (List.mem_cons_of_mem _ zz)⟩
            · exact .inl hz
theorem par_hw {env : Env} {x y : Str} {px py pt : Pos} {kt k2 : Nat} {pt2 : Pos} {a b : Expr} (hk : env.scope.kind = .function) (hx : env.scope.names.lookup x = some .local) (hy : env.scope.names.lookup y = some .local) (hl : (py.line == px.line) = true) (hxy : (x == y) = false)
    (ha : pln a = true) (hb : pln b = true) (h1 : (foldedForSure 8 a && foldedForSure 8 b) = false) (h2 : (constantsAlone 8 a && constantsAlone 8 b) = false) :
    swappedStores [.Tuple [.Name x px, .Name y py] kt pt] (.Tuple [a, b] k2 pt2) env = pure (some [x, y]) := by
  have kb : env.blockKind = .function := by unfold Env.blockKind; rw [hk]; rfl
  have kx : env.kindOf x = some .local := hx
  have ky : env.kindOf y = some .local := hy
  have hl' : (px.line == px.line) = true := by simp
  have ed : ([x, y].eraseDups.length != [x, y].length) = false := by
    have hyx : (y == x) = false := by rw [beq_eq_false_iff_ne] at hxy ⊢; exact fun z => hxy z.symm
    simp [List.eraseDups_cons, hyx]
  unfold swappedStores
  simp only [List.any_cons, List.any_nil, kb]
  refine (if_neg (fun z => nomatch z)).trans ((if_neg fun z => ?_).trans ?_)
  · rw [Bool.or_eq_true, Bool.or_eq_true] at z
    rcases z with z | z | z
    · cases a <;> first | (cases ha; done) | (cases z; done)
    · cases b <;> first | (cases hb; done) | (cases z; done)
    · cases z
  · generalize hL : List.filterMap _ _ = L
    have eL : L = [x, y] := by
      rw [← hL]
      simp only [List.filterMap_cons, List.filterMap_nil, List.head?_cons, Option.map_some, Option.getD_some, kx, ky]
      have pe : (Expr.Name x px).pos.line = px.line := rfl
      have lb : (some NameKind.local == some NameKind.local) = true := by decide
      simp only [pe, lb, hl, hl', Bool.and_true, if_true]
    subst eL
    refine (if_neg fun z => ?_).trans ((if_neg fun z => ?_).trans ((if_neg fun z => ?_).trans rfl))
    · rw [Bool.or_eq_true] at z
      rcases z with z | z
      · cases z
      · rw [ed] at z; cases z
    · rw [List.all_cons, List.all_cons, List.all_nil, Bool.and_true, h1] at z; cases z
    · rw [List.all_cons, List.all_cons, List.all_nil, Bool.and_true, h2] at z; cases z
theorem ss_par (G : Good c X W cf) {i j : Nat} {n : Xp} {x y : Str} {px py pt pt2 : Pos} {kt k2 : Nat} {a b : Expr} (h1 : c.N[i]? = some x) (h2 : c.N[j]? = some y) (hb : parB c x y px py a b = true) (ha : PE X a (tV c X W cf m)) (hbn : PE X b (tV c X W cf n)) :
    PS X (.Assign [.Tuple [.Name x px, .Name y py] kt pt] (.Tuple [a, b] k2 pt2) pos) (tSm c X W cf (.par i j m n)) := by
  unfold parB at hb
  rw [Bool.and_eq_true, Bool.and_eq_true, Bool.and_eq_true, Bool.and_eq_true, Bool.and_eq_true, Bool.and_eq_true, Bool.and_eq_true, Bool.and_eq_true, Bool.not_eq_true', Bool.not_eq_true', Bool.not_eq_true', decide_eq_true_iff, decide_eq_true_iff, decide_eq_true_iff] at hb
  obtain ⟨⟨⟨⟨⟨⟨⟨⟨b1, b2⟩, b3⟩, b4⟩, b5⟩, b6⟩, b7⟩, b8⟩, b9⟩ := hb
  rw [← G.sc] at b1 b2 b3
  rw [← G.N] at h1 h2
  have hij : i ≠ j := fun z => by
    subst z
    rw [h1] at h2
    cases h2
    simp at b5
  refine (ps_par G.calm (by rw [G.N]; exact G.nd) h1 h2 hij b2 b3 (pa_cons ha (pa_cons hbn pa_nil (pln_star b7 _)) (pln_star b6 _)) (par_hw b1 b2 b3 b4 b5 b6 b7 b8 b9)).weak fun D σ H h => ?_
  obtain ⟨g, fr, S, rel, h'⟩ := wk_par hij h
  refine ⟨g, fr, S, rel, h'.imp fun v H1 h2 => ?_⟩
  obtain ⟨g, fr, S, rel, h'⟩ := h2
  exact ⟨g, fr, S, rel, h'.imp fun w H2 h3 => ⟨v, w, rfl, h3 H2 Grows.refl⟩⟩
theorem par_hn {env : Env} {x y : Str} {px py pt : Pos} {kt k2 : Nat} {pt2 : Pos} {a b : Expr} (h : env.scope.names.lookup x ≠ some .local ∨ env.scope.names.lookup y ≠ some .local) :
    swappedStores [.Tuple [.Name x px, .Name y py] kt pt] (.Tuple [a, b] k2 pt2) env = pure none := by
  unfold swappedStores
  dsimp only
  split
  · rfl
  · split
    · rfl
    · refine if_pos ?_
      rw [Bool.or_eq_true]
      refine .inl ?_
      rcases h with h | h
      · have e : (env.kindOf x == some NameKind.local) = false := by rw [beq_eq_false_iff_ne]; exact h
        simp only [List.filterMap_cons, List.filterMap_nil, e, Bool.false_and, Bool.false_eq_true, if_false]
        generalize (env.kindOf y == some NameKind.local && _) = q
        cases q <;> rfl
      · have e : (env.kindOf y == some NameKind.local) = false := by rw [beq_eq_false_iff_ne]; exact h
        simp only [List.filterMap_cons, List.filterMap_nil, e, Bool.false_and, Bool.false_eq_true, if_false]
        generalize (env.kindOf x == some NameKind.local && _) = q
        cases q <;> rfl
theorem ss_par2 (G : Good c X W cf) {i j : Nat} {n : Xp} {x y : Str} {px py pt pt2 : Pos} {kt k2 : Nat} {a b : Expr} (h1 : c.N[i]? = some x) (h2 : c.N[j]? = some y) (hij : i ≠ j) (hb : par2B c x y a b = true) (ha : PE X a (tV c X W cf m)) (hbn : PE X b (tV c X W cf n)) :
    PS X (.Assign [.Tuple [.Name x px, .Name y py] kt pt] (.Tuple [a, b] k2 pt2) pos) (tSm c X W cf (.par i j m n)) := by
  unfold par2B at hb
  rw [Bool.and_eq_true, Bool.and_eq_true, Bool.and_eq_true, Bool.and_eq_true, Bool.or_eq_true, decide_eq_true_iff, decide_eq_true_iff] at hb
  obtain ⟨⟨⟨⟨b1, b2⟩, b3⟩, b4⟩, b5⟩ := hb
  rw [← G.sc] at b5
  obtain ⟨x1, x2, x3⟩ := good_loc G h1 b3
  obtain ⟨y1, y2, y3⟩ := good_loc G h2 b4
  have nd : X.N.Nodup := by rw [G.N]; exact G.nd
  refine (ps_asg (pe_tup (pa_cons ha (pa_cons hbn pa_nil (pln_star b2 _)) (pln_star b1 _))) (pg_tup G.calm (pgs_cons (pg_name (i := i) nd x1 x2 x3) (pgs_cons (pg_name (i := j) nd y1 y2 y3) pgs_nil rfl) rfl) rfl rfl) (by rfl) (par_hn b5) rfl).weak fun D σ H h => ?_
  obtain ⟨g, fr, S, rel, h'⟩ := wk_par hij h
  refine ⟨g, fr, S, rel, h'.imp fun v H1 h2 => ?_⟩
  obtain ⟨g, fr, S, rel, h'⟩ := h2
  exact ⟨g, fr, S, rel, h'.imp fun w H2 h3 => ⟨by show 2 ≤ sizeLine; decide, fun p hp => ⟨p, [v, w], rfl, SqT.of upd_same, rfl, v, [w], rfl, w, [], rfl, rfl, h3 _ (Grows.fresh hp)⟩⟩⟩
theorem ss_set (G : Good c X W cf) {i : Nat} {x : Str} {p : Pos} (h1 : c.N[i]? = some x) (h2 : isLoc c.top (c.sc.names.lookup x) = true) (hs : swapsWith e (some (.Name x p)) pos.line X.env = pure false) (h : PE X e (tV c X W cf m)) :
    PS X (.Assign [.Name x p] e pos) (tSm c X W cf (.set i m)) := by
  obtain ⟨l1, l2, l3⟩ := good_loc G h1 h2
  exact (ps_set (i := i) (by rw [G.N]; exact G.nd) l1 l2 h hs l3).weak fun D σ H h => wk_set h
theorem sw_cell {el : Expr} {gs : List Comprehension} {sc : Scope} {q p : Pos} {x : Str} {l : Nat} {env : Env} (h : env.scope.names.lookup x = some .cell) : swapsWith (.ListComp el gs sc q) (some (.Name x p)) l env = pure false := by
  have hk : (env.kindOf x == some NameKind.local) = false := by
    show (env.scope.names.lookup x == some NameKind.local) = false
    rw [h]; rfl
  show (pure (env.blockKind == .function && env.kindOf x == some .local && _ && _) : Sem Bool) = pure false
  rw [hk, Bool.and_false, Bool.false_and, Bool.false_and]
/-- a comprehension given to a local name -/
theorem ss_setLc (G : Good c X W cf) {i : Nat} {x : Str} {p q : Pos} {elt : Xp} {tg : Tg} {it : Wk} {cs : Xs} {el t ie : Expr} {fs : List Expr} {sc : Scope} (h1 : c.N[i]? = some x) (h2 : c.sc.names.lookup x = some .local)
    (hk : c.sc.kind = .function) (hl : (p.line == q.line) = true) (ha : (sc.names.any fun (n, k) => n == x && (k == .local || k == .cell)) = false)
    (h : (chk2 (.comp elt tg it cs) c).v (.ListComp el [⟨t, ie, fs, 0⟩] sc q) = true) : PS X (.Assign [.Name x p] (.ListComp el [⟨t, ie, fs, 0⟩] sc q) pos) (tSm c X W cf (.set i (.comp elt tg it cs))) := by
  have h' : (blkC c.N c.sc sc (tg.own c.N) && pln ie && chkW it c t ie && chkG { c with sc := relS sc c.sc, top := false } tg t && chkC cs { c with sc := relS sc c.sc, top := false } fs &&
    (chk2 elt { c with sc := relS sc c.sc, top := false }).v el) = true := h
  obtain ⟨h, b6⟩ := and2 h'
  obtain ⟨h, b5⟩ := and2 h
  obtain ⟨h, b4⟩ := and2 h
  obtain ⟨h, b3⟩ := and2 h
  obtain ⟨b1, b2⟩ := and2 h
  have hok' : BlkOk X.N X.env.scope sc (tg.own c.N) := by rw [G.N, G.sc]; exact blkOk_by b1
  have hlx : X.env.scope.names.lookup x = some .local := by rw [G.sc]; exact h2
  refine (ps_setLc (i := i) (wi := tWk c X W cf it) (g := gT X tg) (tt := tX X.K X.mg (fun _ _ _ _ => False) rId (evC cf c.gl cs)) (te := tX X.K X.mg (fun _ _ _ _ => False) (rD X.K) (fun fr S => frzX (ev cf c.gl elt fr S))) G.calm (by rw [G.N]; exact G.nd) (by rw [G.N]; exact h1) hlx (sw_true (by rw [G.sc]; exact hk) hlx hl ha) (sws it c X W cf G _ _ b3) hok' (fun s H C cl fp => sg (G.blk sc s H C cl fp) tg t b4)
    (fun s H C cl fp => (sas cs _ _ _ cf (G.blk sc s H C cl fp)).2 _ b5) (fun s H C cl fp => frzPE ((sv elt _ _ _ cf (G.blk sc s H C cl fp)).1 _ b6)) (pln_fold b2 _)).weak fun D σ H h => ?_
  exact wk_comp σ H _ (wk_set h)
theorem ss_asg (G : Good c X W cf) {t : Tg} {tge : Expr} (ht : isTupleE tge = true) (hg : chkG c t tge = true) (hn : noComp e = true) (hq : noTup e = true) (h : PE X e (tV c X W cf m)) : PS X (.Assign [tge] e pos) (tSm c X W cf (.asg t m)) := by
  cases tge with
  | Tuple es k p =>
    have hw : swappedStores [.Tuple es k p] e X.env = pure none := by
      cases e <;> first | rfl | cases hq
    refine (ps_asg (frzPE h) (sg G t _ hg) (noComp_sole hn _ _ _) hw rfl).weak fun D σ H ⟨g, fr, S, rel, h⟩ => ⟨g, fr, S, rel, ?_⟩
    refine (AftS.bind rD_tmp h).imp fun x H1 ⟨d, fr1, S1, g1, k1, rel1, r1, t1, h1⟩ => ?_
    cases q : asg t d fr1 with
    | none => rw [q] at h1; exact h1.elim
    | some fr2 =>
      rw [q] at h1
      exact ⟨g1, fr1, S1, d, fr2, rel1, r1.2, q, fun σ' rel' _ _ => h1 g1 H1 σ' Keep.refl rfl rel'⟩
  | _ => cases ht

/-! ### handed back -/
theorem _root_.Eng.Rel.moveOut {K : PySem.W.Frag} {mg : Str → Option Value} {g : Gh} {fr : Frame} {S : Store} {σ : L2.St} {H : Hp} {i : Nat} {cl : Cell} {a : Addr} (r : Rel K mg g fr S σ H) (e : fr[i]? = some (some (.own cl))) (hs : σ[i]? = some (some (.ref a))) :
    ∃ g', Keep g H g' H ∧ Rel K mg g' (fr.set i none) S σ H ∧ g'.tmp = a :: g.tmp ∧ a ∉ g.tmp ∧ CellR K mg g' H a cl := by
  obtain ⟨y, e1, b, e2, hb, hcell⟩ := r.slot i _ e
  rw [hs] at e1; cases e1; cases e2
  let g' : Gh := ⟨g.rho, g.own.filter fun z => decide (z ≠ a), a :: g.tmp⟩
  have mem' : ∀ z, z ∈ g'.own ↔ z ∈ g.own ∧ z ≠ a := fun z => by
    show z ∈ g.own.filter _ ↔ _
    rw [List.mem_filter, decide_eq_true_iff]
  have av' : ∀ z, g'.av z → g.av z := fun z w => by
    rcases w with w | w | w
    · exact .inl w
    · exact .inr (.inl ((mem' z).mp w).1)
    · rcases List.mem_cons.mp w with w | w
      · exact .inr (.inl (w ▸ hb))
      · exact .inr (.inr w)
  have mm : Mono K g H g' H := Mono.less av' fun _ _ z => z
  refine ⟨g', ⟨fun b o h n w => ⟨h, n, fun z => w ((mem' b).mp z).1⟩, fun b o h n w z => ?_, fun _ _ z => z, fun _ _ z => z⟩, ?_, rfl, r.st.ot a hb, hcell.mono mm rfl⟩
  · rcases List.mem_cons.mp z with z | z
    · exact absurd (z ▸ hb) w
    · exact z
  · have q := r.setNone (i := i)
    refine ⟨q.len, fun j v ej => ?_, q.apart, ⟨r.st.len, r.st.nd, fun n c' a' e' q' => (r.st.cell n c' a' e' q').mono mm rfl, fun z w => ⟨fun t => (r.st.rt z w).1 ((mem' z).mp t).1, fun t => ?_⟩, fun z w t => ?_, fun z w => r.st.tr z (av' z w)⟩⟩
    · have hj : i ≠ j := fun hj => by
        subst hj
        have hl : i < (fr.set i (none : Option Val)).length := (List.getElem?_eq_some_iff.mp ej).1
        rw [List.length_set] at hl
        rw [List.getElem?_set_self hl] at ej; cases ej
      rw [List.getElem?_set_ne hj] at ej
      obtain ⟨y, e1, s⟩ := r.slot j v ej
      refine ⟨y, e1, ?_⟩
      cases v with
      | fz d' => exact RD.mono mm s
      | own c' =>
        obtain ⟨b', e2, hb', hc'⟩ := s
        refine ⟨b', e2, (mem' b').mpr ⟨hb', fun z => ?_⟩, hc'.mono mm rfl⟩
        subst z; subst e2
        exact r.apart i j cl c' b' hj e ej hs e1
    · rcases List.mem_cons.mp t with t | t
      · exact (r.st.rt z w).1 (t ▸ hb)
      · exact (r.st.rt z w).2 t
    · rcases List.mem_cons.mp t with t | t
      · exact ((mem' z).mp w).2 t
      · exact r.st.ot z ((mem' z).mp w).1 t
theorem se_ret (G : Good c X W cf) (h : (chk2 m c).v e = true) : PE X e (tX X.K X.mg W (rV X.K X.mg) (retX m (ev cf c.gl m))) := by
  have plain : ∀ f : Frame → Store → RX Val, retX m f = f → PE X e (tX X.K X.mg W (rV X.K X.mg) f) → PE X e (tX X.K X.mg W (rV X.K X.mg) (retX m f)) := fun f h1 h2 => by rw [h1]; exact h2
  cases m with
  | var i =>
    cases e with
    | Name x p =>
      obtain ⟨h1, h2, h3, h4⟩ := G.vis h
      refine (pe_var h1 h2 h3 h4).weak fun σ H Q ⟨g, fr, S, rel, a⟩ => ?_
      have a' : Aft X.K X.mg W (rV X.K X.mg) g H σ (match fr[i]? with
        | some (some (.fz d)) => .ok (.fz d) fr S
        | some (some (.own c)) => .ok (.own c) (fr.set i none) S
        | _ => .no) Q := a
      cases e : fr[i]? with
      | none => rw [e] at a'; exact a'.elim
      | some o =>
        cases o with
        | none => rw [e] at a'; exact a'.elim
        | some v =>
          rw [e] at a'
          cases v with
          | fz d =>
            obtain ⟨x, e1, s⟩ := rel.slot i _ e
            exact ⟨x, e1, fin_old a' rel s⟩
          | own cl =>
            obtain ⟨x, e1, b, rfl, hb, hc⟩ := rel.slot i _ e
            obtain ⟨g', k', rel', t', n', c'⟩ := rel.moveOut e e1
            exact ⟨_, e1, a' g' H _ k' rel' ⟨b, rfl, t', n', c'⟩⟩
    | _ => exact (nomatch h)
  | _ => exact plain _ rfl ((sv _ c X W cf G).1 _ h)
theorem ss_ret (G : Good c X W cf) (h : (chk2 m c).v e = true) : PS X (.Return (some e) pos) (tSm c X W cf (.ret m)) := by
  refine (ps_ret (se_ret G h)).weak fun D σ H ⟨g, fr, S, rel, h⟩ => ⟨g, fr, S, rel, ?_⟩
  have h' : AftS X.K X.mg W g H ((retX m (ev cf c.gl m) fr S).thn fun v fr S => .rt v fr S) D := h
  cases e : retX m (ev cf c.gl m) fr S with
  | no => rw [e] at h'; exact h'
  | ex x f s => rw [e] at h'; exact fun g' H' c d k' e t q => h' g' H' σ c d k' e t q
  | ok v f s =>
    rw [e] at h'
    exact fun g1 H1 x k1 rel1 rv => h' g1 H1 σ x k1 rel1 rv
theorem ss_retN : PS X (.Return none pos) (tSm c X W cf .retN) := ps_retN.weak fun D σ H ⟨g, fr, S, rel, h⟩ => h g H σ .non Keep.refl rel ⟨rfl, .non⟩
theorem ss_pass : PS X (.Pass pos) (tSm c X W cf .pass) := ps_pass.weak fun D σ H ⟨g, fr, S, rel, h⟩ => h g H σ Keep.refl rfl rel
theorem ss_cond {a b : Sms} {x y : List Stmt} (ht : PT X e (tTs c X W cf m)) (ha : PSs X x (tSs c X W cf a)) (hb : PSs X y (tSs c X W cf b)) : PS X (.If e x y pos) (tSm c X W cf (.cond m a b)) := by
  refine (ps_if ht ha hb).weak fun D σ H ⟨g, fr, S, rel, h⟩ => ⟨g, fr, S, rel, ?_⟩
  refine (AftS.bind rId_tmp h).imp fun x H1 ⟨t, fr1, S1, g1, k1, rel1, r1, t1, h1⟩ => ?_
  obtain ⟨_, rfl⟩ := r1
  cases t with
  | true => exact iteT ⟨g1, fr1, S1, rel1, h1⟩
  | false => exact iteF ⟨g1, fr1, S1, rel1, h1⟩
theorem ss_raise (G : Good c X W cf) {x : Str} {p p2 q : Pos} {s : Str} {j : Nat} (hx : c.xs.contains x = true) (hg : glB c x = true) : PS X (.Raise (some (.Call (.Name x p) [.Constant (.str s) j p2] [] q)) none pos) (tSm c X W cf (.raise x)) := by
  obtain ⟨C, h1, h2, h3, h4, h5⟩ := G.exc x hx
  obtain ⟨g1, g2⟩ := G.glob hg
  refine (ps_raise G.calm G.tk (pmk_own PySem.F.excBase_ValueError h2 h1 h3 (raises_own h4 h5) g1 g2)).weak fun D σ H ⟨g, fr, S, rel, h⟩ => ?_
  exact h g H σ (.ref C) none Keep.refl rel rfl ⟨h1, [], .nil, rfl, rfl⟩

/-! ### own objects changed -/
theorem own_of {i : Nat} {fr : Frame} (e : ownL i fr = true) : ∃ xs, fr[i]? = some (some (.own (.lst xs))) := by
  unfold ownL at e
  split at e
  · rename_i xs q; exact ⟨xs, q⟩
  · cases e
theorem ss_appv (G : Good c X W cf) {i : Nat} {y : Str} {p ap cp : Pos} (hv : visB c i y = true) (hb : PE X e (tV c X W cf m)) (hp : pln e = true) (hline : (ap.endLine == cp.line) = true) :
    PS X (.Expr (.Call (.Attribute (.Name y p) "append" ap) [e] [] cp) pos) (tSm c X W cf (.appv i m)) := by
  obtain ⟨h1, h2, h3, h4⟩ := G.vis hv
  have hfew : ((backTo cp (starEach [e] X.env)).all (fun x => !x.1) && (backToKw cp (keywordEach [] X.env)).all (fun x => x.1.isSome)
      && decide (([e] : List Expr).length + ([] : List Keyword).length + (if ([] : List Keyword).isEmpty then 0 else 1) < 30)) = true := by
    rw [pln_star hp]; rfl
  refine (ps_expr (pe_bm PySem.F.plainAttrs_list PySem.F.slot_list_append PySem.F.type_list_append mt_append (pe_var h1 h2 h3 h4) (pa_cons (frzPE hb) pa_nil (pln_star hp _)) rfl hfew hline (pln_star hp _) rfl) rfl).weak fun D σ H ⟨g, fr, S, rel, h⟩ => ?_
  have h' : AftS X.K X.mg W g H (if ownL i fr then (frzX (ev cf c.gl m fr S)).thn fun d fr S => appX i d fr S else .no) D := h
  by_cases ho : ownL i fr = true
  · rw [if_pos ho] at h'
    obtain ⟨xs, q⟩ := own_of ho
    obtain ⟨x, e1, a1, rfl, ha1, vs, hv1, rv1⟩ := rel.slot i _ q
    refine ⟨_, e1, .inl ⟨rfl, vs, SqL.of hv1⟩, g, fr, S, rel, ?_⟩
    refine (AftS.bind rD_tmp h').imp fun x H1 ⟨d1, fr1, S1, g1, k1, rel1, r1, t1, h1⟩ => ?_
    have h1' : AftS X.K X.mg W g1 H1 (appX i d1 fr1 S1) D := h1
    unfold appX at h1'
    split at h1'
    · rename_i ys q1
      obtain ⟨x2, e2, a2, rfl, ha2, ws, hv2, rv2⟩ := rel1.slot i _ q1
      rw [e1] at e2; cases e2
      by_cases hz : ys.length < sizeLine
      · rw [if_pos hz] at h1'
        obtain ⟨kp, rl⟩ := rel1.mut (c' := .lst (ys ++ [d1])) (o := .lst (ws ++ [x])) q1 e1 (fun g2 H2 mm hh => ⟨_, hh, (rv2.mono mm).append (.one (r1.2.mono mm))⟩)
        exact ⟨a1, ws, x, rfl, rfl, hv2, by rw [← rv2.length]; exact hz, h1' g1 _ σ kp rfl rl⟩
      · rw [if_neg hz] at h1'; exact h1'.elim
    · exact h1'.elim
  · rw [if_neg ho] at h'; exact h'.elim
theorem ss_extv (G : Good c X W cf) {i : Nat} {y : Str} {p ap cp : Pos} (hv : visB c i y = true) (hb : PE X e (tV c X W cf m)) (hp : pln e = true) (hline : (ap.endLine == cp.line) = true) :
    PS X (.Expr (.Call (.Attribute (.Name y p) "extend" ap) [e] [] cp) pos) (tSm c X W cf (.extv i m)) := by
  obtain ⟨h1, h2, h3, h4⟩ := G.vis hv
  have hfew : ((backTo cp (starEach [e] X.env)).all (fun x => !x.1) && (backToKw cp (keywordEach [] X.env)).all (fun x => x.1.isSome)
      && decide (([e] : List Expr).length + ([] : List Keyword).length + (if ([] : List Keyword).isEmpty then 0 else 1) < 30)) = true := by
    rw [pln_star hp]; rfl
  refine (ps_expr (pe_bm PySem.F.plainAttrs_list PySem.F.slot_list_extend PySem.F.type_list_extend mt_extend (pe_var h1 h2 h3 h4) (pa_cons (frzPE hb) pa_nil (pln_star hp _)) rfl hfew hline (pln_star hp _) rfl) rfl).weak fun D σ H ⟨g, fr, S, rel, h⟩ => ?_
  have h' : AftS X.K X.mg W g H (if ownL i fr then (frzX (ev cf c.gl m fr S)).thn fun d fr S => extX i d fr S else .no) D := h
  by_cases ho : ownL i fr = true
  · rw [if_pos ho] at h'
    obtain ⟨xs, q⟩ := own_of ho
    obtain ⟨x, e1, a1, rfl, ha1, vs, hv1, rv1⟩ := rel.slot i _ q
    refine ⟨_, e1, .inl ⟨rfl, vs, SqL.of hv1⟩, g, fr, S, rel, ?_⟩
    refine (AftS.bind rD_tmp h').imp fun x H1 ⟨d1, fr1, S1, g1, k1, rel1, r1, t1, h1⟩ => ?_
    have h1' : AftS X.K X.mg W g1 H1 (extX i d1 fr1 S1) D := h1
    unfold extX at h1'
    split at h1'
    · rename_i ys zs q1
      obtain ⟨b, us, rfl, hb1, _, rb1⟩ := r1.2.tracked_lst
      obtain ⟨x2, e2, a2, rfl, ha2, ws, hv2, rv2⟩ := rel1.slot i _ q1
      rw [e1] at e2; cases e2
      by_cases hz : ys.length + zs.length ≤ sizeLine
      · rw [if_pos hz] at h1'
        obtain ⟨kp, rl⟩ := rel1.mut (c' := .lst (ys ++ zs)) (o := .lst (ws ++ us)) q1 e1 (fun g2 H2 mm hh => ⟨_, hh, (rv2.mono mm).append (rb1.mono mm)⟩)
        exact ⟨a1, b, ws, us, rfl, rfl, hv2, hb1, by rw [← rv2.length, ← rb1.length]; exact hz, h1' g1 _ σ kp rfl rl⟩
      · rw [if_neg hz] at h1'; exact h1'.elim
    · exact h1'.elim
  · rw [if_neg ho] at h'; exact h'.elim
theorem pln_asg {o i : Expr} (h : pln i = true) (env : Env) (v : Value) : assign (.Subscript o i pos) env v = (do
      let ov ← holding [v] (eval o env)
      let iv ← holding [v, ov] (eval i env)
      standAt pos
      holding [v, ov, iv] (setItem ov iv v)
      release [v, ov, iv] []) := by
  cases i <;> first | rfl | cases h
theorem ss_setv (G : Good c X W cf) {i : Nat} {ix : Xp} {x : Str} {p p2 : Pos} {y : Expr} (hn : noComp e = true) (hv : visB c i x = true) (hp : pln y = true) (hy : PE X y (tV c X W cf ix)) (he : PE X e (tV c X W cf m)) :
    PS X (.Assign [.Subscript (.Name x p) y p2] e pos) (tSm c X W cf (.setv i ix m)) := by
  obtain ⟨h1, h2, h3, h4⟩ := G.vis hv
  have hw : swappedStores [.Subscript (.Name x p) y p2] e X.env = pure none := by cases e <;> rfl
  refine (ps_asg (frzPE he) (pg_sub (pe_var h1 h2 h3 h4) (frzPE hy) set_list (pln_asg hp X.env)) (noComp_sole hn _ _ _) hw rfl).weak fun D σ H ⟨g, fr, S, rel, h⟩ => ⟨g, fr, S, rel, ?_⟩
  refine (AftS.bind rD_tmp h).imp fun v H1 ⟨d1, fr1, S1, g1, k1, rel1, r1, t1, h1⟩ => ?_
  have h1' : AftS X.K X.mg W g1 H1 (if ownL i fr1 then (frzX (ev cf c.gl ix fr1 S1)).thn fun y fr S => setX i y d1 fr S else .no) D := h1
  by_cases ho : ownL i fr1 = true
  · rw [if_pos ho] at h1'
    obtain ⟨xs, q⟩ := own_of ho
    obtain ⟨x, e1, a1, rfl, ha1, vs, hv1, rv1⟩ := rel1.slot i _ q
    refine ⟨_, e1, g1, fr1, S1, rel1, ?_⟩
    refine (AftS.bind rD_tmp h1').imp fun w H2 ⟨d2, fr2, S2, g2, k2, rel2, r2, t2, h2⟩ => ?_
    have h2' : AftS X.K X.mg W g2 H2 (setX i d2 d1 fr2 S2) D := h2
    unfold setX at h2'
    split at h2'
    · rename_i ys k q1
      obtain rfl := RD.of_int r2.2
      obtain ⟨x2, e2, a2, rfl, ha2, ws, hv2, rv2⟩ := rel2.slot i _ q1
      rw [e1] at e2; cases e2
      cases q2 : ixN ys.length k with
      | none => rw [q2] at h2'; exact h2'.elim
      | some j =>
        rw [q2] at h2'
        obtain ⟨kp, rl⟩ := rel2.mut (c' := .lst (ys.set j d1)) (o := .lst (ws.set j v)) q1 e1 (fun g3 H3 mm hh => ⟨_, hh, RDs.set ((r1.2.mono k2.mono).mono mm) j (rv2.mono mm)⟩)
        exact ⟨a1, ws, k, j, rfl, rfl, hv2, by rw [← rv2.length]; exact q2, h2' g2 _ σ kp rfl rl⟩
    · exact h2'.elim
  · rw [if_neg ho] at h1'; exact h1'.elim
theorem ownT_of {i : Nat} {fr : Frame} (e : ownT i fr = true) : (∃ ks xs, fr[i]? = some (some (.own (.dK ks xs)))) ∨ ∃ ks xs, fr[i]? = some (some (.own (.dT ks xs))) := by
  unfold ownT at e
  split at e
  · rename_i ks xs q; exact .inl ⟨ks, xs, q⟩
  · rename_i ks xs q; exact .inr ⟨ks, xs, q⟩
  · cases e
section
variable {K : PySem.W.Frag} {κ : Type} [DecidableEq κ]
theorem put_in {k : κ} {z : V} : ∀ {ks : List κ} {vs : List V}, ks.length = vs.length → (ks.zip vs).map (fun kv => if kv.1 = k then (kv.1, z) else kv) = ks.zip (List.zipWith (fun j v => if j = k then z else v) ks vs)
  | [], [], _ => rfl
  | j :: ks, v :: vs, h => by
    simp only [List.zip_cons_cons, List.map_cons, List.zipWith_cons_cons]
    rw [put_in (by simpa using h)]
    by_cases e : j = k
    · simp [e]
    · simp [e]
theorem put_rel {g : Gh} {H : Hp} {d : D} {v : V} (r : RD K g H d v) (k : κ) : ∀ {ks : List κ} {xs : List D} {vs : List V}, RDs K g H xs vs → RDs K g H (List.zipWith (fun j u => if j = k then d else u) ks xs) (List.zipWith (fun j u => if j = k then v else u) ks vs)
  | [], _, _, _ => by simp only [List.zipWith_nil_left]; exact .nil
  | _ :: _, _, _, .nil => by simp only [List.zipWith_nil_right]; exact .nil
  | j :: ks, _, _, .cons h t => by
    simp only [List.zipWith_cons_cons]
    refine .cons ?_ (put_rel r k t)
    split
    · exact r
    · exact h
theorem zip_any {k : κ} : ∀ {ks : List κ} {vs : List V}, ks.length = vs.length → ((ks.zip vs).any fun kv => decide (kv.1 = k)) = decide (k ∈ ks)
  | [], [], _ => by simp
  | j :: ks, v :: vs, h => by
    rw [List.zip_cons_cons, List.any_cons, zip_any (by simpa using h)]
    by_cases e : j = k
    · subst e; simp
    · have e' : k ≠ j := fun z => e z.symm
      simp [e, e']
theorem putK_rel {g : Gh} {H : Hp} {d : D} {v : V} {ks : List κ} {xs : List D} {vs : List V} (r : RD K g H d v) (k : κ) (hl : ks.length = vs.length) (rs : RDs K g H xs vs) :
    ∃ ws, putK (ks.zip vs) k v = (putKs ks k).zip ws ∧ (putKs ks k).length = ws.length ∧ RDs K g H (putVs ks xs k d) ws := by
  unfold putK putKs putVs
  rw [zip_any hl]
  by_cases e : k ∈ ks
  · rw [if_pos (decide_eq_true e), if_pos e, if_pos e]
    exact ⟨_, put_in hl, by rw [List.length_zipWith, hl, Nat.min_self], put_rel r k rs⟩
  · rw [if_neg (fun z => e (of_decide_eq_true z)), if_neg e, if_neg e]
    refine ⟨vs ++ [v], ?_, by rw [List.length_append, List.length_append, hl]; rfl, rs.append (.one r)⟩
    rw [List.zip_append hl]; rfl
theorem ownT_set {i : Nat} {fr : Frame} (e : ownT i fr = true) : ∃ cl, fr[i]? = some (some (.own cl)) := by
  rcases ownT_of e with ⟨ks, xs, q⟩ | ⟨ks, xs, q⟩
  · exact ⟨_, q⟩
  · exact ⟨_, q⟩
end
theorem ss_setd (G : Good c X W cf) {i : Nat} {ix : Xp} {x : Str} {p p2 : Pos} {y : Expr} (hn : noComp e = true) (hv : visB c i x = true) (hp : pln y = true) (hy : PE X y (tV c X W cf ix)) (he : PE X e (tV c X W cf m)) :
    PS X (.Assign [.Subscript (.Name x p) y p2] e pos) (tSm c X W cf (.setd i ix m)) := by
  obtain ⟨h1, h2, h3, h4⟩ := G.vis hv
  have hw : swappedStores [.Subscript (.Name x p) y p2] e X.env = pure none := by cases e <;> rfl
  have hu : X.A.units + 1 < cLine := by have := G.un; omega
  refine (ps_asg (frzPE he) (pg_sub (pe_var h1 h2 h3 h4) (frzPE hy) (set_dict hu) (pln_asg hp X.env)) (noComp_sole hn _ _ _) hw rfl).weak fun D σ H ⟨g, fr, S, rel, h⟩ => ⟨g, fr, S, rel, ?_⟩
  refine (AftS.bind rD_tmp h).imp fun v H1 ⟨d1, fr1, S1, g1, k1, rel1, r1, t1, h1⟩ => ?_
  have h1' : AftS X.K X.mg W g1 H1 (if ownT i fr1 then (frzX (ev cf c.gl ix fr1 S1)).thn fun y fr S => setdX i y d1 fr S else .no) D := h1
  by_cases ho : ownT i fr1 = true
  · rw [if_pos ho] at h1'
    obtain ⟨cl, q⟩ := ownT_set ho
    obtain ⟨x, e1, a1, rfl, ha1, hc1⟩ := rel1.slot i _ q
    refine ⟨_, e1, g1, fr1, S1, rel1, ?_⟩
    refine (AftS.bind rD_tmp h1').imp fun w H2 ⟨d2, fr2, S2, g2, k2, rel2, r2, t2, h2⟩ => ?_
    have h2' : AftS X.K X.mg W g2 H2 (setdX i d2 d1 fr2 S2) D := h2
    have r1' := r1.2.mono k2.mono
    unfold setdX at h2'
    split at h2'
    · rename_i ks xs q1
      obtain ⟨x2, e2, a2, rfl, ha2, ws, hv2, hl2, rv2⟩ := rel2.slot i _ q1
      rw [e1] at e2; cases e2
      cases q2 : toKey d2 with
      | none => rw [q2] at h2'; exact h2'.elim
      | some k =>
        rw [q2] at h2'
        by_cases hs : ks.length < sizeLine
        · have h3' : AftS X.K X.mg W g2 H2 (if ks.length < sizeLine then .nx (fr2.set i (some (.own (.dK (putKs ks k) (putVs ks xs k d1))))) S2 else .no) D := h2'
          rw [if_pos hs] at h3'
          obtain ⟨us, z1, z2, z3⟩ := putK_rel r1' k hl2 rv2
          obtain ⟨kp, rl⟩ := rel2.mut (c' := .dK (putKs ks k) (putVs ks xs k d1)) (o := .dK (putK (ks.zip ws) k v)) q1 e1 (fun g3 H3 mm hh => ⟨us, by rw [hh, z1], z2, z3.mono mm⟩)
          refine ⟨a1, _, rfl, .inl ⟨_, k, hv2, toKey_rel r2.2 q2, ?_, rfl⟩, h3' g2 _ σ kp rfl rl⟩
          rw [List.length_zip, ← hl2, Nat.min_self]; exact hs
        · have h3' : AftS X.K X.mg W g2 H2 (if ks.length < sizeLine then .nx (fr2.set i (some (.own (.dK (putKs ks k) (putVs ks xs k d1))))) S2 else .no) D := h2'
          rw [if_neg hs] at h3'; exact h3'.elim
    · rename_i ks xs q1
      obtain ⟨x2, e2, a2, rfl, ha2, ws, hv2, hl2, rv2⟩ := rel2.slot i _ q1
      rw [e1] at e2; cases e2
      cases q2 : keyT d2 with
      | none => rw [q2] at h2'; exact h2'.elim
      | some k =>
        rw [q2] at h2'
        by_cases hs : ks.length < sizeLine
        · have h3' : AftS X.K X.mg W g2 H2 (if ks.length < sizeLine then .nx (fr2.set i (some (.own (.dT (putKs ks k) (putVs ks xs k d1))))) S2 else .no) D := h2'
          rw [if_pos hs] at h3'
          obtain ⟨us, z1, z2, z3⟩ := putK_rel r1' k hl2 rv2
          obtain ⟨kp, rl⟩ := rel2.mut (c' := .dT (putKs ks k) (putVs ks xs k d1)) (o := .dT (putK (ks.zip ws) k v)) q1 e1 (fun g3 H3 mm hh => ⟨us, by rw [hh, z1], z2, z3.mono mm⟩)
          obtain ⟨b, rfl, hb⟩ := keyT_rel r2.2 q2
          refine ⟨a1, _, rfl, .inr ⟨_, k, b, hv2, rfl, hb, ?_, rfl⟩, h3' g2 _ σ kp rfl rl⟩
          rw [List.length_zip, ← hl2, Nat.min_self]; exact hs
        · have h3' : AftS X.K X.mg W g2 H2 (if ks.length < sizeLine then .nx (fr2.set i (some (.own (.dT (putKs ks k) (putVs ks xs k d1))))) S2 else .no) D := h2'
          rw [if_neg hs] at h3'; exact h3'.elim
    · exact h2'.elim
  · rw [if_neg ho] at h1'; exact h1'.elim
theorem ss_setr (G : Good c X W cf) {a ix : Xp} {p2 : Pos} {x y : Expr} (hn : noComp e = true) (hp : pln y = true) (hx : PE X x (tV c X W cf a)) (hy : PE X y (tV c X W cf ix)) (he : PE X e (tV c X W cf m)) :
    PS X (.Assign [.Subscript x y p2] e pos) (tSm c X W cf (.setr a ix m)) := by
  have hw : swappedStores [.Subscript x y p2] e X.env = pure none := by cases e <;> rfl
  refine (ps_asg (frzPE he) (pg_sub (frzPE hx) (frzPE hy) set_list (pln_asg hp X.env)) (noComp_sole hn _ _ _) hw rfl).weak fun D σ H ⟨g, fr, S, rel, h⟩ => ⟨g, fr, S, rel, ?_⟩
  refine (AftS.bind rD_tmp h).imp fun v H1 ⟨d1, fr1, S1, g1, k1, rel1, r1, t1, h1⟩ => ⟨g1, fr1, S1, rel1, ?_⟩
  refine (AftS.bind rD_tmp h1).imp fun u H2 ⟨d2, fr2, S2, g2, k2, rel2, r2, t2, h2⟩ => ⟨g2, fr2, S2, rel2, ?_⟩
  refine (AftS.bind rD_tmp h2).imp fun w H3 ⟨d3, fr3, S3, g3, k3, rel3, r3, t3, h3⟩ => ?_
  have h3' : AftS X.K X.mg W g3 H3 (setrX d2 d3 d1 fr3 S3) D := h3
  cases d2 with
  | ref n =>
    cases d3 with
    | int k =>
      have h4 : AftS X.K X.mg W g3 H3 (match S3[n]? with
        | some (.lst xs) => match ixN xs.length k with
          | some j => .nx fr3 (S3.set n (.lst (xs.set j d1)))
          | none => .no
        | _ => .no) D := h3'
      obtain rfl := RD.of_int r3.2
      obtain ⟨b, rfl, hb⟩ := (r2.2.mono k3.mono).of_ref
      cases q : S3[n]? with
      | none => rw [q] at h4; exact h4.elim
      | some cl =>
        rw [q] at h4
        cases cl with
        | lst xs =>
          dsimp only at h4
          obtain ⟨ws, hw1, rw1⟩ := rel3.st.cell n _ b q hb
          cases q2 : ixN xs.length k with
          | none => rw [q2] at h4; exact h4.elim
          | some j =>
            rw [q2] at h4
            obtain ⟨kp, rl⟩ := rel3.mutS (c' := .lst (xs.set j d1)) (o := .lst (ws.set j v)) q hb (fun g4 H4 mm hh => ⟨_, hh, RDs.set (((r1.2.mono k2.mono).mono k3.mono).mono mm) j (rw1.mono mm)⟩)
            exact ⟨b, ws, k, j, rfl, rfl, hw1, by rw [← rw1.length]; exact q2, h4 g3 _ σ kp rfl rl⟩
        | _ => exact h4.elim
    | _ => exact h3'.elim
  | _ => exact h3'.elim

/-! ### loops -/
theorem ss_loop (G : Good c X W cf) {tg : Tg} {it : Wk} {body : Sms} {t i : Expr} {b : List Stmt} (hp : pln i = true) (hg : chkG c tg t = true) (hw : PI X t i (tWk c X W cf it)) (hb : PSs X b (tSs c X W cf body)) :
    PS X (.For t i b [] pos) (tSm c X W cf (.loop tg it body)) := by
  refine (ps_for G.po G.calm hw (sg G tg t hg) hb (pln_fold hp _)).weak fun D σ H ⟨g, fr, S, rel, h⟩ => ⟨g, fr, S, rel, ?_⟩
  refine (AftS.bind rW_tmp h).imp fun J H1 ⟨ds, fr1, S1, g1, k1, rel1, r1, t1, h1⟩ => ?_
  obtain ⟨GG, Y, wk, hG, hY⟩ := r1.2
  generalize hR : loopGo tg (exs cf c.gl body) ds fr1 S1 = R0 at h1
  refine for_it wk (fun j σ2 H2 => ∃ g2 fr2 S2, Keep g1 H1 g2 H2 ∧ g2.tmp = g1.tmp ∧ Rel X.K X.mg g2 fr2 S2 σ2 H2 ∧ loopGo tg (exs cf c.gl body) (ds.drop j) fr2 S2 = R0)
    ⟨g1, fr1, S1, Keep.refl, rfl, rel1, hR⟩ (fun j σ2 H2 _ ⟨g2, _, _, kp, _⟩ => hG g2 H2 kp) ?_ ?_
  · rintro j x σ2 H2 H2' hj ⟨g2, fr2, S2, kp, tm, rl, hgo⟩ hy
    obtain ⟨gr, d, ed, rd⟩ := hY j g2 H2 x H2' kp hj hy
    have rl' := rl.grows gr
    have kp' : Keep g1 H1 g2 H2' := kp.trans gr.keep
    have edrop : ds.drop j = d :: ds.drop (j + 1) := by
      obtain ⟨hb, e⟩ := List.getElem?_eq_some_iff.mp ed
      rw [List.drop_eq_getElem_cons hb, e]
    rw [edrop] at hgo
    have hgo' : (match asg tg d fr2 with
      | none => RS.no
      | some fr1 => match exs cf c.gl body fr1 S2 with
        | .nx fr2 S2 => loopGo tg (exs cf c.gl body) (ds.drop (j + 1)) fr2 S2
        | .ct fr2 S2 => loopGo tg (exs cf c.gl body) (ds.drop (j + 1)) fr2 S2
        | .bk fr2 S2 => .nx fr2 S2
        | r => r) = R0 := hgo
    cases q1 : asg tg d fr2 with
    | none => rw [q1] at hgo'; rw [← hgo'] at h1; exact h1.elim
    | some fr3 =>
      rw [q1] at hgo'
      dsimp only at hgo'
      refine ⟨g2, fr2, S2, d, fr3, rl', rd, q1, fun σ3 rel3 _ _ => ⟨g2, fr3, S2, rel3, ?_⟩⟩
      cases q2 : exs cf c.gl body fr3 S2 with
      | nx fr4 S4 =>
        rw [q2] at hgo'
        exact fun g4 H4 σ4 k4 t4 rel4 => ⟨g4, fr4, S4, kp'.trans k4, t4.trans tm, rel4, hgo'⟩
      | ct fr4 S4 =>
        rw [q2] at hgo'
        exact fun g4 H4 σ4 k4 t4 rel4 => ⟨g4, fr4, S4, kp'.trans k4, t4.trans tm, rel4, hgo'⟩
      | bk fr4 S4 =>
        rw [q2] at hgo'
        rw [← hgo'] at h1
        exact fun g4 H4 σ4 k4 t4 rel4 => h1 g4 H4 σ4 (kp'.trans k4) (t4.trans tm) rel4
      | rt v fr4 S4 =>
        rw [q2] at hgo'
        rw [← hgo'] at h1
        exact fun g4 H4 σ4 x k4 rel4 rv => h1 g4 H4 σ4 x (kp'.trans k4) rel4 (by rw [← tm]; exact rv)
      | ex e fr4 S4 =>
        rw [q2] at hgo'
        rw [← hgo'] at h1
        exact fun g4 H4 σ4 cl d k4 rel4 t4 xr => h1 g4 H4 σ4 cl d (kp'.trans k4) rel4 (t4.trans tm) xr
      | no =>
        rw [q2] at hgo'
        rw [← hgo'] at h1
        exact h1
  · rintro σ2 H2 ⟨g2, fr2, S2, kp, tm, rl, hgo⟩
    rw [List.drop_length] at hgo
    rw [← hgo] at h1
    exact h1 g2 H2 σ2 kp tm rl
theorem sss_nil : PSs X [] (tSs c X W cf .nil) := pss_nil.weak fun D σ H ⟨g, fr, S, rel, h⟩ => h g H σ Keep.refl rfl rel
theorem sss_cons {s : Sm} {ss : Sms} {st : Stmt} {sts : List Stmt} (h1 : PS X st (tSm c X W cf s)) (h2 : PSs X sts (tSs c X W cf ss)) : PSs X (st :: sts) (tSs c X W cf (.cons s ss)) := by
  refine (pss_cons h1 h2).weak fun D σ H ⟨g, fr, S, rel, h⟩ => ⟨g, fr, S, rel, ?_⟩
  have h' : AftS X.K X.mg W g H ((ex cf c.gl s fr S).seq fun fr S => exs cf c.gl ss fr S) D := h
  show AftS X.K X.mg W g H (ex cf c.gl s fr S) _
  cases e : ex cf c.gl s fr S with
  | nx f s1 =>
    rw [e] at h'
    exact fun g1 H1 σ1 k1 t1 rel1 => ⟨g1, f, s1, rel1, AftS.shift k1 t1 h'⟩
  | rt v f s1 => rw [e] at h'; exact h'
  | ex x f s1 => rw [e] at h'; exact h'
  | bk f s1 => rw [e] at h'; exact h'
  | ct f s1 => rw [e] at h'; exact h'
  | no => rw [e] at h'; exact h'
end

mutual
theorem ssv : ∀ (s : Sm) (c : SC) (X : Cx) (W : WX) (cf : CF), Good c X W cf → ∀ st, chkS s c st = true → PS X st (tSm c X W cf s)
  | .exp m => fun c X W cf G st h => by
      cases st with
      | Expr e p => exact ss_exp ((sv m c X W cf G).1 _ (and2 h).2) (and2 h).1
      | _ => exact (nomatch h)
  | .set i m => fun c X W cf G st h => by
      cases st with
      | Assign ts e p => cases ts with
        | nil => exact (nomatch h)
        | cons t ts => cases ts with
          | cons _ _ => cases t <;> exact (nomatch h)
          | nil => cases t with
            | Name x p2 =>
              obtain ⟨h, h4⟩ := and2 h
              obtain ⟨h, h3⟩ := and2 h
              obtain ⟨h1, h2⟩ := and2 h
              have h1' := of_decide_eq_true h1
              rw [Bool.or_eq_true, Bool.or_eq_true] at h3
              rcases h3 with (h3 | h3) | h3
              · exact ss_set G h1' h2 (noComp_sw h3 _ _ _) ((sv m c X W cf G).1 _ h4)
              · obtain ⟨h5, h6⟩ := and2 h3
                cases e with
                | ListComp el gs sc q =>
                  exact ss_set G h1' h2 (sw_cell (by rw [G.sc]; exact of_decide_eq_true h5)) ((sv m c X W cf G).1 _ h4)
                | _ => exact (nomatch h6)
              · obtain ⟨h5, h6⟩ := and2 h3
                cases m with
                | comp elt tg it cs =>
                  cases e with
                  | ListComp el gs sc q =>
                    cases gs with
                    | nil => exact (nomatch h4)
                    | cons g gs => cases gs with
                      | cons _ _ =>
                        obtain ⟨t, i, fs, as⟩ := g
                        cases as with
                        | ofNat n => cases n with
                          | zero => exact (nomatch h4)
                          | succ n => exact (nomatch h4)
                        | negSucc n => exact (nomatch h4)
                      | nil =>
                        obtain ⟨t, ie, fs, as⟩ := g
                        cases as with
                        | negSucc n => exact (nomatch h4)
                        | ofNat n => cases n with
                          | succ n => exact (nomatch h4)
                          | zero =>
                            obtain ⟨h6, b4⟩ := and2 h6
                            obtain ⟨h6, b3⟩ := and2 h6
                            obtain ⟨b1, b2⟩ := and2 h6
                            exact ss_setLc G h1' (of_decide_eq_true b2) (of_decide_eq_true b1) b3 (by rw [Bool.not_eq_true'] at b4; exact b4) h4
                  | _ => exact (nomatch h6)
                | _ => exact (nomatch h5)
            | _ => exact (nomatch h)
      | _ => exact (nomatch h)
  | .asg t m => fun c X W cf G st h => by
      cases st with
      | Assign ts e p => cases ts with
        | nil => exact (nomatch h)
        | cons tg ts => cases ts with
          | cons _ _ => exact (nomatch h)
          | nil =>
            obtain ⟨h, h5⟩ := and2 h
            obtain ⟨h, h4⟩ := and2 h
            obtain ⟨h, h3⟩ := and2 h
            obtain ⟨h1, h2⟩ := and2 h
            exact ss_asg G h1 h2 h3 h4 ((sv m c X W cf G).1 _ h5)
      | _ => exact (nomatch h)
  | .ret m => fun c X W cf G st h => by
      cases st with
      | Return o p => cases o with
        | none => exact (nomatch h)
        | some e => exact ss_ret G h
      | _ => exact (nomatch h)
  | .retN => fun c X W cf G st h => by
      cases st with
      | Return o p => cases o with
        | none => exact ss_retN
        | some e => exact (nomatch h)
      | _ => exact (nomatch h)
  | .cond t a b => fun c X W cf G st h => by
      cases st with
      | If e x y p =>
        obtain ⟨h, h3⟩ := and2 h
        obtain ⟨h1, h2⟩ := and2 h
        exact ss_cond ((sv t c X W cf G).2 _ h1) (sssv a c X W cf G _ h2) (sssv b c X W cf G _ h3)
      | _ => exact (nomatch h)
  | .loop tg it body => fun c X W cf G st h => by
      cases st with
      | For t i b o p => cases o with
        | cons _ _ => exact (nomatch h)
        | nil =>
          obtain ⟨h, h4⟩ := and2 h
          obtain ⟨h, h3⟩ := and2 h
          obtain ⟨h1, h2⟩ := and2 h
          exact ss_loop G h1 h2 (sws it c X W cf G _ _ h3) (sssv body c X W cf G _ h4)
      | _ => exact (nomatch h)
  | .raise x => fun c X W cf G st h => by
      have h' : raiseB x c st = true := h
      unfold raiseB at h'
      split at h'
      · obtain ⟨h, h3⟩ := and2 h'
        obtain ⟨h1, h2⟩ := and2 h
        obtain rfl := of_decide_eq_true h1
        exact ss_raise G h2 h3
      · cases h'
  | .appv i m => fun c X W cf G st h => by
      cases st with
      | Expr e p => cases e with
        | Call g as ks cp => cases g with
          | Attribute x a ap => cases x with
            | Name w p2 => cases as with
              | nil => exact (nomatch h)
              | cons y ys => cases ys with
                | cons _ _ => exact (nomatch h)
                | nil => cases ks with
                  | cons _ _ => exact (nomatch h)
                  | nil =>
                    obtain ⟨h, h5⟩ := and2 h
                    obtain ⟨h, h4⟩ := and2 h
                    obtain ⟨h, h3⟩ := and2 h
                    obtain ⟨h1, h2⟩ := and2 h
                    obtain rfl := of_decide_eq_true h1
                    exact ss_appv G h3 ((sv m c X W cf G).1 _ h5) h4 h2
            | _ => exact (nomatch h)
          | _ => exact (nomatch h)
        | _ => exact (nomatch h)
      | _ => exact (nomatch h)
  | .extv i m => fun c X W cf G st h => by
      cases st with
      | Expr e p => cases e with
        | Call g as ks cp => cases g with
          | Attribute x a ap => cases x with
            | Name w p2 => cases as with
              | nil => exact (nomatch h)
              | cons y ys => cases ys with
                | cons _ _ => exact (nomatch h)
                | nil => cases ks with
                  | cons _ _ => exact (nomatch h)
                  | nil =>
                    obtain ⟨h, h5⟩ := and2 h
                    obtain ⟨h, h4⟩ := and2 h
                    obtain ⟨h, h3⟩ := and2 h
                    obtain ⟨h1, h2⟩ := and2 h
                    obtain rfl := of_decide_eq_true h1
                    exact ss_extv G h3 ((sv m c X W cf G).1 _ h5) h4 h2
            | _ => exact (nomatch h)
          | _ => exact (nomatch h)
        | _ => exact (nomatch h)
      | _ => exact (nomatch h)
  | .setv i ix m => fun c X W cf G st h => by
      cases st with
      | Assign ts e p => cases ts with
        | nil => exact (nomatch h)
        | cons t ts => cases ts with
          | cons _ _ => cases t with
            | Subscript x y p2 => cases x <;> exact (nomatch h)
            | _ => exact (nomatch h)
          | nil => cases t with
            | Subscript x y p2 => cases x with
              | Name w p3 =>
                obtain ⟨h, h5⟩ := and2 h
                obtain ⟨h, h4⟩ := and2 h
                obtain ⟨h, h3⟩ := and2 h
                obtain ⟨h1, h2⟩ := and2 h
                exact ss_setv G h1 h2 h3 ((sv ix c X W cf G).1 _ h4) ((sv m c X W cf G).1 _ h5)
              | _ => exact (nomatch h)
            | _ => exact (nomatch h)
      | _ => exact (nomatch h)
  | .setr a ix m => fun c X W cf G st h => by
      cases st with
      | Assign ts e p => cases ts with
        | nil => exact (nomatch h)
        | cons t ts => cases ts with
          | cons _ _ => cases t <;> exact (nomatch h)
          | nil => cases t with
            | Subscript x y p2 =>
                obtain ⟨h, h5⟩ := and2 h
                obtain ⟨h, h4⟩ := and2 h
                obtain ⟨h, h3⟩ := and2 h
                obtain ⟨h1, h2⟩ := and2 h
                exact ss_setr G h1 h2 ((sv a c X W cf G).1 _ h3) ((sv ix c X W cf G).1 _ h4) ((sv m c X W cf G).1 _ h5)
            | _ => exact (nomatch h)
      | _ => exact (nomatch h)
  | .pass => fun c X W cf G st h => by
      cases st with
      | Pass p => exact ss_pass
      | _ => exact (nomatch h)
  | .par i j m n => fun c X W cf G st h => by
      cases st with
      | Assign ts e p => cases ts with
        | nil => exact (nomatch h)
        | cons t ts => cases ts with
          | cons _ _ => revert h; simp [chkS]
          | nil => cases t with
            | Tuple es k p2 => cases es with
              | nil => exact (nomatch h)
              | cons e1 es => cases e1 with
                | Name x px => cases es with
                  | nil => exact (nomatch h)
                  | cons e2 es => cases e2 with
                    | Name y py => cases es with
                      | cons _ _ => exact (nomatch h)
                      | nil => cases e with
                        | Tuple us k2 p4 => cases us with
                          | nil => exact (nomatch h)
                          | cons u1 us => cases us with
                            | nil => exact (nomatch h)
                            | cons u2 us => cases us with
                              | cons _ _ => exact (nomatch h)
                              | nil =>
                                obtain ⟨h, h5⟩ := and2 h
                                obtain ⟨h, h4⟩ := and2 h
                                obtain ⟨h, h3⟩ := and2 h
                                obtain ⟨h1, h2⟩ := and2 h
                                rw [Bool.or_eq_true] at h3
                                rcases h3 with h3 | h3
                                · exact ss_par G (of_decide_eq_true h1) (of_decide_eq_true h2) h3 ((sv m c X W cf G).1 _ h4) ((sv n c X W cf G).1 _ h5)
                                · exact ss_par2 G (of_decide_eq_true h1) (of_decide_eq_true h2) (of_decide_eq_true (and2 h3).1) (and2 h3).2 ((sv m c X W cf G).1 _ h4) ((sv n c X W cf G).1 _ h5)
                        | _ => exact (nomatch h)
                    | _ => exact (nomatch h)
                | _ => exact (nomatch h)
            | _ => exact (nomatch h)
      | _ => exact (nomatch h)
  | .setd i ix m => fun c X W cf G st h => by
      cases st with
      | Assign ts e p => cases ts with
        | nil => exact (nomatch h)
        | cons t ts => cases ts with
          | cons _ _ => cases t with
            | Subscript x y p2 => cases x <;> exact (nomatch h)
            | _ => exact (nomatch h)
          | nil => cases t with
            | Subscript x y p2 => cases x with
              | Name w p3 =>
                obtain ⟨h, h5⟩ := and2 h
                obtain ⟨h, h4⟩ := and2 h
                obtain ⟨h, h3⟩ := and2 h
                obtain ⟨h1, h2⟩ := and2 h
                exact ss_setd G h1 h2 h3 ((sv ix c X W cf G).1 _ h4) ((sv m c X W cf G).1 _ h5)
              | _ => exact (nomatch h)
            | _ => exact (nomatch h)
      | _ => exact (nomatch h)
theorem sssv : ∀ (s : Sms) (c : SC) (X : Cx) (W : WX) (cf : CF), Good c X W cf → ∀ st, chkSs s c st = true → PSs X st (tSs c X W cf s)
  | .nil => fun c X W cf G st h => by
      cases st with
      | nil => exact sss_nil
      | cons _ _ => exact (nomatch h)
  | .cons s ss => fun c X W cf G st h => by
      cases st with
      | nil => exact (nomatch h)
      | cons x xs => exact sss_cons (ssv s c X W cf G _ (and2 h).1) (sssv ss c X W cf G _ (and2 h).2)
end
end Eng
end

section
/-! The engine, part M: defs, a program's defs, the end of a law. -/
namespace Eng
open PySem PySem.Spec PyProof.Rows L2

/-! ### parameters -/
/-- a def's parameters are bound in order -/
def BP (d : He.DefD) : Prop := ∀ (kV doc pm : Value) (an : Option Addr) (cdv ct : Value) (us : List Value), us.length = (d.params.args.map (·.arg)).length → bindArgs (PySem.W.fnOf d.name d.qual d.params d.body d.scope .none kV doc pm an cdv ct) ⟨us, []⟩ = pure ((d.params.args.map (·.arg)).zip us)
def scopeB (N ps : List Str) (sc : Scope) : Bool := decide (sc.kind = .function) && !sc.isCoroutine && !sc.isGenerator && decide N.Nodup && decide (N.take ps.length = ps) && (ps.all fun x => decide (sc.names.lookup x = some .local) || decide (sc.names.lookup x = some .cell)) &&
  sc.names.all fun y => decide (y.2 ≠ .free)
theorem scopeB_ok {N ps : List Str} {sc : Scope} (h : scopeB N ps sc = true) : FnScope N ps sc := by
  unfold scopeB at h
  obtain ⟨h, h7⟩ := and2 h
  obtain ⟨h, h6⟩ := and2 h
  obtain ⟨h, h5⟩ := and2 h
  obtain ⟨h, h4⟩ := and2 h
  obtain ⟨h, h3⟩ := and2 h
  obtain ⟨h1, h2⟩ := and2 h
  refine ⟨of_decide_eq_true h1, by rw [Bool.not_eq_true'] at h2; exact h2, by rw [Bool.not_eq_true'] at h3; exact h3, of_decide_eq_true h4, of_decide_eq_true h5, fun x hx => ?_, fun y hy => of_decide_eq_true (List.all_eq_true.mp h7 y hy)⟩
  have := List.all_eq_true.mp h6 x hx
  rw [Bool.or_eq_true] at this
  exact this.imp of_decide_eq_true of_decide_eq_true

/-! ### one def -/
theorem start_rel {K : PySem.W.Frag} {mg : Str → Option Value} {g : Gh} {S : Store} {H : Hp} {ds : List D} {vs : List V} {N : List Str} {d : Df} (st : StR K mg g S H) (r : RDs K g H ds vs) (hn : N.length = d.ns) (hp : ds.length ≤ d.ns) :
    Rel K mg g (d.start ds) S (L2.start N vs) H := by
  have hl : ds.length = vs.length := r.length
  have get1 : ∀ (i : Nat) v, (d.start ds)[i]? = some (some v) → ∃ e, ds[i]? = some e ∧ v = .fz e := fun i v e => by
    unfold Df.start at e
    by_cases hi : i < ds.length
    · rw [List.getElem?_append_left (by rw [List.length_map]; exact hi), List.getElem?_map] at e
      cases q : ds[i]? with
      | none => rw [q] at e; cases e
      | some x => rw [q] at e; exact ⟨x, rfl, (Option.some.inj (Option.some.inj e)).symm⟩
    · rw [List.getElem?_append_right (by rw [List.length_map]; omega)] at e
      obtain ⟨_, e⟩ := List.getElem?_eq_some_iff.mp e
      rw [List.getElem_replicate] at e
      cases e
  refine ⟨?_, fun i v e => ?_, fun i j c c' a ne e1 e2 e3 => ?_, st⟩
  · unfold Df.start L2.start
    rw [List.length_append, List.length_append, List.length_map, List.length_map, List.length_replicate, List.length_replicate, hl, hn]
  · obtain ⟨x, e1, rfl⟩ := get1 i v e
    obtain ⟨y, e2, e3⟩ := r.get e1
    refine ⟨y, ?_, e3⟩
    unfold L2.start
    have hi : i < vs.length := (List.getElem?_eq_some_iff.mp e2).1
    rw [List.getElem?_append_left (by rw [List.length_map]; exact hi), List.getElem?_map, e2]; rfl
  · obtain ⟨x, _, e⟩ := get1 i _ e1
    cases e
theorem StR.noOwn {K : PySem.W.Frag} {mg : Str → Option Value} {g : Gh} {S : Store} {H : Hp} (r : StR K mg g S H) : StR K mg ⟨g.rho, [], g.tmp⟩ S H := by
  have av : ∀ a, Gh.av ⟨g.rho, [], g.tmp⟩ a → g.av a := fun a z => by
    rcases z with z | z | z
    · exact .inl z
    · exact (nomatch z)
    · exact .inr (.inr z)
  exact ⟨r.len, r.nd, fun n c a e q => (r.cell n c a e q).mono (Mono.less av fun _ _ z => z) rfl, fun a z => ⟨fun w => (nomatch w), (r.rt a z).2⟩, fun a z => (nomatch z), fun a z => r.tr a (av a z)⟩
theorem mono_noOwn {K : PySem.W.Frag} {g : Gh} {H : Hp} : Mono K g H ⟨g.rho, [], g.tmp⟩ H := Mono.less (fun a z => by
    rcases z with z | z | z
    · exact .inl z
    · exact (nomatch z)
    · exact .inr (.inr z)) fun _ _ z => z
theorem Keep.noOwn {g g' : Gh} {H H' : Hp} (k : Keep g H g' H') : Keep g H ⟨g'.rho, [], g'.tmp⟩ H' := ⟨fun a o e n m => ⟨(k.keep a o e n m).1, (k.keep a o e n m).2.1, fun z => (nomatch z)⟩, k.tmp, k.tups, k.pre⟩
theorem rV.noOwn {K : PySem.W.Frag} {mg : Str → Option Value} {g : Gh} {H : Hp} {t : List Addr} {v : Val} {x : V} (h : rV K mg t g H v x) : rV K mg t ⟨g.rho, [], g.tmp⟩ H v x := by
  cases v with
  | fz d => exact ⟨h.1, h.2.mono mono_noOwn⟩
  | own c => obtain ⟨a, e, h1, h2, h3⟩ := h; exact ⟨a, e, h1, h2, h3.mono mono_noOwn rfl⟩

/-- a def of the program by its body, where no repr is under way -/
theorem fnG_of {prog : Program} {w : World} {K : PySem.W.Frag} {mg : Str → Option Value} {base : Heap} {x qual : Str} {params : Arguments} {body : List Stmt} {scope : Scope} {dvs : List V} {kws : List (Str × V)} {fa : Addr} {fd : FuncData} {N qs : List Str} {n : Nat} {sp : Sp}
    (F : FunD K x qual params body scope dvs kws fa fd) (S : FnScope N qs scope) (ar : ∀ xs H Q E, sp xs H Q E → xs.length = qs.length)
    (hb : ∀ (cv : Value) (A : Around) (out : List Env) (s : Shared) (H : Hp) (xs : List V) (Q : VK) (E : XK), A.guards = some [] → Room n (A.deeper (envOfC qual scope s.heap.objs.size fa cv)) → sp xs H Q E →
      ∃ t, PSs (cxOf (L2.CX prog w) prog w K mg base N qual scope fa cv A out s H E) body t ∧ t { nx := fun _ H' => Q .non H', rt := Q } (L2.start N xs) H) : FnG prog w K mg base (n + 1) fa fd qs sp := by
  obtain ⟨oc, od, dV, kV, doc, pm, an, cv, ct, osl, rfl, look, code, _, _⟩ := F.ex
  refine ⟨ar, fun A out s H ags us xs Q E hq hr e0 bd rx hs => ?_⟩
  have old := fun b o (z : base.get? b = some o) => (e0.bs b o z).1
  have kin := e0.mod.kin.keeps old
  have kinds : ∀ y ∈ qs.zip us, scope.names.lookup y.1 = some .local ∨ (scope.names.lookup y.1 = some .cell ∧ ((cellsFrom (s.heap.objs.size + 1) scope.names []).lookup y.1).isSome = true) := by
    intro y hy
    have my := (List.of_mem_zip (a := y.1) (b := y.2) hy).1
    exact (S.par y.1 my).imp id fun z => ⟨z, PySem.W.cellsFrom_some _ _ _ (.inl z)⟩
  refine codeAny_call_function hr.depth (kin _ _ look) rfl S.co S.gen rfl (PySem.W.codeRec_of kin code) (bd _ _ _ _ (wpAny_newFunctionEnv_cells S.kind kinds fun env he s1 ic => ?_))
  subst he
  obtain ⟨t, pt, ht⟩ := hb cv A out s H xs Q E hq (hr.deeper _) hs
  have inv0 := inv_start (CX := L2.CX prog w) (E := E) S hr.hd e0 (ar _ _ _ _ hs) rx ic
  refine ⟨(e0.mod.nolimit.keeps old).keeps ic.toInCall.keep, codeAny_func (wpAny_mono (pt.run [] s1 (L2.start N xs) H _ inv0 ht) (fun fl s2 z => ?_) fun _ _ z => z)⟩
  match fl, z with
  | .ret u, ⟨v, _, H2, J, rv, q⟩ => exact ⟨v, H2, J.os, J.bare, J.base, J.hok, rv, q⟩
  | .next, ⟨_, H2, J, q⟩ => exact ⟨V.non, H2, J.os, J.bare, J.base, J.hok, rfl, q⟩
  | .brk, ⟨_, _, _, q⟩ => exact q.elim
  | .cont, ⟨_, _, _, q⟩ => exact q.elim
/-- what holds where any def of the program runs -/
structure Amb (prog : Program) (w : World) (K : PySem.W.Frag) (mg : Str → Option Value) (xs : List Str) (gl : Str → Option D) : Prop where
  blt : ∀ x ∈ bltNames, mg x = none
  gl : ∀ x d, gl x = some d → ∃ u v, mg x = some u ∧ RelV v u ∧ ∀ g H, RD K g H d v
  exc : ∀ x, xs.contains x = true → ∃ C, mg x = some (.ref C) ∧ PySem.W.excIn K C [.type "ValueError", .type "Exception", .type "BaseException", .type "object"] "ValueError.__new__" = true ∧
    PySem.W.keepIn K (.ref C) = true ∧ PySem.W.subIn K (.ref C) (.type "BaseException") = some true ∧ PySem.W.typeIn K (.ref C) = some (.type "type")
/-- a def keeps its promise, if those that it calls do -/
theorem def_ok {prog : Program} {w : World} {K : PySem.W.Frag} {mg : Str → Option Value} {base : Heap} {fs xs : List Str} {gl : Str → Option D} (am : Amb prog w K mg xs gl) {x qual : Str} {params : Arguments} {body : List Stmt} {scope : Scope} {f : Addr} {fd : FuncData} {d : Df} {N : List Str} {n : Nat} {cf : CF} {m : List D → Store → RC}
    (F : FunD K x qual params body scope [] [] f fd) (hs : scopeB N (params.args.map (·.arg)) scope = true) (hN : N.length = d.ns) (hp : (params.args.map (·.arg)).length = d.ps) (hps : d.ps ≤ d.ns) (hc : chkSs d.body ⟨scope, N, fs, gl, xs, true⟩ body = true)
    (hm : ∀ ds S, m ds S = runDf cf gl d ds S)
    (hf : ∀ g, fs.contains g = true → ∃ a fd ps, FnG prog w K mg base n a fd ps (spC K mg (cf g) ps.length) ∧ mg g = some (.ref a) ∧ PySem.W.keepIn K (.ref a) = true ∧ Binds K fd ps [] ∧ ∀ ds S, ds.length ≠ ps.length → cf g ds S = .no) :
    FnG prog w K mg base (n + 1) f fd (params.args.map (·.arg)) (spC K mg m (params.args.map (·.arg)).length) := by
  refine fnG_of F (N := N) (scopeB_ok hs) (fun vs H Q E h => h.1) (fun cdv A outer s H vs Q E hq hr h => ?_)
  obtain ⟨hl, g, S, ds, e0, st, r, h⟩ := h
  have hds : ds.length = d.ps := by rw [r.length, hl, hp]
  rw [hm] at h
  unfold runDf at h
  rw [if_pos hds] at h
  let c : SC := ⟨scope, N, fs, gl, xs, true⟩
  let X : Cx := cxOf (L2.CX prog w) prog w K mg base N qual scope f cdv A outer s H E
  have G : Good c X (fun cls d _ H => E cls d H) cf := {
    sc := rfl
    N := rfl
    nd := (scopeB_ok hs).nd
    calm := rfl
    tk := takes_of rfl rfl rfl rfl
    po := passes_of rfl
    un := by have := hr.un; show (A.deeper _).units + 100 < cLine; omega
    gd := hq
    fn := fun y hy => let ⟨a, fd, ps, F, mg, kp, b, l⟩ := hf y hy; ⟨n, a, fd, ps, F, hr, mg, kp, b, l⟩
    blt := am.blt
    gl := am.gl
    exc := am.exc
    top := fun _ _ => rfl }
  refine ⟨tSs c X _ cf d.body, sssv d.body c X _ cf G body hc, g, d.start ds, S, start_rel st r hN (by omega), ?_⟩
  show AftS K mg _ g H (exs cf gl d.body (d.start ds) S) _
  cases e : exs cf gl d.body (d.start ds) S with
  | nx fr' S' =>
    rw [e] at h
    exact fun g' H' σ' k t rel => h ⟨g'.rho, [], g'.tmp⟩ H' .non k.noOwn rfl rel.st.noOwn ⟨t, .non⟩
  | rt v fr' S' =>
    rw [e] at h
    exact fun g' H' σ' x k rel rv => h ⟨g'.rho, [], g'.tmp⟩ H' x k.noOwn rfl rel.st.noOwn rv.noOwn
  | ex x fr' S' =>
    rw [e] at h
    exact fun g' H' σ' cl dd k rel t xr => h ⟨g'.rho, [], g'.tmp⟩ H' cl dd k.noOwn rfl rel.st.noOwn t (xr.mono mono_noOwn)
  | bk fr' S' => rw [e] at h; exact h.elim
  | ct fr' S' => rw [e] at h; exact h.elim
  | no => rw [e] at h; exact h

/-! ### a program -/
structure Rw where
  d : He.DefD
  f : Df
  N : List Str
structure Pr where
  defs : List Rw
  xs : List Str
  gi : List (Str × Int)
  gs : List (Str × Str)
def Pr.fs (p : Pr) : List Str := p.defs.map (·.d.name)
def Pr.gl (p : Pr) (x : Str) : Option D := match p.gi.lookup x with
  | some i => some (.int i)
  | none => (p.gs.lookup x).map .str
def Pr.P (p : Pr) (x : Str) : Option Df := (p.defs.find? fun r => decide (r.d.name = x)).map (·.f)
def Pr.fa (p : Pr) : List He.Fa := p.fs.map .glo ++ (bltNames.map .free ++ (p.xs.map .glo ++ (p.xs.map .exc ++ (p.gi.map (fun q => .int q.1 q.2) ++ p.gs.map fun q => .str q.1 q.2))))
def Pr.fn (p : Pr) : List He.DefD := p.defs.map (·.d)
def Rw.ok (p : Pr) (r : Rw) : Bool := decide (r.d.at_ = (r.d.name, none)) && r.d.dfl.isEmpty && r.d.kwd.isEmpty && scopeB r.N (r.d.params.args.map (·.arg)) r.d.scope && decide (r.N.length = r.f.ns) && decide ((r.d.params.args.map (·.arg)).length = r.f.ps) &&
  decide (r.f.ps ≤ r.f.ns) && chkSs r.f.body ⟨r.d.scope, r.N, p.fs, p.gl, p.xs, true⟩ r.d.body
def Pr.ok (p : Pr) : Bool := p.defs.all (Rw.ok p)
theorem fact_mem {fa : List He.Fa} {fn : List He.DefD} {K : PySem.W.Frag} (c : He.SaysD fa fn K) {f : He.Fa} (h : f ∈ fa) : f.ok K = true := by
  obtain ⟨i, hi, e⟩ := List.getElem_of_mem h
  exact c.fact i (f := f) (by rw [List.getElem?_eq_getElem hi, e])
theorem lookup_mem {α : Type} {x : Str} {v : α} : ∀ {l : List (Str × α)}, l.lookup x = some v → (x, v) ∈ l
  | [], h => nomatch h
  | (y, w) :: r, h => by
    rw [List.lookup_cons] at h
    split at h
    · rename_i e
      cases h
      have : x = y := by simpa using e
      rw [this]
      exact List.mem_cons_self
    · exact List.mem_cons_of_mem _ (lookup_mem h)
theorem Pr.amb {p : Pr} {prog : Program} {w : World} {K : PySem.W.Frag} {h : Heap} {mg : Str → Option Value} (KX : K.In h) (G : h.Ns mainGlobals mg) (c : He.SaysD p.fa p.fn K) : Amb prog w K mg p.xs p.gl where
  blt := fun x hx => He.free_ok KX G (fact_mem c (List.mem_append.mpr (.inr (List.mem_append.mpr (.inl (List.mem_map.mpr ⟨x, hx, rfl⟩))))))
  gl := fun x d e => by
    unfold Pr.gl at e
    cases q : p.gi.lookup x with
    | some i =>
      rw [q] at e
      cases e
      have hm : He.Fa.int x i ∈ p.fa := List.mem_append.mpr (.inr (List.mem_append.mpr (.inr (List.mem_append.mpr (.inr (List.mem_append.mpr (.inr (List.mem_append.mpr (.inl (List.mem_map.mpr ⟨(x, i), lookup_mem q, rfl⟩))))))))))
      obtain ⟨t, e⟩ := He.int_ok KX G (fact_mem c hm)
      exact ⟨_, .int i, e, ⟨t, rfl⟩, fun _ _ => .int i⟩
    | none =>
      rw [q] at e
      cases q2 : p.gs.lookup x with
      | none => rw [q2] at e; cases e
      | some z =>
        rw [q2] at e
        cases e
        have hm : He.Fa.str x z ∈ p.fa := List.mem_append.mpr (.inr (List.mem_append.mpr (.inr (List.mem_append.mpr (.inr (List.mem_append.mpr (.inr (List.mem_append.mpr (.inr (List.mem_map.mpr ⟨(x, z), lookup_mem q2, rfl⟩))))))))))
        obtain ⟨t, e⟩ := He.str_ok KX G (fact_mem c hm)
        exact ⟨_, .str z, e, ⟨t, rfl⟩, fun _ _ => .str z⟩
  exc := fun x hx => by
    have hx' : x ∈ p.xs := by simpa using hx
    have m1 : He.Fa.glo x ∈ p.fa := List.mem_append.mpr (.inr (List.mem_append.mpr (.inr (List.mem_append.mpr (.inl (List.mem_map.mpr ⟨x, hx', rfl⟩))))))
    have m2 : He.Fa.exc x ∈ p.fa := List.mem_append.mpr (.inr (List.mem_append.mpr (.inr (List.mem_append.mpr (.inr (List.mem_append.mpr (.inl (List.mem_map.mpr ⟨x, hx', rfl⟩))))))))
    obtain ⟨h1, h2, h3, h4⟩ := He.exc_ok (fact_mem c m2)
    exact ⟨_, He.glo_ok KX G (fact_mem c m1), h1, h2, h3, h4⟩
theorem Pr.fn_ok {p : Pr} {prog : Program} {w : World} {K : PySem.W.Frag} {h base : Heap} {mg : Str → Option Value} (hok : p.ok = true) (hb : ∀ r ∈ p.defs, BP r.d) (KX : K.In h) (G : h.Ns mainGlobals mg) (c : He.SaysD p.fa p.fn K) :
    ∀ (n : Nat) (r : Rw), r ∈ p.defs → (p.defs.find? fun q => decide (q.d.name = r.d.name)) = some r → ∀ fd, FunD K r.d.name r.d.qual r.d.params r.d.body r.d.scope [] [] (He.ga K r.d.name) fd →
      FnG prog w K mg base n (He.ga K r.d.name) fd (r.d.params.args.map (·.arg)) (spC K mg (callN p.P p.gl n r.d.name) (r.d.params.args.map (·.arg)).length)
  | 0, r, _, _, fd, F => ⟨fun vs H Q E h => h.1, fun A outer s H args us vs Q E hq hr e0 b rv h => by
      obtain ⟨_, g, S, ds, _, _, _, z⟩ := h
      exact z.elim⟩
  | n + 1, r, hr, hfr, fd, F => by
    have hrow := List.all_eq_true.mp hok r hr
    unfold Rw.ok at hrow
    obtain ⟨q, b10⟩ := and2 hrow
    obtain ⟨q, b7⟩ := and2 q
    obtain ⟨q, b6⟩ := and2 q
    obtain ⟨q, b5⟩ := and2 q
    obtain ⟨q, b4⟩ := and2 q
    refine def_ok (prog := prog) (w := w) (base := base) (n := n) (cf := callN p.P p.gl n) (Pr.amb KX G c) F b4 (of_decide_eq_true b5) (of_decide_eq_true b6) (of_decide_eq_true b7) b10 (fun ds S => ?_) (fun y hy => ?_)
    · show (match p.P r.d.name with | some d => runDf (callN p.P p.gl n) p.gl d ds S | none => .no) = _
      have : p.P r.d.name = some r.f := by unfold Pr.P; rw [hfr]; rfl
      rw [this]
    · have hy' : y ∈ p.fs := by simpa using hy
      obtain ⟨r0, hr0, rfl⟩ := List.mem_map.mp hy'
      obtain ⟨r1, hr1⟩ : ∃ r1, (p.defs.find? fun q => decide (q.d.name = r0.d.name)) = some r1 := by
        cases e : (p.defs.find? fun q => decide (q.d.name = r0.d.name)) with
        | some r1 => exact ⟨r1, rfl⟩
        | none => exact absurd (List.find?_eq_none.mp e r0 hr0) (by simp)
      have e1 : r1.d.name = r0.d.name := by simpa using List.find?_some hr1
      have m1 : r1 ∈ p.defs := List.mem_of_find?_eq_some hr1
      have hrow1 := List.all_eq_true.mp hok r1 m1
      unfold Rw.ok at hrow1
      obtain ⟨q, c10⟩ := and2 hrow1
      obtain ⟨q, c7⟩ := and2 q
      obtain ⟨q, c6⟩ := and2 q
      obtain ⟨q, c5⟩ := and2 q
      obtain ⟨q, c4⟩ := and2 q
      obtain ⟨q, c3⟩ := and2 q
      obtain ⟨c1, c2⟩ := and2 q
      obtain ⟨i, hi, ei⟩ := List.getElem_of_mem m1
      obtain ⟨fd1, F1⟩ := c.def_ i (d := r1.d) (by unfold Pr.fn; rw [List.getElem?_map, List.getElem?_eq_getElem hi, ei]; rfl)
      have d1 : r1.d.dvs K = [] := by unfold He.DefD.dvs; rw [List.isEmpty_iff.mp c2]; rfl
      have d2 : r1.d.kws K = [] := by unfold He.DefD.kws; rw [List.isEmpty_iff.mp c3]; rfl
      have d3 : He.fAd K r1.d.at_ = He.ga K r1.d.name := by rw [of_decide_eq_true c1]; rfl
      rw [d1, d2, d3] at F1
      have ih := Pr.fn_ok (prog := prog) (w := w) (base := base) hok hb KX G c n r1 m1 (by rw [e1]; exact hr1) fd1 F1
      refine ⟨He.ga K r1.d.name, fd1, r1.d.params.args.map (·.arg), ?_, ?_, F1.kp, ?_, fun ds S hne => ?_⟩
      · rw [← e1]; exact ih
      · rw [← e1]; exact He.glo_ok KX G (fact_mem c (List.mem_append.mpr (.inl (List.mem_map.mpr ⟨r1.d.name, List.mem_map.mpr ⟨r1, m1, rfl⟩, rfl⟩))))
      · exact F1.bindsN (hb r1 m1)
      · cases n with
        | zero => rfl
        | succ n =>
          show (match p.P r0.d.name with | some d => runDf (callN p.P p.gl n) p.gl d ds S | none => .no) = _
          have : p.P r0.d.name = some r1.f := by unfold Pr.P; rw [hr1]; rfl
          rw [this]
          show (if ds.length = r1.f.ps then _ else RC.no) = .no
          rw [if_neg (fun z => hne (by rw [z, ← of_decide_eq_true c6]))]
/-- what is raised where nothing may be raised -/
theorem cx_never {prog : Program} {w : World} {H : Hp} {s s' : Shared} {u : Value} (z : L2.CX prog w [] H s (fun _ _ _ => False) u s') : False := by
  obtain ⟨a, B, H', cls, dd, _, _, _, _, _, _, _, z⟩ := z
  exact z
/-- the law's def, called at the script -/
theorem law_callG {prog : Program} {w : World} {K : PySem.W.Frag} {mg mb : Str → Option Value} {n : Nat} {fa sa : Addr} {fd : FuncData} {x : Str} {sp : Sp} {st : Shared} {us : List Value} {ns : List Int} (kin : K.In st.heap) (n1 : st.heap.Ns mainGlobals mg)
    (n2 : st.heap.Ns builtinsNs mb) (n3 : ∀ y : Str, y ≠ "__name__" → mb y = bootBuiltins y) (n4 : st.heap.NoLimit) (hg : st.gens = #[]) (hs : st.heap.get? sa = some { cls := .type "list", data := .seq us.toArray }) (hi : IntsAre us ns) (hz : ns.length ≤ sizeLine) (hr : Room n callerA)
    (F : ∀ base : Heap, K.In base → base.Ns mainGlobals mg → FnG prog w K mg base n fa fd [x] sp) (bd : ∀ (s : Shared) (u : Value), BindsTo s fd ⟨[u], []⟩ [(x, u)])
    (hp : ∀ H : Hp, Only H → SqL K H sa (ns.map V.int) → sp [.ref sa] H (fun v _ => v = .bl true) fun _ _ _ => False) :
    codeAny (model prog w) callerA (.call (.ref fa) ⟨[.ref sa], []⟩) (fun r s' => r = .ok (.ret (.bool true)) ∧ OldK st.heap s'.heap ∧ s'.os = st.os ∧ AllBare s'.gens) st := by
  have ri := vals_ints hi
  have main : ∀ H : Hp, Only H → SqL K H sa (ns.map V.int) → HOk prog w H st.heap → (∀ b u, H b = some u → b = sa ∧ K.lookup sa = none) →
      codeAny (model prog w) callerA (.call (.ref fa) ⟨[.ref sa], []⟩) (fun r s' => r = .ok (.ret (.bool true)) ∧ OldK st.heap s'.heap ∧ s'.os = st.os ∧ AllBare s'.gens) st := by
    intro H only sq ok at_
    have dict_free : ∀ {b : Addr} {o : Obj} {es : Array DictEntry} {ep : Nat}, st.heap.get? b = some o → o.data = .dict es ep → H b = none := by
      intro b o es ep z y
      match q : H b with
      | none => rfl
      | some u =>
        rw [(at_ b u q).1, hs] at z
        cases z
        exact nomatch y
    have keepN : ∀ {b : Addr} {m : Str → Option Value}, st.heap.Ns b m → (hidT st.heap H).Ns b m := by
      rintro b m ⟨o, es, ep, z, y, r⟩
      exact ⟨o, es, ep, hidT_get z (dict_free z y), y, r⟩
    have kb : K.In (hidT st.heap H) := by
      intro b o z
      refine hidT_get (kin b o z) ?_
      match q : H b with
      | none => rfl
      | some u =>
        obtain ⟨y1, y2⟩ := at_ b u q
        rw [y1, y2] at z
        exact nomatch z
    have lim : (hidT st.heap H).NoLimit := by
      obtain ⟨mc, y1, y2⟩ := n4
      exact ⟨mc, keepN y1, y2⟩
    have e0 : Env0 prog w K mg (hidT st.heap H) callerA [] st H :=
      { frames := rfl, mod := ⟨kb, keepN n1, ⟨mb, keepN n2, n3⟩, lim⟩, bs := fun b o z => of_hidT z, bsz := Nat.le_of_eq (hidT_size _ _), funs := trivial, frf := (fun b z => nomatch (show b ∈ ([] : List Addr) from z)), hok := ok, bare := .of_eq hg }
    have run := (F _ kb (keepN n1)).go callerA [] st H ⟨[.ref sa], []⟩ [.ref sa] [.ref sa] _ _ rfl hr e0 (bd st (.ref sa)) (.cons rfl .nil) (hp H only sq)
    refine codeAny_mono run fun r s' z => ?_
    match r, z with
    | .error e, z => exact (cx_never z).elim
    | .ok .next, z => exact z.elim
    | .ok .brk, z => exact z.elim
    | .ok .cont, z => exact z.elim
    | .ok (.ret u), ⟨v, H2, y1, y2, y3, y4, y5, y6⟩ =>
      have y6' : v = .bl true := y6
      subst y6'
      obtain rfl : u = Value.bool true := y5
      refine ⟨rfl, OldK.of_keep fun b o z => ?_, y1, y2⟩
      match q : H b with
      | none => exact y3.keep b o z q (fun m => nomatch (show b ∈ ([] : List Addr) from m)) (fun m => nomatch m)
      | some c =>
        obtain q2 | ⟨ob, l, q2⟩ := only b
        · rw [q] at q2; exact nomatch q2
        · have o1 := (ok b _ q2).1
          have o2 := (y4 b _ (y3.frzs b ob _ q2)).1
          rw [z] at o1
          cases o1
          exact o2
  match e : K.lookup sa with
  | some o =>
    have z := kin sa o e
    rw [hs] at z
    cases z
    exact main (fun _ => none) (fun _ => .inl rfl) (.inr ⟨_, us.toArray, _, e, rfl, rfl, rfl, by rw [List.size_toArray, hi.length]; exact hz, by simpa using ri⟩) (fun b u z => nomatch (show (none : Option HO) = some u from z)) (fun b u z => nomatch (show (none : Option HO) = some u from z))
  | none =>
    let o : HO := .frz { cls := .type "list", data := .seq us.toArray } (.lst (ns.map V.int))
    have at1 : ∀ b u, (if b = sa then some o else none) = some u → b = sa ∧ o = u := fun b u z => by
      by_cases y : b = sa
      · rw [if_pos y] at z; exact ⟨y, Option.some.inj z⟩
      · rw [if_neg y] at z; exact nomatch z
    refine main (fun b => if b = sa then some o else none) (fun b => ?_) (.inl (.inr ⟨_, if_pos rfl⟩)) (fun b u z => ?_) (fun b u z => ⟨(at1 b u z).1, e⟩)
    · by_cases y : b = sa
      · exact .inr ⟨_, _, if_pos y⟩
      · exact .inl (if_neg y)
    · obtain ⟨rfl, rfl⟩ := at1 b u z
      exact ⟨hs, by rw [List.length_map]; exact hz, us, _, ri, hs⟩
/-- the end of a law -/
theorem Pr.law {p : Pr} {l : PySem.W.OpenLaw} {q : Program} {loose : List Str} {XP : (Str → Option Value) → Heap → Prop} {d : DefRec} {n : Nat} {x : Str} (hn : l.most = some 63) (hdf : d.params.defaults = []) (hr : Room n callerA) (hok : p.ok = true)
    (hb : ∀ r ∈ p.defs, BP r.d) (hnm : d.name = "law") (r : Rw) (hrl : (p.defs.find? fun q => decide (q.d.name = ("law" : Str))) = some r) (hx : r.d.params.args.map (·.arg) = [x])
    (hlaw : ∀ ns : List Int, ns.length ≤ 63 → ∃ S, callN p.P p.gl n "law" [.scr (ns.map D.int)] [] = .ok (.fz (.bl true)) S) :
    PySem.W.WalkO q loose XP (fun w h => ∃ K : PySem.W.Frag, K.In h ∧ He.SaysD p.fa p.fn K) l.row.toRowW d [] (fun f vs => PySem.call f vs) := by
  refine Att.attach_call hn hdf fun w _ st mg mb fa _ _ _ _ sa us ns Gd Y _ _ _ hmg hs hin hl hgn => ?_
  have G := Gd.T.g
  · obtain ⟨K, KX, c⟩ := Y
    have m1 : r ∈ p.defs := List.mem_of_find?_eq_some hrl
    have e1 : r.d.name = "law" := by simpa using List.find?_some hrl
    have hrow := List.all_eq_true.mp hok r m1
    unfold Rw.ok at hrow
    obtain ⟨q, c10⟩ := and2 hrow
    obtain ⟨q, c7⟩ := and2 q
    obtain ⟨q, c6⟩ := and2 q
    obtain ⟨q, c5⟩ := and2 q
    obtain ⟨q, c4⟩ := and2 q
    obtain ⟨q, c3⟩ := and2 q
    obtain ⟨c1, c2⟩ := and2 q
    obtain ⟨i, hi, ei⟩ := List.getElem_of_mem m1
    obtain ⟨fd1, F1⟩ := c.def_ i (d := r.d) (by unfold Pr.fn; rw [List.getElem?_map, List.getElem?_eq_getElem hi, ei]; rfl)
    have d1 : r.d.dvs K = [] := by unfold He.DefD.dvs; rw [List.isEmpty_iff.mp c2]; rfl
    have d2 : r.d.kws K = [] := by unfold He.DefD.kws; rw [List.isEmpty_iff.mp c3]; rfl
    have d3 : He.fAd K r.d.at_ = He.ga K r.d.name := by rw [of_decide_eq_true c1]; rfl
    rw [d1, d2, d3] at F1
    have gl := He.glo_ok KX G (fact_mem c (List.mem_append.mpr (.inl (List.mem_map.mpr ⟨r.d.name, List.mem_map.mpr ⟨r, m1, rfl⟩, rfl⟩))))
    have efa : fa = He.ga K r.d.name := by
      rw [hnm, ← e1, gl] at hmg
      exact (Value.ref.inj (Option.some.inj hmg)).symm
    subst efa
    refine law_callG KX G Gd.T.b Gd.T.builtins Gd.T.nolimit hgn hs hin (Nat.le_trans hl (by decide)) hr (fun base _ _ => ?_) (fun s u => ?_) (fun H _ hS => ?_) (fd := fd1) (x := x) (sp := spC K mg (callN p.P p.gl n r.d.name) 1)
    · have := Pr.fn_ok (prog := l.prog) (w := w) (base := base) hok hb KX G c n r m1 (by rw [e1]; exact hrl) fd1 F1
      rw [hx] at this
      exact this
    · have := F1.bindsA (hb r m1) s [u] (by rw [hx]; rfl)
      rw [hx] at this
      exact this
    · refine ⟨rfl, ⟨[], [], []⟩, [], [.scr (ns.map D.int)], rfl, ⟨rfl, List.nodup_nil, fun n c a e => (nomatch e), fun a z => (nomatch z), fun a z => (nomatch z), fun a z => ?_⟩, .one ?_, ?_⟩
      · rcases z with z | z | z <;> exact (nomatch z)
      · have rn : RDs K ⟨[], [], []⟩ H (ns.map D.int) (ns.map V.int) := by
          clear hS hl hin
          induction ns with
          | nil => exact .nil
          | cons k ks ih => exact .cons (.int k) ih
        rcases hS with hS | hS
        · exact .scr (.inl ⟨hS, fun z => by rcases z with z | z | z <;> exact (nomatch z)⟩) rn
        · exact .scr (.inr fun H' => .inr hS) rn
      · rw [e1]
        obtain ⟨S, e⟩ := hlaw ns hl
        rw [e]
        intro g' H' x k _ _ rv
        exact RD.of_bl rv.2
end Eng
end

section
/-! The engine, part S: the functions, one step at a time. The continuations are constants, so that a rewriting does not look under them. -/
namespace Eng
open PySem L2
section
variable {cf : CF} {gl : Str → Option D} {fr : Frame} {S : Store} {a b c : Xp} {es : Xs} {x y z : D}
theorem ev_con (d : D) : ev cf gl (.con d) fr S = .ok (.fz d) fr S := rfl
theorem ev_var (i : Nat) : ev cf gl (.var i) fr S = varX i fr S := rfl
theorem ev_glo (x : Str) : ev cf gl (.glo x) fr S = RX.lift ((gl x).map Val.fz) fr S := rfl
def kBin2 (k : BK) (x y : D) (fr : Frame) (S : Store) : RX Val := RX.lift (binD k (look S x) (look S y)) fr S
def kBin1 (cf : CF) (gl : Str → Option D) (k : BK) (b : Xp) (x : D) (fr : Frame) (S : Store) : RX Val := (frzX (ev cf gl b fr S)).bind (kBin2 k x)
theorem ev_bin (k : BK) : ev cf gl (.bin k a b) fr S = (frzX (ev cf gl a fr S)).bind (kBin1 cf gl k b) := rfl
theorem kBin1_eq (k : BK) : kBin1 cf gl k b x fr S = (frzX (ev cf gl b fr S)).bind (kBin2 k x) := rfl
theorem kBin2_eq (k : BK) : kBin2 k x y fr S = RX.lift (binD k (look S x) (look S y)) fr S := rfl
def blF (r : Bool) : Val := .fz (.bl r)
def kCmp2 (k : CK) (x y : D) (fr : Frame) (S : Store) : RX Val := RX.lift ((cmpD k (look S x) (look S y)).map blF) fr S
def kCmp1 (cf : CF) (gl : Str → Option D) (k : CK) (b : Xp) (x : D) (fr : Frame) (S : Store) : RX Val := (frzX (ev cf gl b fr S)).bind (kCmp2 k x)
theorem ev_cmp (k : CK) : ev cf gl (.cmp k a b) fr S = (frzX (ev cf gl a fr S)).bind (kCmp1 cf gl k b) := rfl
theorem kCmp1_eq (k : CK) : kCmp1 cf gl k b x fr S = (frzX (ev cf gl b fr S)).bind (kCmp2 k x) := rfl
theorem kCmp2_eq (k : CK) : kCmp2 k x y fr S = RX.lift ((cmpD k (look S x) (look S y)).map blF) fr S := rfl
def kCh3 (cf : CF) (gl : Str → Option D) (l : CK) (c : Xp) (y : D) (o : Option Bool) (fr : Frame) (S : Store) : RX Val := match o with
  | some true => (frzX (ev cf gl c fr S)).bind (kCmp2 l y)
  | some false => .ok (.fz (.bl false)) fr S
  | none => .no
def kCh2 (cf : CF) (gl : Str → Option D) (k l : CK) (c : Xp) (x y : D) (fr : Frame) (S : Store) : RX Val := kCh3 cf gl l c y (cmpD k (look S x) (look S y)) fr S
def kCh1 (cf : CF) (gl : Str → Option D) (k l : CK) (b c : Xp) (x : D) (fr : Frame) (S : Store) : RX Val := (frzX (ev cf gl b fr S)).bind (kCh2 cf gl k l c x)
theorem ev_chain (k l : CK) : ev cf gl (.chain k l a b c) fr S = (frzX (ev cf gl a fr S)).bind (kCh1 cf gl k l b c) := by
  show (frzX (ev cf gl a fr S)).bind _ = _
  cases frzX (ev cf gl a fr S) with
  | ok x f s =>
    show (frzX (ev cf gl b f s)).bind _ = (frzX (ev cf gl b f s)).bind _
    cases frzX (ev cf gl b f s) with
    | ok y f2 s2 =>
      show (match cmpD k (look s2 x) (look s2 y) with | some true => _ | some false => _ | none => _) = kCh3 cf gl l c y (cmpD k (look s2 x) (look s2 y)) f2 s2
      cases cmpD k (look s2 x) (look s2 y) with
      | none => rfl
      | some t => cases t <;> rfl
    | ex e f s => rfl
    | no => rfl
  | ex e f s => rfl
  | no => rfl
theorem kCh1_eq (k l : CK) : kCh1 cf gl k l b c x fr S = (frzX (ev cf gl b fr S)).bind (kCh2 cf gl k l c x) := rfl
theorem kCh2_eq (k l : CK) : kCh2 cf gl k l c x y fr S = kCh3 cf gl l c y (cmpD k (look S x) (look S y)) fr S := rfl
theorem kCh3_t (l : CK) : kCh3 cf gl l c y (some true) fr S = (frzX (ev cf gl c fr S)).bind (kCmp2 l y) := rfl
theorem kCh3_f (l : CK) : kCh3 cf gl l c y (some false) fr S = .ok (.fz (.bl false)) fr S := rfl
def kNot (x : D) (fr : Frame) (S : Store) : RX Val := match x with | .bl b => .ok (.fz (.bl (!b))) fr S | _ => .no
theorem ev_not : ev cf gl (.not a) fr S = (frzX (ev cf gl a fr S)).bind kNot := rfl
theorem kNot_eq (t : Bool) : kNot (.bl t) fr S = .ok (.fz (.bl (!t))) fr S := rfl
def kAnd (cf : CF) (gl : Str → Option D) (b : Xp) (x : D) (fr : Frame) (S : Store) : RX Val := match x with | .bl true => ev cf gl b fr S | .bl false => .ok (.fz (.bl false)) fr S | _ => .no
theorem ev_and : ev cf gl (.and a b) fr S = (frzX (ev cf gl a fr S)).bind (kAnd cf gl b) := rfl
theorem kAnd_t : kAnd cf gl b (.bl true) fr S = ev cf gl b fr S := rfl
theorem kAnd_f : kAnd cf gl b (.bl false) fr S = .ok (.fz (.bl false)) fr S := rfl
def kOr (cf : CF) (gl : Str → Option D) (b : Xp) (x : D) (fr : Frame) (S : Store) : RX Val := match x with | .bl true => .ok (.fz (.bl true)) fr S | .bl false => ev cf gl b fr S | _ => .no
theorem ev_or : ev cf gl (.or a b) fr S = (frzX (ev cf gl a fr S)).bind (kOr cf gl b) := rfl
theorem kOr_t : kOr cf gl b (.bl true) fr S = .ok (.fz (.bl true)) fr S := rfl
theorem kOr_f : kOr cf gl b (.bl false) fr S = ev cf gl b fr S := rfl
def kIfe (cf : CF) (gl : Str → Option D) (a b : Xp) (t : Bool) (fr : Frame) (S : Store) : RX Val := match t with | true => ev cf gl a fr S | false => ev cf gl b fr S
theorem ev_ife : ev cf gl (.ife c a b) fr S = (evT cf gl c fr S).bind (kIfe cf gl a b) := rfl
theorem kIfe_t : kIfe cf gl a b true fr S = ev cf gl a fr S := rfl
theorem kIfe_f : kIfe cf gl a b false fr S = ev cf gl b fr S := rfl
def kTup (xs : List D) (fr : Frame) (S : Store) : RX Val := if xs.length ≤ sizeLine then .ok (.fz (.tup xs)) fr S else .no
theorem ev_tup : ev cf gl (.tup es) fr S = (evs cf gl es fr S).bind kTup := rfl
theorem kTup_eq {xs : List D} (h : xs.length ≤ sizeLine) : kTup xs fr S = .ok (.fz (.tup xs)) fr S := if_pos h
theorem kTup_0 : kTup [] fr S = .ok (.fz (.tup [])) fr S := if_pos (by show 0 ≤ sizeLine; decide)
theorem kTup_1 (x0 : D) : kTup [x0] fr S = .ok (.fz (.tup [x0])) fr S := if_pos (by show 1 ≤ sizeLine; decide)
theorem kTup_2 (x0 x1 : D) : kTup [x0, x1] fr S = .ok (.fz (.tup [x0, x1])) fr S := if_pos (by show 2 ≤ sizeLine; decide)
theorem kTup_3 (x0 x1 x2 : D) : kTup [x0, x1, x2] fr S = .ok (.fz (.tup [x0, x1, x2])) fr S := if_pos (by show 3 ≤ sizeLine; decide)
theorem kTup_4 (x0 x1 x2 x3 : D) : kTup [x0, x1, x2, x3] fr S = .ok (.fz (.tup [x0, x1, x2, x3])) fr S := if_pos (by show 4 ≤ sizeLine; decide)
theorem kTup_5 (x0 x1 x2 x3 x4 : D) : kTup [x0, x1, x2, x3, x4] fr S = .ok (.fz (.tup [x0, x1, x2, x3, x4])) fr S := if_pos (by show 5 ≤ sizeLine; decide)
theorem kTup_6 (x0 x1 x2 x3 x4 x5 : D) : kTup [x0, x1, x2, x3, x4, x5] fr S = .ok (.fz (.tup [x0, x1, x2, x3, x4, x5])) fr S := if_pos (by show 6 ≤ sizeLine; decide)
theorem kTup_7 (x0 x1 x2 x3 x4 x5 x6 : D) : kTup [x0, x1, x2, x3, x4, x5, x6] fr S = .ok (.fz (.tup [x0, x1, x2, x3, x4, x5, x6])) fr S := if_pos (by show 7 ≤ sizeLine; decide)
def kLst (xs : List D) (fr : Frame) (S : Store) : RX Val := if xs.length ≤ sizeLine then .ok (.own (.lst xs)) fr S else .no
theorem ev_lst : ev cf gl (.lst es) fr S = (evs cf gl es fr S).bind kLst := rfl
theorem kLst_0 : kLst [] fr S = .ok (.own (.lst [])) fr S := if_pos (by show 0 ≤ sizeLine; decide)
theorem kLst_1 (x0 : D) : kLst [x0] fr S = .ok (.own (.lst [x0])) fr S := if_pos (by show 1 ≤ sizeLine; decide)
theorem kLst_2 (x0 x1 : D) : kLst [x0, x1] fr S = .ok (.own (.lst [x0, x1])) fr S := if_pos (by show 2 ≤ sizeLine; decide)
theorem kLst_3 (x0 x1 x2 : D) : kLst [x0, x1, x2] fr S = .ok (.own (.lst [x0, x1, x2])) fr S := if_pos (by show 3 ≤ sizeLine; decide)
theorem kLst_4 (x0 x1 x2 x3 : D) : kLst [x0, x1, x2, x3] fr S = .ok (.own (.lst [x0, x1, x2, x3])) fr S := if_pos (by show 4 ≤ sizeLine; decide)
theorem kLst_5 (x0 x1 x2 x3 x4 : D) : kLst [x0, x1, x2, x3, x4] fr S = .ok (.own (.lst [x0, x1, x2, x3, x4])) fr S := if_pos (by show 5 ≤ sizeLine; decide)
theorem kLst_6 (x0 x1 x2 x3 x4 x5 : D) : kLst [x0, x1, x2, x3, x4, x5] fr S = .ok (.own (.lst [x0, x1, x2, x3, x4, x5])) fr S := if_pos (by show 6 ≤ sizeLine; decide)
theorem kLst_7 (x0 x1 x2 x3 x4 x5 x6 : D) : kLst [x0, x1, x2, x3, x4, x5, x6] fr S = .ok (.own (.lst [x0, x1, x2, x3, x4, x5, x6])) fr S := if_pos (by show 7 ≤ sizeLine; decide)
theorem kLst_8 (x0 x1 x2 x3 x4 x5 x6 x7 : D) : kLst [x0, x1, x2, x3, x4, x5, x6, x7] fr S = .ok (.own (.lst [x0, x1, x2, x3, x4, x5, x6, x7])) fr S := if_pos (by show 8 ≤ sizeLine; decide)
theorem kLst_9 (x0 x1 x2 x3 x4 x5 x6 x7 x8 : D) : kLst [x0, x1, x2, x3, x4, x5, x6, x7, x8] fr S = .ok (.own (.lst [x0, x1, x2, x3, x4, x5, x6, x7, x8])) fr S := if_pos (by show 9 ≤ sizeLine; decide)
theorem kLst_10 (x0 x1 x2 x3 x4 x5 x6 x7 x8 x9 : D) : kLst [x0, x1, x2, x3, x4, x5, x6, x7, x8, x9] fr S = .ok (.own (.lst [x0, x1, x2, x3, x4, x5, x6, x7, x8, x9])) fr S := if_pos (by show 10 ≤ sizeLine; decide)
theorem kLst_11 (x0 x1 x2 x3 x4 x5 x6 x7 x8 x9 x10 : D) : kLst [x0, x1, x2, x3, x4, x5, x6, x7, x8, x9, x10] fr S = .ok (.own (.lst [x0, x1, x2, x3, x4, x5, x6, x7, x8, x9, x10])) fr S := if_pos (by show 11 ≤ sizeLine; decide)
theorem kLst_12 (x0 x1 x2 x3 x4 x5 x6 x7 x8 x9 x10 x11 : D) : kLst [x0, x1, x2, x3, x4, x5, x6, x7, x8, x9, x10, x11] fr S = .ok (.own (.lst [x0, x1, x2, x3, x4, x5, x6, x7, x8, x9, x10, x11])) fr S := if_pos (by show 12 ≤ sizeLine; decide)
def kSub2 (x y : D) (fr : Frame) (S : Store) : RX Val := RX.lift ((subD (look S x) y).map Val.fz) fr S
def kSub1 (cf : CF) (gl : Str → Option D) (b : Xp) (x : D) (fr : Frame) (S : Store) : RX Val := (frzX (ev cf gl b fr S)).bind (kSub2 x)
theorem ev_sub : ev cf gl (.sub a b) fr S = (frzX (ev cf gl a fr S)).bind (kSub1 cf gl b) := rfl
theorem kSub1_eq : kSub1 cf gl b x fr S = (frzX (ev cf gl b fr S)).bind (kSub2 x) := rfl
theorem kSub2_eq : kSub2 x y fr S = RX.lift ((subD (look S x) y).map Val.fz) fr S := rfl
def kSl3 (x : D) (l h : Option Int) (fr : Frame) (S : Store) : RX Val := RX.lift (sliceD l h (look S x)) fr S
def kSl2 (cf : CF) (gl : Str → Option D) (c : Xp) (x : D) (l : Option Int) (fr : Frame) (S : Store) : RX Val := (evO c (ev cf gl c) fr S).bind (kSl3 x l)
def kSl1 (cf : CF) (gl : Str → Option D) (b c : Xp) (x : D) (fr : Frame) (S : Store) : RX Val := (evO b (ev cf gl b) fr S).bind (kSl2 cf gl c x)
theorem ev_slice : ev cf gl (.slice a b c) fr S = (frzX (ev cf gl a fr S)).bind (kSl1 cf gl b c) := rfl
theorem kSl1_eq : kSl1 cf gl b c x fr S = (evO b (ev cf gl b) fr S).bind (kSl2 cf gl c x) := rfl
theorem kSl2_eq (l : Option Int) : kSl2 cf gl c x l fr S = (evO c (ev cf gl c) fr S).bind (kSl3 x l) := rfl
theorem kSl3_eq (l h : Option Int) : kSl3 x l h fr S = RX.lift (sliceD l h (look S x)) fr S := rfl
def kCall (cf : CF) (f : Str) (xs : List D) (fr : Frame) (S : Store) : RX Val := (cf f xs S).back fr
theorem ev_call (f : Str) : ev cf gl (.call f es) fr S = (evs cf gl es fr S).bind (kCall cf f) := rfl
theorem kCall_eq (f : Str) (xs : List D) : kCall cf f xs fr S = (cf f xs S).back fr := rfl
def kBlt (k : FK) (xs : List D) (fr : Frame) (S : Store) : RX Val := RX.lift (bltD k (xs.map (look S))) fr S
theorem ev_blt (k : FK) : ev cf gl (.blt k es) fr S = (evs cf gl es fr S).bind (kBlt k) := rfl
theorem kBlt_1 (k : FK) : kBlt k [x] fr S = RX.lift (bltD k [look S x]) fr S := rfl
theorem kBlt_2 (k : FK) : kBlt k [x, y] fr S = RX.lift (bltD k [look S x, look S y]) fr S := rfl
def kIsi (t : TK) (x : D) (fr : Frame) (S : Store) : RX Val := RX.lift ((isD t x).map blF) fr S
theorem ev_isi (t : TK) : ev cf gl (.isi t a) fr S = (frzX (ev cf gl a fr S)).bind (kIsi t) := rfl
theorem kIsi_eq (t : TK) : kIsi t x fr S = RX.lift ((isD t x).map blF) fr S := rfl
def oBlt (k : FK) : Option D → Option Val := fun o => o.bind fun d => bltD k [d]
theorem ev_bltv (k : FK) (i : Nat) : ev cf gl (.bltv k i) fr S = RX.lift (oBlt k (peek i fr S)) fr S := rfl
theorem oBlt_some (k : FK) (d : D) : oBlt k (some d) = bltD k [d] := rfl
def oSub (y : D) : Option D → Option Val := fun o => o.bind fun d => (subD d y).map Val.fz
def kSubv2 (i : Nat) (y : D) (fr : Frame) (S : Store) : RX Val := RX.lift (oSub y (peek i fr S)) fr S
def kSubv (cf : CF) (gl : Str → Option D) (i : Nat) (b : Xp) (o : Option D) (fr : Frame) (S : Store) : RX Val := if o.isSome then (frzX (ev cf gl b fr S)).bind (kSubv2 i) else .no
theorem ev_subv (i : Nat) : ev cf gl (.subv i b) fr S = kSubv cf gl i b (peek i fr S) fr S := rfl
theorem kSubv_some (i : Nat) (d : D) : kSubv cf gl i b (some d) fr S = (frzX (ev cf gl b fr S)).bind (kSubv2 i) := rfl
theorem kSubv2_eq (i : Nat) : kSubv2 i y fr S = RX.lift (oSub y (peek i fr S)) fr S := rfl
theorem oSub_some (d : D) : oSub y (some d) = (subD d y).map Val.fz := rfl
def oCmp (k : CK) (x : D) : Option D → Option Val := fun o => o.bind fun d => (cmpD k x d).map blF
def kCmpv (k : CK) (i : Nat) (x : D) (fr : Frame) (S : Store) : RX Val := RX.lift (oCmp k (look S x) (peek i fr S)) fr S
theorem ev_cmpv (k : CK) (i : Nat) : ev cf gl (.cmpv k a i) fr S = (frzX (ev cf gl a fr S)).bind (kCmpv k i) := rfl
theorem kCmpv_eq (k : CK) (i : Nat) : kCmpv k i x fr S = RX.lift (oCmp k (look S x) (peek i fr S)) fr S := rfl
theorem oCmp_some (k : CK) (d : D) : oCmp k x (some d) = (cmpD k x d).map blF := rfl
def kPop (cf : CF) (gl : Str → Option D) (i : Nat) (b : Xp) (t : Bool) (fr : Frame) (S : Store) : RX Val := if t then (frzX (ev cf gl b fr S)).bind (popX i) else .no
theorem ev_popv (i : Nat) : ev cf gl (.popv i b) fr S = kPop cf gl i b (ownL i fr) fr S := rfl
theorem kPop_t (i : Nat) : kPop cf gl i b true fr S = (frzX (ev cf gl b fr S)).bind (popX i) := rfl
/-- a comprehension's element -/
def eltX (cf : CF) (gl : Str → Option D) (m : Xp) (fr : Frame) (S : Store) : RX D := frzX (ev cf gl m fr S)
def compOut (fr : Frame) (vs : List Nat) : RX (List D) → RX Val
  | .ok acc fr' S' => .ok (.own (.lst acc)) (backF fr fr' vs) S'
  | _ => .no
def kComp (cf : CF) (gl : Str → Option D) (a : Xp) (tg : Tg) (es : Xs) (ds : List D) (fr : Frame) (S : Store) : RX Val := if calmF fr tg.slots then compOut fr tg.slots (compGo tg (evC cf gl es) (eltX cf gl a) ds [] (wipeF fr tg.slots) S) else .no
theorem ev_comp (tg : Tg) (it : Wk) : ev cf gl (.comp a tg it es) fr S = (evW cf gl it fr S).bind (kComp cf gl a tg es) := by
  show (evW cf gl it fr S).bind _ = _
  cases evW cf gl it fr S with
  | ok ds f s =>
    show (if calmF f tg.slots then _ else _) = (if calmF f tg.slots then _ else _)
    by_cases h : calmF f tg.slots = true
    · rw [if_pos h, if_pos h]
      show (match compGo tg (evC cf gl es) (eltX cf gl a) ds [] (wipeF f tg.slots) s with | .ok acc fr' S' => _ | _ => _) = compOut f tg.slots (compGo tg (evC cf gl es) (eltX cf gl a) ds [] (wipeF f tg.slots) s)
      cases compGo tg (evC cf gl es) (eltX cf gl a) ds [] (wipeF f tg.slots) s <;> rfl
    · rw [if_neg h, if_neg h]
  | ex e f s => rfl
  | no => rfl
theorem kComp_eq {tg : Tg} {ds : List D} (h : calmF fr tg.slots = true) : kComp cf gl a tg es ds fr S = compOut fr tg.slots (compGo tg (evC cf gl es) (eltX cf gl a) ds [] (wipeF fr tg.slots) S) := if_pos h
theorem compOut_ok (vs : List Nat) (acc : List D) (f : Frame) : compOut fr vs (.ok acc f S) = .ok (.own (.lst acc)) (backF fr f vs) S := rfl
def kShare (v : Val) (fr : Frame) (S : Store) : RX Val := match v with | .own c => .ok (.fz (.ref S.length)) fr (S ++ [c]) | _ => .no
theorem ev_share : ev cf gl (.share a) fr S = (ev cf gl a fr S).bind kShare := rfl
theorem kShare_eq (cl : Cell) : kShare (.own cl) fr S = .ok (.fz (.ref S.length)) fr (S ++ [cl]) := rfl
def kListrg (y : D) (fr : Frame) (S : Store) : RX Val := match y with
  | .int j => if rgOk 0 j = true ∧ j.toNat ≤ 2 ^ 24 then .ok (.own (.lst (rgD 0 j))) fr S else .no
  | _ => .no
theorem ev_listrg : ev cf gl (.listrg b) fr S = (frzX (ev cf gl b fr S)).bind kListrg := rfl
theorem kListrg_eq {j : Int} (h : rgOk 0 j = true ∧ j.toNat ≤ 2 ^ 24) : kListrg (.int j) fr S = .ok (.own (.lst (rgD 0 j))) fr S := if_pos h
def kLenset (x : D) (fr : Frame) (S : Store) : RX Val := RX.lift (lensetD x) fr S
theorem ev_lenset : ev cf gl (.lenset a) fr S = (frzX (ev cf gl a fr S)).bind kLenset := rfl
theorem kLenset_eq : kLenset x fr S = RX.lift (lensetD x) fr S := rfl
def kNeg (x : D) (fr : Frame) (S : Store) : RX Val := match x with | .int i => .ok (.fz (.int (-i))) fr S | _ => .no
theorem ev_neg : ev cf gl (.neg a) fr S = (frzX (ev cf gl a fr S)).bind kNeg := rfl
theorem kNeg_eq (i : Int) : kNeg (.int i) fr S = .ok (.fz (.int (-i))) fr S := rfl
theorem ev_dicK : ev cf gl (.dic0 false) fr S = .ok (.own (.dK [] [])) fr S := rfl
theorem ev_dicT : ev cf gl (.dic0 true) fr S = .ok (.own (.dT [] [])) fr S := rfl
def kSortset (x : D) (fr : Frame) (S : Store) : RX Val := RX.lift (sortsetD x) fr S
theorem ev_sortset : ev cf gl (.sortset a) fr S = (frzX (ev cf gl a fr S)).bind kSortset := rfl
theorem kSortset_eq : kSortset x fr S = RX.lift (sortsetD x) fr S := rfl
def kMind2 (x y : D) (fr : Frame) (S : Store) : RX Val := RX.lift ((mindD x y).map Val.fz) fr S
def kMind1 (cf : CF) (gl : Str → Option D) (b : Xp) (x : D) (fr : Frame) (S : Store) : RX Val := (frzX (ev cf gl b fr S)).bind (kMind2 x)
theorem ev_mind : ev cf gl (.mind a b) fr S = (frzX (ev cf gl a fr S)).bind (kMind1 cf gl b) := rfl
theorem kMind1_eq : kMind1 cf gl b x fr S = (frzX (ev cf gl b fr S)).bind (kMind2 x) := rfl
theorem kMind2_eq : kMind2 x y fr S = RX.lift ((mindD x y).map Val.fz) fr S := rfl
def kCons2 (x : D) (xs : List D) (fr : Frame) (S : Store) : RX (List D) := .ok (x :: xs) fr S
def kCons1 (cf : CF) (gl : Str → Option D) (es : Xs) (x : D) (fr : Frame) (S : Store) : RX (List D) := (evs cf gl es fr S).bind (kCons2 x)
theorem evs_nil : evs cf gl .nil fr S = .ok [] fr S := rfl
theorem evs_cons : evs cf gl (.cons a es) fr S = (frzX (ev cf gl a fr S)).bind (kCons1 cf gl es) := rfl
theorem kCons1_eq : kCons1 cf gl es x fr S = (evs cf gl es fr S).bind (kCons2 x) := rfl
theorem kCons2_eq (xs : List D) : kCons2 x xs fr S = .ok (x :: xs) fr S := rfl
def kO (x : D) (fr : Frame) (S : Store) : RX (Option Int) := RX.lift ((optI x).map some) fr S
theorem evO_omit (f : Frame → Store → RX Val) : evO .omit f fr S = .ok none fr S := rfl
theorem evO_var (i : Nat) (f : Frame → Store → RX Val) : evO (.var i) f fr S = (frzX (f fr S)).bind kO := rfl
theorem evO_con (d : D) (f : Frame → Store → RX Val) : evO (.con d) f fr S = (frzX (f fr S)).bind kO := rfl
theorem evO_bin (k : BK) (f : Frame → Store → RX Val) : evO (.bin k a b) f fr S = (frzX (f fr S)).bind kO := rfl
theorem evO_bltv (k : FK) (i : Nat) (f : Frame → Store → RX Val) : evO (.bltv k i) f fr S = (frzX (f fr S)).bind kO := rfl
theorem evO_subv (i : Nat) (f : Frame → Store → RX Val) : evO (.subv i b) f fr S = (frzX (f fr S)).bind kO := rfl
theorem kO_int (i : Int) : kO (.int i) fr S = .ok (some i) fr S := rfl
theorem evC_nil : evC cf gl .nil fr S = .ok true fr S := rfl
theorem evC_one : evC cf gl (.cons a .nil) fr S = evT cf gl a fr S := rfl
def kNotT (t : Bool) (fr : Frame) (S : Store) : RX Bool := .ok (!t) fr S
theorem evT_not : evT cf gl (.not a) fr S = (evT cf gl a fr S).bind kNotT := rfl
theorem kNotT_eq (t : Bool) : kNotT t fr S = .ok (!t) fr S := rfl
def kAndT (cf : CF) (gl : Str → Option D) (b : Xp) (t : Bool) (fr : Frame) (S : Store) : RX Bool := match t with | true => evT cf gl b fr S | false => .ok false fr S
theorem evT_and : evT cf gl (.and a b) fr S = (evT cf gl a fr S).bind (kAndT cf gl b) := rfl
theorem kAndT_t : kAndT cf gl b true fr S = evT cf gl b fr S := rfl
theorem kAndT_f : kAndT cf gl b false fr S = .ok false fr S := rfl
def kOrT (cf : CF) (gl : Str → Option D) (b : Xp) (t : Bool) (fr : Frame) (S : Store) : RX Bool := match t with | true => .ok true fr S | false => evT cf gl b fr S
theorem evT_or : evT cf gl (.or a b) fr S = (evT cf gl a fr S).bind (kOrT cf gl b) := rfl
theorem kOrT_t : kOrT cf gl b true fr S = .ok true fr S := rfl
theorem kOrT_f : kOrT cf gl b false fr S = evT cf gl b fr S := rfl
def kTru (x : D) (fr : Frame) (S : Store) : RX Bool := RX.lift (truD (look S x)) fr S
theorem kTru_eq : kTru x fr S = RX.lift (truD (look S x)) fr S := rfl
theorem evT_cmp (k : CK) : evT cf gl (.cmp k a b) fr S = (frzX (ev cf gl (.cmp k a b) fr S)).bind kTru := rfl
theorem evT_chain (k l : CK) : evT cf gl (.chain k l a b c) fr S = (frzX (ev cf gl (.chain k l a b c) fr S)).bind kTru := rfl
theorem evT_cmpv (k : CK) (i : Nat) : evT cf gl (.cmpv k a i) fr S = (frzX (ev cf gl (.cmpv k a i) fr S)).bind kTru := rfl
theorem evT_var (i : Nat) : evT cf gl (.var i) fr S = (frzX (ev cf gl (.var i) fr S)).bind kTru := rfl
theorem evT_call (f : Str) : evT cf gl (.call f es) fr S = (frzX (ev cf gl (.call f es) fr S)).bind kTru := rfl
theorem evT_blt (k : FK) : evT cf gl (.blt k es) fr S = (frzX (ev cf gl (.blt k es) fr S)).bind kTru := rfl
theorem evT_isi (t : TK) : evT cf gl (.isi t a) fr S = (frzX (ev cf gl (.isi t a) fr S)).bind kTru := rfl
theorem evT_bltv (k : FK) (i : Nat) : evT cf gl (.bltv k i) fr S = (frzX (ev cf gl (.bltv k i) fr S)).bind kTru := rfl
theorem evT_subv (i : Nat) : evT cf gl (.subv i b) fr S = (frzX (ev cf gl (.subv i b) fr S)).bind kTru := rfl
theorem evT_sub : evT cf gl (.sub a b) fr S = (frzX (ev cf gl (.sub a b) fr S)).bind kTru := rfl
def kSeq (x : D) (fr : Frame) (S : Store) : RX (List D) := match x with | .lst xs => .ok xs fr S | .tup xs => .ok xs fr S | _ => .no
theorem evW_seq : evW cf gl (.seq a) fr S = (frzX (ev cf gl a fr S)).bind kSeq := rfl
theorem kSeq_lst (xs : List D) : kSeq (.lst xs) fr S = .ok xs fr S := rfl
theorem kSeq_tup (xs : List D) : kSeq (.tup xs) fr S = .ok xs fr S := rfl
def kEnm (x : D) (fr : Frame) (S : Store) : RX (List D) := match x with | .lst xs => .ok (enumD xs) fr S | .tup xs => .ok (enumD xs) fr S | _ => .no
theorem evW_enm : evW cf gl (.enm a) fr S = (frzX (ev cf gl a fr S)).bind kEnm := rfl
theorem kEnm_lst (xs : List D) : kEnm (.lst xs) fr S = .ok (enumD xs) fr S := rfl
theorem kEnm_tup (xs : List D) : kEnm (.tup xs) fr S = .ok (enumD xs) fr S := rfl
def kZip2 (x y : D) (fr : Frame) (S : Store) : RX (List D) := match x, y with
  | .lst xs, .lst ys => .ok (zipD xs ys) fr S | .tup xs, .tup ys => .ok (zipD xs ys) fr S | _, _ => .no
def kZip1 (cf : CF) (gl : Str → Option D) (b : Xp) (x : D) (fr : Frame) (S : Store) : RX (List D) := (frzX (ev cf gl b fr S)).bind (kZip2 x)
theorem evW_zip : evW cf gl (.zip a b) fr S = (frzX (ev cf gl a fr S)).bind (kZip1 cf gl b) := rfl
theorem kZip1_eq : kZip1 cf gl b x fr S = (frzX (ev cf gl b fr S)).bind (kZip2 x) := rfl
theorem kZip2_lst (xs ys : List D) : kZip2 (.lst xs) (.lst ys) fr S = .ok (zipD xs ys) fr S := rfl
theorem kZip2_tup (xs ys : List D) : kZip2 (.tup xs) (.tup ys) fr S = .ok (zipD xs ys) fr S := rfl
def kRng3c (x y z : D) (fr : Frame) (S : Store) : RX (List D) := match x, y, z with
  | .int i, .int j, .int k => if k = -1 ∧ rgOk i j = true then .ok (rgN i j) fr S else .no | _, _, _ => .no
def kRng3b (cf : CF) (gl : Str → Option D) (c : Xp) (x y : D) (fr : Frame) (S : Store) : RX (List D) := (frzX (ev cf gl c fr S)).bind (kRng3c x y)
def kRng3a (cf : CF) (gl : Str → Option D) (b c : Xp) (x : D) (fr : Frame) (S : Store) : RX (List D) := (frzX (ev cf gl b fr S)).bind (kRng3b cf gl c x)
theorem evW_rng3 : evW cf gl (.rng3 a b c) fr S = (frzX (ev cf gl a fr S)).bind (kRng3a cf gl b c) := rfl
theorem kRng3a_eq : kRng3a cf gl b c x fr S = (frzX (ev cf gl b fr S)).bind (kRng3b cf gl c x) := rfl
theorem kRng3b_eq : kRng3b cf gl c x y fr S = (frzX (ev cf gl c fr S)).bind (kRng3c x y) := rfl
theorem kRng3_eq {i j : Int} (h : rgOk i j = true) : kRng3c (.int i) (.int j) (.int (-1)) fr S = .ok (rgN i j) fr S := if_pos ⟨rfl, h⟩
def kRng1 (x : D) (fr : Frame) (S : Store) : RX (List D) := match x with | .int j => if rgOk 0 j then .ok (rgD 0 j) fr S else .no | _ => .no
theorem evW_rng1 : evW cf gl (.rng1 a) fr S = (frzX (ev cf gl a fr S)).bind kRng1 := rfl
theorem kRng1_eq {j : Int} (h : rgOk 0 j = true) : kRng1 (.int j) fr S = .ok (rgD 0 j) fr S := if_pos h
end
theorem frzX_fz (d : D) (fr : Frame) (S : Store) : frzX (.ok (.fz d) fr S) = .ok d fr S := rfl
theorem frzX_own (xs : List D) (fr : Frame) (S : Store) : frzX (.ok (.own (.lst xs)) fr S) = .ok (.lst xs) fr S := rfl
theorem frzX_ex (e : Ex) (fr : Frame) (S : Store) : frzX (.ex e fr S) = .ex e fr S := rfl
theorem frzX_no : frzX .no = .no := rfl
theorem b_ok {α β : Type} (a : α) (fr : Frame) (S : Store) (k : α → Frame → Store → RX β) : (RX.ok a fr S).bind k = k a fr S := rfl
theorem b_ex {α β : Type} (e : Ex) (fr : Frame) (S : Store) (k : α → Frame → Store → RX β) : (RX.ex e fr S).bind k = .ex e fr S := rfl
theorem b_no {α β : Type} (k : α → Frame → Store → RX β) : (RX.no : RX α).bind k = .no := rfl
theorem l_some {α : Type} (a : α) (fr : Frame) (S : Store) : RX.lift (some a) fr S = .ok a fr S := rfl
theorem l_none {α : Type} (fr : Frame) (S : Store) : RX.lift (none : Option α) fr S = .no := rfl
theorem bk_ok (fr : Frame) (v : Val) (S : Store) : (RC.ok v S).back fr = .ok v fr S := rfl
theorem bk_ex (fr : Frame) (e : Ex) (S : Store) : (RC.ex e S).back fr = .ex e fr S := rfl
theorem bk_no (fr : Frame) : (RC.no).back fr = .no := rfl
theorem t_ok {α : Type} (a : α) (fr : Frame) (S : Store) (k : α → Frame → Store → RS) : (RX.ok a fr S).thn k = k a fr S := rfl
theorem t_ex {α : Type} (e : Ex) (fr : Frame) (S : Store) (k : α → Frame → Store → RS) : (RX.ex e fr S).thn k = .ex e fr S := rfl
theorem t_no {α : Type} (k : α → Frame → Store → RS) : (RX.no : RX α).thn k = .no := rfl
theorem s_nx (fr : Frame) (S : Store) (k : Frame → Store → RS) : (RS.nx fr S).seq k = k fr S := rfl
theorem s_rt (v : Val) (fr : Frame) (S : Store) (k : Frame → Store → RS) : (RS.rt v fr S).seq k = .rt v fr S := rfl
theorem s_ex (e : Ex) (fr : Frame) (S : Store) (k : Frame → Store → RS) : (RS.ex e fr S).seq k = .ex e fr S := rfl
theorem s_no (k : Frame → Store → RS) : (RS.no).seq k = .no := rfl
theorem d_nx (fr : Frame) (S : Store) : (RS.nx fr S).done = .ok (.fz .non) S := rfl
theorem d_rt (v : Val) (fr : Frame) (S : Store) : (RS.rt v fr S).done = .ok v S := rfl
theorem d_ex (e : Ex) (fr : Frame) (S : Store) : (RS.ex e fr S).done = .ex e S := rfl
theorem lk_non (S : Store) : look S .non = .non := rfl
theorem lk_bl (S : Store) (b : Bool) : look S (.bl b) = .bl b := rfl
theorem lk_int (S : Store) (i : Int) : look S (.int i) = .int i := rfl
theorem lk_str (S : Store) (x : Str) : look S (.str x) = .str x := rfl
theorem lk_lst (S : Store) (xs : List D) : look S (.lst xs) = .lst xs := rfl
theorem lk_tup (S : Store) (xs : List D) : look S (.tup xs) = .tup xs := rfl
theorem lk_scr (S : Store) (xs : List D) : look S (.scr xs) = .scr xs := rfl
theorem lk_dic (S : Store) (ks : List Key) (xs : List D) : look S (.dic ks xs) = .dic ks xs := rfl
theorem tru_bl (b : Bool) : truD (.bl b) = some b := rfl
theorem tru_lst (xs : List D) : truD (.lst xs) = some (!xs.isEmpty) := rfl
theorem blF_eq (r : Bool) : blF r = .fz (.bl r) := rfl
theorem om_some {α β : Type} (f : α → β) (a : α) : Option.map f (some a) = some (f a) := rfl
theorem om_none {α β : Type} (f : α → β) : Option.map f (none : Option α) = none := rfl
section
variable {cf : CF} {gl : Str → Option D} {fr : Frame} {S : Store} {m m2 m3 : Xp} {tg : Tg} {it : Wk} {ss s2 : Sms} {s : Sm} {d o y : D}
def kNx (_ : D) (fr : Frame) (S : Store) : RS := .nx fr S
theorem ex_exp : ex cf gl (.exp m) fr S = (frzX (ev cf gl m fr S)).thn kNx := rfl
theorem kNx_eq : kNx d fr S = .nx fr S := rfl
def kSet (i : Nat) (v : Val) (fr : Frame) (S : Store) : RS := .nx (fr.set i (some v)) S
theorem ex_set (i : Nat) : ex cf gl (.set i m) fr S = (ev cf gl m fr S).thn (kSet i) := rfl
theorem kSet_eq (i : Nat) (v : Val) : kSet i v fr S = .nx (fr.set i (some v)) S := rfl
def oNx (S : Store) : Option Frame → RS
  | some fr => .nx fr S
  | none => .no
def kAsg (tg : Tg) (d : D) (fr : Frame) (S : Store) : RS := oNx S (asg tg d fr)
theorem ex_asg : ex cf gl (.asg tg m) fr S = (frzX (ev cf gl m fr S)).thn (kAsg tg) := by
  show (frzX (ev cf gl m fr S)).thn _ = _
  cases frzX (ev cf gl m fr S) with
  | ok d f s =>
    show (match asg tg d f with | some fr' => RS.nx fr' s | none => .no) = oNx s (asg tg d f)
    cases asg tg d f <;> rfl
  | ex e f s => rfl
  | no => rfl
theorem kAsg_eq : kAsg tg d fr S = oNx S (asg tg d fr) := rfl
theorem oNx_some (f : Frame) : oNx S (some f) = .nx f S := rfl
def kRt (v : Val) (fr : Frame) (S : Store) : RS := .rt v fr S
theorem ex_ret : ex cf gl (.ret m) fr S = (retX m (ev cf gl m) fr S).thn kRt := rfl
theorem kRt_eq (v : Val) : kRt v fr S = .rt v fr S := rfl
theorem ex_retN : ex cf gl .retN fr S = .rt (.fz .non) fr S := rfl
def kCond (cf : CF) (gl : Str → Option D) (a b : Sms) (t : Bool) (fr : Frame) (S : Store) : RS := match t with | true => exs cf gl a fr S | false => exs cf gl b fr S
theorem ex_cond : ex cf gl (.cond m ss s2) fr S = (evT cf gl m fr S).thn (kCond cf gl ss s2) := rfl
theorem kCond_t : kCond cf gl ss s2 true fr S = exs cf gl ss fr S := rfl
theorem kCond_f : kCond cf gl ss s2 false fr S = exs cf gl s2 fr S := rfl
def kLoop (tg : Tg) (body : Frame → Store → RS) (ds : List D) (fr : Frame) (S : Store) : RS := loopGo tg body ds fr S
theorem ex_loop : ex cf gl (.loop tg it ss) fr S = (evW cf gl it fr S).thn (kLoop tg (exs cf gl ss)) := rfl
theorem kLoop_eq (body : Frame → Store → RS) (ds : List D) : kLoop tg body ds fr S = loopGo tg body ds fr S := rfl
theorem ex_raise (x : Str) : ex cf gl (.raise x) fr S = .ex ⟨x, [], []⟩ fr S := rfl
def kApp (cf : CF) (gl : Str → Option D) (i : Nat) (m : Xp) (t : Bool) (fr : Frame) (S : Store) : RS := if t then (frzX (ev cf gl m fr S)).thn (appX i) else .no
theorem ex_appv (i : Nat) : ex cf gl (.appv i m) fr S = kApp cf gl i m (ownL i fr) fr S := rfl
theorem kApp_t (i : Nat) : kApp cf gl i m true fr S = (frzX (ev cf gl m fr S)).thn (appX i) := rfl
def kExt (cf : CF) (gl : Str → Option D) (i : Nat) (m : Xp) (t : Bool) (fr : Frame) (S : Store) : RS := if t then (frzX (ev cf gl m fr S)).thn (extX i) else .no
theorem ex_extv (i : Nat) : ex cf gl (.extv i m) fr S = kExt cf gl i m (ownL i fr) fr S := rfl
theorem kExt_t (i : Nat) : kExt cf gl i m true fr S = (frzX (ev cf gl m fr S)).thn (extX i) := rfl
def kSetv2 (i : Nat) (d y : D) (fr : Frame) (S : Store) : RS := setX i y d fr S
def kSetv1 (cf : CF) (gl : Str → Option D) (i : Nat) (m2 : Xp) (d : D) (t : Bool) (fr : Frame) (S : Store) : RS := if t then (frzX (ev cf gl m2 fr S)).thn (kSetv2 i d) else .no
def kSetv (cf : CF) (gl : Str → Option D) (i : Nat) (m2 : Xp) (d : D) (fr : Frame) (S : Store) : RS := kSetv1 cf gl i m2 d (ownL i fr) fr S
theorem ex_setv (i : Nat) : ex cf gl (.setv i m2 m) fr S = (frzX (ev cf gl m fr S)).thn (kSetv cf gl i m2) := rfl
theorem kSetv_eq (i : Nat) : kSetv cf gl i m2 d fr S = kSetv1 cf gl i m2 d (ownL i fr) fr S := rfl
theorem kSetv1_t (i : Nat) : kSetv1 cf gl i m2 d true fr S = (frzX (ev cf gl m2 fr S)).thn (kSetv2 i d) := rfl
theorem kSetv2_eq (i : Nat) : kSetv2 i d y fr S = setX i y d fr S := rfl
def kSetr3 (d o y : D) (fr : Frame) (S : Store) : RS := setrX o y d fr S
def kSetr2 (cf : CF) (gl : Str → Option D) (m2 : Xp) (d o : D) (fr : Frame) (S : Store) : RS := (frzX (ev cf gl m2 fr S)).thn (kSetr3 d o)
def kSetr1 (cf : CF) (gl : Str → Option D) (m3 m2 : Xp) (d : D) (fr : Frame) (S : Store) : RS := (frzX (ev cf gl m3 fr S)).thn (kSetr2 cf gl m2 d)
theorem ex_setr : ex cf gl (.setr m3 m2 m) fr S = (frzX (ev cf gl m fr S)).thn (kSetr1 cf gl m3 m2) := rfl
theorem kSetr1_eq : kSetr1 cf gl m3 m2 d fr S = (frzX (ev cf gl m3 fr S)).thn (kSetr2 cf gl m2 d) := rfl
theorem kSetr2_eq : kSetr2 cf gl m2 d o fr S = (frzX (ev cf gl m2 fr S)).thn (kSetr3 d o) := rfl
theorem kSetr3_eq : kSetr3 d o y fr S = setrX o y d fr S := rfl
def kPar2 (i j : Nat) (v w : Val) (fr : Frame) (S : Store) : RS := .nx ((fr.set i (some v)).set j (some w)) S
def kPar1 (cf : CF) (gl : Str → Option D) (i j : Nat) (m : Xp) (v : Val) (fr : Frame) (S : Store) : RS := (ev cf gl m fr S).thn (kPar2 i j v)
theorem ex_par (i j : Nat) : ex cf gl (.par i j m m2) fr S = (ev cf gl m fr S).thn (kPar1 cf gl i j m2) := rfl
theorem kPar1_eq (i j : Nat) (v : Val) : kPar1 cf gl i j m v fr S = (ev cf gl m fr S).thn (kPar2 i j v) := rfl
theorem kPar2_eq (i j : Nat) (v w : Val) : kPar2 i j v w fr S = .nx ((fr.set i (some v)).set j (some w)) S := rfl
def kSetd2 (i : Nat) (d y : D) (fr : Frame) (S : Store) : RS := setdX i y d fr S
def kSetd1 (cf : CF) (gl : Str → Option D) (i : Nat) (m2 : Xp) (d : D) (t : Bool) (fr : Frame) (S : Store) : RS := if t then (frzX (ev cf gl m2 fr S)).thn (kSetd2 i d) else .no
def kSetd (cf : CF) (gl : Str → Option D) (i : Nat) (m2 : Xp) (d : D) (fr : Frame) (S : Store) : RS := kSetd1 cf gl i m2 d (ownT i fr) fr S
theorem ex_setd (i : Nat) : ex cf gl (.setd i m2 m) fr S = (frzX (ev cf gl m fr S)).thn (kSetd cf gl i m2) := rfl
theorem kSetd_eq (i : Nat) : kSetd cf gl i m2 d fr S = kSetd1 cf gl i m2 d (ownT i fr) fr S := rfl
theorem kSetd1_t (i : Nat) : kSetd1 cf gl i m2 d true fr S = (frzX (ev cf gl m2 fr S)).thn (kSetd2 i d) := rfl
theorem kSetd2_eq (i : Nat) : kSetd2 i d y fr S = setdX i y d fr S := rfl
theorem ex_pass : ex cf gl .pass fr S = .nx fr S := rfl
theorem exs_nil : exs cf gl .nil fr S = .nx fr S := rfl
theorem exs_cons : exs cf gl (.cons s ss) fr S = (ex cf gl s fr S).seq (exs cf gl ss) := rfl
theorem ret_con (d : D) (f : Frame → Store → RX Val) : retX (.con d) f = f := rfl
theorem ret_bin (k : BK) (f : Frame → Store → RX Val) : retX (.bin k m m2) f = f := rfl
theorem ret_cmp (k : CK) (f : Frame → Store → RX Val) : retX (.cmp k m m2) f = f := rfl
theorem ret_chain (k l : CK) (f : Frame → Store → RX Val) : retX (.chain k l m m2 m3) f = f := rfl
theorem ret_not (f : Frame → Store → RX Val) : retX (.not m) f = f := rfl
theorem ret_and (f : Frame → Store → RX Val) : retX (.and m m2) f = f := rfl
theorem ret_or (f : Frame → Store → RX Val) : retX (.or m m2) f = f := rfl
theorem ret_ife (f : Frame → Store → RX Val) : retX (.ife m m2 m3) f = f := rfl
theorem ret_tup (es : Xs) (f : Frame → Store → RX Val) : retX (.tup es) f = f := rfl
theorem ret_lst (es : Xs) (f : Frame → Store → RX Val) : retX (.lst es) f = f := rfl
theorem ret_sub (f : Frame → Store → RX Val) : retX (.sub m m2) f = f := rfl
theorem ret_slice (f : Frame → Store → RX Val) : retX (.slice m m2 m3) f = f := rfl
theorem ret_call (f' : Str) (es : Xs) (f : Frame → Store → RX Val) : retX (.call f' es) f = f := rfl
theorem ret_blt (k : FK) (es : Xs) (f : Frame → Store → RX Val) : retX (.blt k es) f = f := rfl
theorem ret_isi (t : TK) (f : Frame → Store → RX Val) : retX (.isi t m) f = f := rfl
theorem ret_bltv (k : FK) (i : Nat) (f : Frame → Store → RX Val) : retX (.bltv k i) f = f := rfl
theorem ret_subv (i : Nat) (f : Frame → Store → RX Val) : retX (.subv i m) f = f := rfl
theorem ret_cmpv (k : CK) (i : Nat) (f : Frame → Store → RX Val) : retX (.cmpv k m i) f = f := rfl
theorem ret_popv (i : Nat) (f : Frame → Store → RX Val) : retX (.popv i m) f = f := rfl
theorem ret_comp (es : Xs) (f : Frame → Store → RX Val) : retX (.comp m tg it es) f = f := rfl
theorem ret_share (f : Frame → Store → RX Val) : retX (.share m) f = f := rfl
theorem ret_glo (x : Str) (f : Frame → Store → RX Val) : retX (.glo x) f = f := rfl
end
/-- a name read, by its slot -/
theorem varX_fz {i : Nat} {fr : Frame} {S : Store} {d : D} (h : fr[i]? = some (some (.fz d))) : varX i fr S = .ok (.fz d) fr S := by
  unfold varX; rw [h]
theorem callN_run {P : Str → Option Df} {gl : Str → Option D} {n : Nat} {f : Str} {d : Df} {xs : List D} {S : Store} (h : P f = some d) (hl : xs.length = d.ps) :
    callN P gl (n + 1) f xs S = (exs (callN P gl n) gl d.body (d.start xs) S).done := by
  show (match P f with | some d => runDf (callN P gl n) gl d xs S | none => .no) = _
  rw [h]
  show (if xs.length = d.ps then _ else RC.no) = _
  rw [if_pos hl]
section
variable {S : Store} {r : Frame} {d e : D} {xs : List D} {o : Option Val} {i : Nat}
theorem vx0 : varX 0 (some (.fz d) :: r) S = .ok (.fz d) (some (.fz d) :: r) S := rfl
theorem vo0 : varX 0 (some (.own (.lst xs)) :: r) S = .ok (.fz (.lst xs)) (some (.fz (.lst xs)) :: r) S := rfl
theorem pk0 : peek 0 (some (.fz d) :: r) S = some (look S d) := rfl
theorem po0 : peek 0 (some (.own (.lst xs)) :: r) S = some (.lst xs) := rfl
theorem ol0 : ownL 0 (some (.own (.lst xs)) :: r) = true := rfl
theorem rf0 (f : Frame → Store → RX Val) : retX (.var 0) f (some (.fz d) :: r) S = .ok (.fz d) (some (.fz d) :: r) S := rfl
theorem ro0 (f : Frame → Store → RX Val) (c : Cell) : retX (.var 0) f (some (.own c) :: r) S = .ok (.own c) (none :: r) S := rfl
theorem st0 (v : Option Val) : List.set (o :: r) 0 v = v :: r := rfl
theorem vx1 (o0 : Option Val) : varX 1 (o0 :: some (.fz d) :: r) S = .ok (.fz d) (o0 :: some (.fz d) :: r) S := rfl
theorem vo1 (o0 : Option Val) : varX 1 (o0 :: some (.own (.lst xs)) :: r) S = .ok (.fz (.lst xs)) (o0 :: some (.fz (.lst xs)) :: r) S := rfl
theorem pk1 (o0 : Option Val) : peek 1 (o0 :: some (.fz d) :: r) S = some (look S d) := rfl
theorem po1 (o0 : Option Val) : peek 1 (o0 :: some (.own (.lst xs)) :: r) S = some (.lst xs) := rfl
theorem ol1 (o0 : Option Val) : ownL 1 (o0 :: some (.own (.lst xs)) :: r) = true := rfl
theorem rf1 (o0 : Option Val) (f : Frame → Store → RX Val) : retX (.var 1) f (o0 :: some (.fz d) :: r) S = .ok (.fz d) (o0 :: some (.fz d) :: r) S := rfl
theorem ro1 (o0 : Option Val) (f : Frame → Store → RX Val) (c : Cell) : retX (.var 1) f (o0 :: some (.own c) :: r) S = .ok (.own c) (o0 :: none :: r) S := rfl
theorem st1 (o0 : Option Val) (v : Option Val) : List.set (o0 :: o :: r) 1 v = o0 :: v :: r := rfl
theorem vx2 (o0 o1 : Option Val) : varX 2 (o0 :: o1 :: some (.fz d) :: r) S = .ok (.fz d) (o0 :: o1 :: some (.fz d) :: r) S := rfl
theorem vo2 (o0 o1 : Option Val) : varX 2 (o0 :: o1 :: some (.own (.lst xs)) :: r) S = .ok (.fz (.lst xs)) (o0 :: o1 :: some (.fz (.lst xs)) :: r) S := rfl
theorem pk2 (o0 o1 : Option Val) : peek 2 (o0 :: o1 :: some (.fz d) :: r) S = some (look S d) := rfl
theorem po2 (o0 o1 : Option Val) : peek 2 (o0 :: o1 :: some (.own (.lst xs)) :: r) S = some (.lst xs) := rfl
theorem ol2 (o0 o1 : Option Val) : ownL 2 (o0 :: o1 :: some (.own (.lst xs)) :: r) = true := rfl
theorem rf2 (o0 o1 : Option Val) (f : Frame → Store → RX Val) : retX (.var 2) f (o0 :: o1 :: some (.fz d) :: r) S = .ok (.fz d) (o0 :: o1 :: some (.fz d) :: r) S := rfl
theorem ro2 (o0 o1 : Option Val) (f : Frame → Store → RX Val) (c : Cell) : retX (.var 2) f (o0 :: o1 :: some (.own c) :: r) S = .ok (.own c) (o0 :: o1 :: none :: r) S := rfl
theorem st2 (o0 o1 : Option Val) (v : Option Val) : List.set (o0 :: o1 :: o :: r) 2 v = o0 :: o1 :: v :: r := rfl
theorem vx3 (o0 o1 o2 : Option Val) : varX 3 (o0 :: o1 :: o2 :: some (.fz d) :: r) S = .ok (.fz d) (o0 :: o1 :: o2 :: some (.fz d) :: r) S := rfl
theorem vo3 (o0 o1 o2 : Option Val) : varX 3 (o0 :: o1 :: o2 :: some (.own (.lst xs)) :: r) S = .ok (.fz (.lst xs)) (o0 :: o1 :: o2 :: some (.fz (.lst xs)) :: r) S := rfl
theorem pk3 (o0 o1 o2 : Option Val) : peek 3 (o0 :: o1 :: o2 :: some (.fz d) :: r) S = some (look S d) := rfl
theorem po3 (o0 o1 o2 : Option Val) : peek 3 (o0 :: o1 :: o2 :: some (.own (.lst xs)) :: r) S = some (.lst xs) := rfl
theorem ol3 (o0 o1 o2 : Option Val) : ownL 3 (o0 :: o1 :: o2 :: some (.own (.lst xs)) :: r) = true := rfl
theorem rf3 (o0 o1 o2 : Option Val) (f : Frame → Store → RX Val) : retX (.var 3) f (o0 :: o1 :: o2 :: some (.fz d) :: r) S = .ok (.fz d) (o0 :: o1 :: o2 :: some (.fz d) :: r) S := rfl
theorem ro3 (o0 o1 o2 : Option Val) (f : Frame → Store → RX Val) (c : Cell) : retX (.var 3) f (o0 :: o1 :: o2 :: some (.own c) :: r) S = .ok (.own c) (o0 :: o1 :: o2 :: none :: r) S := rfl
theorem st3 (o0 o1 o2 : Option Val) (v : Option Val) : List.set (o0 :: o1 :: o2 :: o :: r) 3 v = o0 :: o1 :: o2 :: v :: r := rfl
theorem vx4 (o0 o1 o2 o3 : Option Val) : varX 4 (o0 :: o1 :: o2 :: o3 :: some (.fz d) :: r) S = .ok (.fz d) (o0 :: o1 :: o2 :: o3 :: some (.fz d) :: r) S := rfl
theorem vo4 (o0 o1 o2 o3 : Option Val) : varX 4 (o0 :: o1 :: o2 :: o3 :: some (.own (.lst xs)) :: r) S = .ok (.fz (.lst xs)) (o0 :: o1 :: o2 :: o3 :: some (.fz (.lst xs)) :: r) S := rfl
theorem pk4 (o0 o1 o2 o3 : Option Val) : peek 4 (o0 :: o1 :: o2 :: o3 :: some (.fz d) :: r) S = some (look S d) := rfl
theorem po4 (o0 o1 o2 o3 : Option Val) : peek 4 (o0 :: o1 :: o2 :: o3 :: some (.own (.lst xs)) :: r) S = some (.lst xs) := rfl
theorem ol4 (o0 o1 o2 o3 : Option Val) : ownL 4 (o0 :: o1 :: o2 :: o3 :: some (.own (.lst xs)) :: r) = true := rfl
theorem rf4 (o0 o1 o2 o3 : Option Val) (f : Frame → Store → RX Val) : retX (.var 4) f (o0 :: o1 :: o2 :: o3 :: some (.fz d) :: r) S = .ok (.fz d) (o0 :: o1 :: o2 :: o3 :: some (.fz d) :: r) S := rfl
theorem ro4 (o0 o1 o2 o3 : Option Val) (f : Frame → Store → RX Val) (c : Cell) : retX (.var 4) f (o0 :: o1 :: o2 :: o3 :: some (.own c) :: r) S = .ok (.own c) (o0 :: o1 :: o2 :: o3 :: none :: r) S := rfl
theorem st4 (o0 o1 o2 o3 : Option Val) (v : Option Val) : List.set (o0 :: o1 :: o2 :: o3 :: o :: r) 4 v = o0 :: o1 :: o2 :: o3 :: v :: r := rfl
theorem vx5 (o0 o1 o2 o3 o4 : Option Val) : varX 5 (o0 :: o1 :: o2 :: o3 :: o4 :: some (.fz d) :: r) S = .ok (.fz d) (o0 :: o1 :: o2 :: o3 :: o4 :: some (.fz d) :: r) S := rfl
theorem vo5 (o0 o1 o2 o3 o4 : Option Val) : varX 5 (o0 :: o1 :: o2 :: o3 :: o4 :: some (.own (.lst xs)) :: r) S = .ok (.fz (.lst xs)) (o0 :: o1 :: o2 :: o3 :: o4 :: some (.fz (.lst xs)) :: r) S := rfl
theorem pk5 (o0 o1 o2 o3 o4 : Option Val) : peek 5 (o0 :: o1 :: o2 :: o3 :: o4 :: some (.fz d) :: r) S = some (look S d) := rfl
theorem po5 (o0 o1 o2 o3 o4 : Option Val) : peek 5 (o0 :: o1 :: o2 :: o3 :: o4 :: some (.own (.lst xs)) :: r) S = some (.lst xs) := rfl
theorem ol5 (o0 o1 o2 o3 o4 : Option Val) : ownL 5 (o0 :: o1 :: o2 :: o3 :: o4 :: some (.own (.lst xs)) :: r) = true := rfl
theorem rf5 (o0 o1 o2 o3 o4 : Option Val) (f : Frame → Store → RX Val) : retX (.var 5) f (o0 :: o1 :: o2 :: o3 :: o4 :: some (.fz d) :: r) S = .ok (.fz d) (o0 :: o1 :: o2 :: o3 :: o4 :: some (.fz d) :: r) S := rfl
theorem ro5 (o0 o1 o2 o3 o4 : Option Val) (f : Frame → Store → RX Val) (c : Cell) : retX (.var 5) f (o0 :: o1 :: o2 :: o3 :: o4 :: some (.own c) :: r) S = .ok (.own c) (o0 :: o1 :: o2 :: o3 :: o4 :: none :: r) S := rfl
theorem st5 (o0 o1 o2 o3 o4 : Option Val) (v : Option Val) : List.set (o0 :: o1 :: o2 :: o3 :: o4 :: o :: r) 5 v = o0 :: o1 :: o2 :: o3 :: o4 :: v :: r := rfl
theorem vx6 (o0 o1 o2 o3 o4 o5 : Option Val) : varX 6 (o0 :: o1 :: o2 :: o3 :: o4 :: o5 :: some (.fz d) :: r) S = .ok (.fz d) (o0 :: o1 :: o2 :: o3 :: o4 :: o5 :: some (.fz d) :: r) S := rfl
theorem vo6 (o0 o1 o2 o3 o4 o5 : Option Val) : varX 6 (o0 :: o1 :: o2 :: o3 :: o4 :: o5 :: some (.own (.lst xs)) :: r) S = .ok (.fz (.lst xs)) (o0 :: o1 :: o2 :: o3 :: o4 :: o5 :: some (.fz (.lst xs)) :: r) S := rfl
theorem pk6 (o0 o1 o2 o3 o4 o5 : Option Val) : peek 6 (o0 :: o1 :: o2 :: o3 :: o4 :: o5 :: some (.fz d) :: r) S = some (look S d) := rfl
theorem po6 (o0 o1 o2 o3 o4 o5 : Option Val) : peek 6 (o0 :: o1 :: o2 :: o3 :: o4 :: o5 :: some (.own (.lst xs)) :: r) S = some (.lst xs) := rfl
theorem ol6 (o0 o1 o2 o3 o4 o5 : Option Val) : ownL 6 (o0 :: o1 :: o2 :: o3 :: o4 :: o5 :: some (.own (.lst xs)) :: r) = true := rfl
theorem rf6 (o0 o1 o2 o3 o4 o5 : Option Val) (f : Frame → Store → RX Val) : retX (.var 6) f (o0 :: o1 :: o2 :: o3 :: o4 :: o5 :: some (.fz d) :: r) S = .ok (.fz d) (o0 :: o1 :: o2 :: o3 :: o4 :: o5 :: some (.fz d) :: r) S := rfl
theorem ro6 (o0 o1 o2 o3 o4 o5 : Option Val) (f : Frame → Store → RX Val) (c : Cell) : retX (.var 6) f (o0 :: o1 :: o2 :: o3 :: o4 :: o5 :: some (.own c) :: r) S = .ok (.own c) (o0 :: o1 :: o2 :: o3 :: o4 :: o5 :: none :: r) S := rfl
theorem st6 (o0 o1 o2 o3 o4 o5 : Option Val) (v : Option Val) : List.set (o0 :: o1 :: o2 :: o3 :: o4 :: o5 :: o :: r) 6 v = o0 :: o1 :: o2 :: o3 :: o4 :: o5 :: v :: r := rfl
theorem vx7 (o0 o1 o2 o3 o4 o5 o6 : Option Val) : varX 7 (o0 :: o1 :: o2 :: o3 :: o4 :: o5 :: o6 :: some (.fz d) :: r) S = .ok (.fz d) (o0 :: o1 :: o2 :: o3 :: o4 :: o5 :: o6 :: some (.fz d) :: r) S := rfl
theorem vo7 (o0 o1 o2 o3 o4 o5 o6 : Option Val) : varX 7 (o0 :: o1 :: o2 :: o3 :: o4 :: o5 :: o6 :: some (.own (.lst xs)) :: r) S = .ok (.fz (.lst xs)) (o0 :: o1 :: o2 :: o3 :: o4 :: o5 :: o6 :: some (.fz (.lst xs)) :: r) S := rfl
theorem pk7 (o0 o1 o2 o3 o4 o5 o6 : Option Val) : peek 7 (o0 :: o1 :: o2 :: o3 :: o4 :: o5 :: o6 :: some (.fz d) :: r) S = some (look S d) := rfl
theorem po7 (o0 o1 o2 o3 o4 o5 o6 : Option Val) : peek 7 (o0 :: o1 :: o2 :: o3 :: o4 :: o5 :: o6 :: some (.own (.lst xs)) :: r) S = some (.lst xs) := rfl
theorem ol7 (o0 o1 o2 o3 o4 o5 o6 : Option Val) : ownL 7 (o0 :: o1 :: o2 :: o3 :: o4 :: o5 :: o6 :: some (.own (.lst xs)) :: r) = true := rfl
theorem rf7 (o0 o1 o2 o3 o4 o5 o6 : Option Val) (f : Frame → Store → RX Val) : retX (.var 7) f (o0 :: o1 :: o2 :: o3 :: o4 :: o5 :: o6 :: some (.fz d) :: r) S = .ok (.fz d) (o0 :: o1 :: o2 :: o3 :: o4 :: o5 :: o6 :: some (.fz d) :: r) S := rfl
theorem ro7 (o0 o1 o2 o3 o4 o5 o6 : Option Val) (f : Frame → Store → RX Val) (c : Cell) : retX (.var 7) f (o0 :: o1 :: o2 :: o3 :: o4 :: o5 :: o6 :: some (.own c) :: r) S = .ok (.own c) (o0 :: o1 :: o2 :: o3 :: o4 :: o5 :: o6 :: none :: r) S := rfl
theorem st7 (o0 o1 o2 o3 o4 o5 o6 : Option Val) (v : Option Val) : List.set (o0 :: o1 :: o2 :: o3 :: o4 :: o5 :: o6 :: o :: r) 7 v = o0 :: o1 :: o2 :: o3 :: o4 :: o5 :: o6 :: v :: r := rfl
theorem vx8 (o0 o1 o2 o3 o4 o5 o6 o7 : Option Val) : varX 8 (o0 :: o1 :: o2 :: o3 :: o4 :: o5 :: o6 :: o7 :: some (.fz d) :: r) S = .ok (.fz d) (o0 :: o1 :: o2 :: o3 :: o4 :: o5 :: o6 :: o7 :: some (.fz d) :: r) S := rfl
theorem vo8 (o0 o1 o2 o3 o4 o5 o6 o7 : Option Val) : varX 8 (o0 :: o1 :: o2 :: o3 :: o4 :: o5 :: o6 :: o7 :: some (.own (.lst xs)) :: r) S = .ok (.fz (.lst xs)) (o0 :: o1 :: o2 :: o3 :: o4 :: o5 :: o6 :: o7 :: some (.fz (.lst xs)) :: r) S := rfl
theorem pk8 (o0 o1 o2 o3 o4 o5 o6 o7 : Option Val) : peek 8 (o0 :: o1 :: o2 :: o3 :: o4 :: o5 :: o6 :: o7 :: some (.fz d) :: r) S = some (look S d) := rfl
theorem po8 (o0 o1 o2 o3 o4 o5 o6 o7 : Option Val) : peek 8 (o0 :: o1 :: o2 :: o3 :: o4 :: o5 :: o6 :: o7 :: some (.own (.lst xs)) :: r) S = some (.lst xs) := rfl
theorem ol8 (o0 o1 o2 o3 o4 o5 o6 o7 : Option Val) : ownL 8 (o0 :: o1 :: o2 :: o3 :: o4 :: o5 :: o6 :: o7 :: some (.own (.lst xs)) :: r) = true := rfl
theorem rf8 (o0 o1 o2 o3 o4 o5 o6 o7 : Option Val) (f : Frame → Store → RX Val) : retX (.var 8) f (o0 :: o1 :: o2 :: o3 :: o4 :: o5 :: o6 :: o7 :: some (.fz d) :: r) S = .ok (.fz d) (o0 :: o1 :: o2 :: o3 :: o4 :: o5 :: o6 :: o7 :: some (.fz d) :: r) S := rfl
theorem ro8 (o0 o1 o2 o3 o4 o5 o6 o7 : Option Val) (f : Frame → Store → RX Val) (c : Cell) : retX (.var 8) f (o0 :: o1 :: o2 :: o3 :: o4 :: o5 :: o6 :: o7 :: some (.own c) :: r) S = .ok (.own c) (o0 :: o1 :: o2 :: o3 :: o4 :: o5 :: o6 :: o7 :: none :: r) S := rfl
theorem st8 (o0 o1 o2 o3 o4 o5 o6 o7 : Option Val) (v : Option Val) : List.set (o0 :: o1 :: o2 :: o3 :: o4 :: o5 :: o6 :: o7 :: o :: r) 8 v = o0 :: o1 :: o2 :: o3 :: o4 :: o5 :: o6 :: o7 :: v :: r := rfl
theorem look_at {n : Nat} (h : S[n]? = some (.lst xs)) : look S (.ref n) = .lst xs := by
  show lookC n S[n]? = _
  rw [h]; rfl
theorem atD_lit {xs : List D} {x : D} (j : Nat) (h : xs[j]? = some x) : atD xs (j : Int) = some x := atI_nat h
theorem bin_mulI {i j : Int} (h : (-(2 ^ 64) < i ∧ i < 2 ^ 64) ∨ (-(2 ^ 64) < j ∧ j < 2 ^ 64)) : binD .mul (.int i) (.int j) = some (.fz (.int (i * j))) := by
  show (if _ then _ else _) = _
  rw [if_pos h]
theorem bin_modI {i j : Int} (h : 0 < j) : binD .mod (.int i) (.int j) = some (.fz (.int (i % j))) := by
  show (if _ then _ else _) = _
  rw [if_pos h]
theorem bin_fdivI {i j : Int} (h : 0 < j ∧ j < 1073741824) : binD .fdiv (.int i) (.int j) = some (.fz (.int (i / j))) := by
  show (if _ then _ else _) = _
  rw [if_pos h]
theorem sub_lst (j : Int) : subD (.lst xs) (.int j) = atD xs j := rfl
theorem sub_tup (j : Int) : subD (.tup xs) (.int j) = atD xs j := rfl
theorem sub_scr (j : Int) : subD (.scr xs) (.int j) = atD xs j := rfl
theorem c_eqI (i j : Int) : cmpD .eq (.int i) (.int j) = some (i == j) := rfl
theorem c_neI (i j : Int) : cmpD .ne (.int i) (.int j) = some (!(i == j)) := rfl
theorem c_ltI (i j : Int) : cmpD .lt (.int i) (.int j) = some (decide (i < j)) := rfl
theorem c_leI (i j : Int) : cmpD .le (.int i) (.int j) = some (decide (i ≤ j)) := rfl
theorem c_gtI (i j : Int) : cmpD .gt (.int i) (.int j) = some (decide (j < i)) := rfl
theorem c_geI (i j : Int) : cmpD .ge (.int i) (.int j) = some (decide (j ≤ i)) := rfl
theorem c_isN (d : D) : cmpD .isN d .non = some d.isNon := rfl
theorem c_isnN (d : D) : cmpD .isnN d .non = some (!d.isNon) := rfl
theorem b_addI (i j : Int) : binD .add (.int i) (.int j) = some (.fz (.int (i + j))) := rfl
theorem b_subI (i j : Int) : binD .sub (.int i) (.int j) = some (.fz (.int (i - j))) := rfl
theorem len_lst : bltD .len [.lst xs] = some (.fz (.int xs.length)) := rfl
theorem len_tup : bltD .len [.tup xs] = some (.fz (.int xs.length)) := rfl
theorem len_scr : bltD .len [.scr xs] = some (.fz (.int xs.length)) := rfl
theorem tuple_lst : bltD .tuple [.lst xs] = some (.fz (.tup xs)) := rfl
theorem tuple_tup : bltD .tuple [.tup xs] = some (.fz (.tup xs)) := rfl
theorem list_lst : bltD .list [.lst xs] = some (.own (.lst xs)) := rfl
theorem list_tup : bltD .list [.tup xs] = some (.own (.lst xs)) := rfl
theorem int_int (i : Int) : bltD .int [.int i] = some (.fz (.int i)) := rfl
theorem int_bl (b : Bool) : bltD .int [.bl b] = some (.fz (.int (if b then 1 else 0))) := rfl
theorem max_I (i j : Int) : bltD .max2 [.int i, .int j] = some (.fz (.int (if j > i then j else i))) := rfl
theorem min_I (i j : Int) : bltD .min2 [.int i, .int j] = some (.fz (.int (if j < i then j else i))) := rfl
theorem slice_tup (l h : Option Int) : sliceD l h (.tup xs) = some (.fz (.tup (cutD xs l h))) := rfl
theorem slice_lst (l h : Option Int) : sliceD l h (.lst xs) = some (.own (.lst (cutD xs l h))) := rfl
theorem at1_0  (x0 : D) : atD [x0] 0 = some x0 := rfl
theorem at2_0  (x0 x1 : D) : atD [x0, x1] 0 = some x0 := rfl
theorem at2_1  (x0 x1 : D) : atD [x0, x1] 1 = some x1 := rfl
theorem at3_0  (x0 x1 x2 : D) : atD [x0, x1, x2] 0 = some x0 := rfl
theorem at3_1  (x0 x1 x2 : D) : atD [x0, x1, x2] 1 = some x1 := rfl
theorem at3_2  (x0 x1 x2 : D) : atD [x0, x1, x2] 2 = some x2 := rfl
theorem at4_0  (x0 x1 x2 x3 : D) : atD [x0, x1, x2, x3] 0 = some x0 := rfl
theorem at4_1  (x0 x1 x2 x3 : D) : atD [x0, x1, x2, x3] 1 = some x1 := rfl
theorem at4_2  (x0 x1 x2 x3 : D) : atD [x0, x1, x2, x3] 2 = some x2 := rfl
theorem at4_3  (x0 x1 x2 x3 : D) : atD [x0, x1, x2, x3] 3 = some x3 := rfl
end
end Eng
end

section
/-! The engine, part S2: more slots (printed by gen_engs2.py). -/
namespace Eng
open PySem L2
section
variable {S : Store} {r : Frame} {d : D} {xs : List D} {o : Option Val} {ks : List Key} {kt : List (List Key)}
theorem pd0 : peek 0 (some (.own (.dK ks xs)) :: r) S = some (.dic ks xs) := rfl
theorem pt0 : peek 0 (some (.own (.dT kt xs)) :: r) S = some (.dit kt xs) := rfl
theorem od0 : ownT 0 (some (.own (.dK ks xs)) :: r) = true := rfl
theorem ot0 : ownT 0 (some (.own (.dT kt xs)) :: r) = true := rfl
theorem vd0 : varX 0 (some (.own (.dK ks xs)) :: r) S = .ok (.fz (.dic ks xs)) (some (.fz (.dic ks xs)) :: r) S := rfl
theorem vt0 : varX 0 (some (.own (.dT kt xs)) :: r) S = .ok (.fz (.dit kt xs)) (some (.fz (.dit kt xs)) :: r) S := rfl
theorem pd1 (o0 : Option Val) : peek 1 (o0 :: some (.own (.dK ks xs)) :: r) S = some (.dic ks xs) := rfl
theorem pt1 (o0 : Option Val) : peek 1 (o0 :: some (.own (.dT kt xs)) :: r) S = some (.dit kt xs) := rfl
theorem od1 (o0 : Option Val) : ownT 1 (o0 :: some (.own (.dK ks xs)) :: r) = true := rfl
theorem ot1 (o0 : Option Val) : ownT 1 (o0 :: some (.own (.dT kt xs)) :: r) = true := rfl
theorem vd1 (o0 : Option Val) : varX 1 (o0 :: some (.own (.dK ks xs)) :: r) S = .ok (.fz (.dic ks xs)) (o0 :: some (.fz (.dic ks xs)) :: r) S := rfl
theorem vt1 (o0 : Option Val) : varX 1 (o0 :: some (.own (.dT kt xs)) :: r) S = .ok (.fz (.dit kt xs)) (o0 :: some (.fz (.dit kt xs)) :: r) S := rfl
theorem pd2 (o0 o1 : Option Val) : peek 2 (o0 :: o1 :: some (.own (.dK ks xs)) :: r) S = some (.dic ks xs) := rfl
theorem pt2 (o0 o1 : Option Val) : peek 2 (o0 :: o1 :: some (.own (.dT kt xs)) :: r) S = some (.dit kt xs) := rfl
theorem od2 (o0 o1 : Option Val) : ownT 2 (o0 :: o1 :: some (.own (.dK ks xs)) :: r) = true := rfl
theorem ot2 (o0 o1 : Option Val) : ownT 2 (o0 :: o1 :: some (.own (.dT kt xs)) :: r) = true := rfl
theorem vd2 (o0 o1 : Option Val) : varX 2 (o0 :: o1 :: some (.own (.dK ks xs)) :: r) S = .ok (.fz (.dic ks xs)) (o0 :: o1 :: some (.fz (.dic ks xs)) :: r) S := rfl
theorem vt2 (o0 o1 : Option Val) : varX 2 (o0 :: o1 :: some (.own (.dT kt xs)) :: r) S = .ok (.fz (.dit kt xs)) (o0 :: o1 :: some (.fz (.dit kt xs)) :: r) S := rfl
theorem pd3 (o0 o1 o2 : Option Val) : peek 3 (o0 :: o1 :: o2 :: some (.own (.dK ks xs)) :: r) S = some (.dic ks xs) := rfl
theorem pt3 (o0 o1 o2 : Option Val) : peek 3 (o0 :: o1 :: o2 :: some (.own (.dT kt xs)) :: r) S = some (.dit kt xs) := rfl
theorem od3 (o0 o1 o2 : Option Val) : ownT 3 (o0 :: o1 :: o2 :: some (.own (.dK ks xs)) :: r) = true := rfl
theorem ot3 (o0 o1 o2 : Option Val) : ownT 3 (o0 :: o1 :: o2 :: some (.own (.dT kt xs)) :: r) = true := rfl
theorem vd3 (o0 o1 o2 : Option Val) : varX 3 (o0 :: o1 :: o2 :: some (.own (.dK ks xs)) :: r) S = .ok (.fz (.dic ks xs)) (o0 :: o1 :: o2 :: some (.fz (.dic ks xs)) :: r) S := rfl
theorem vt3 (o0 o1 o2 : Option Val) : varX 3 (o0 :: o1 :: o2 :: some (.own (.dT kt xs)) :: r) S = .ok (.fz (.dit kt xs)) (o0 :: o1 :: o2 :: some (.fz (.dit kt xs)) :: r) S := rfl
theorem pd4 (o0 o1 o2 o3 : Option Val) : peek 4 (o0 :: o1 :: o2 :: o3 :: some (.own (.dK ks xs)) :: r) S = some (.dic ks xs) := rfl
theorem pt4 (o0 o1 o2 o3 : Option Val) : peek 4 (o0 :: o1 :: o2 :: o3 :: some (.own (.dT kt xs)) :: r) S = some (.dit kt xs) := rfl
theorem od4 (o0 o1 o2 o3 : Option Val) : ownT 4 (o0 :: o1 :: o2 :: o3 :: some (.own (.dK ks xs)) :: r) = true := rfl
theorem ot4 (o0 o1 o2 o3 : Option Val) : ownT 4 (o0 :: o1 :: o2 :: o3 :: some (.own (.dT kt xs)) :: r) = true := rfl
theorem vd4 (o0 o1 o2 o3 : Option Val) : varX 4 (o0 :: o1 :: o2 :: o3 :: some (.own (.dK ks xs)) :: r) S = .ok (.fz (.dic ks xs)) (o0 :: o1 :: o2 :: o3 :: some (.fz (.dic ks xs)) :: r) S := rfl
theorem vt4 (o0 o1 o2 o3 : Option Val) : varX 4 (o0 :: o1 :: o2 :: o3 :: some (.own (.dT kt xs)) :: r) S = .ok (.fz (.dit kt xs)) (o0 :: o1 :: o2 :: o3 :: some (.fz (.dit kt xs)) :: r) S := rfl
theorem pd5 (o0 o1 o2 o3 o4 : Option Val) : peek 5 (o0 :: o1 :: o2 :: o3 :: o4 :: some (.own (.dK ks xs)) :: r) S = some (.dic ks xs) := rfl
theorem pt5 (o0 o1 o2 o3 o4 : Option Val) : peek 5 (o0 :: o1 :: o2 :: o3 :: o4 :: some (.own (.dT kt xs)) :: r) S = some (.dit kt xs) := rfl
theorem od5 (o0 o1 o2 o3 o4 : Option Val) : ownT 5 (o0 :: o1 :: o2 :: o3 :: o4 :: some (.own (.dK ks xs)) :: r) = true := rfl
theorem ot5 (o0 o1 o2 o3 o4 : Option Val) : ownT 5 (o0 :: o1 :: o2 :: o3 :: o4 :: some (.own (.dT kt xs)) :: r) = true := rfl
theorem vd5 (o0 o1 o2 o3 o4 : Option Val) : varX 5 (o0 :: o1 :: o2 :: o3 :: o4 :: some (.own (.dK ks xs)) :: r) S = .ok (.fz (.dic ks xs)) (o0 :: o1 :: o2 :: o3 :: o4 :: some (.fz (.dic ks xs)) :: r) S := rfl
theorem vt5 (o0 o1 o2 o3 o4 : Option Val) : varX 5 (o0 :: o1 :: o2 :: o3 :: o4 :: some (.own (.dT kt xs)) :: r) S = .ok (.fz (.dit kt xs)) (o0 :: o1 :: o2 :: o3 :: o4 :: some (.fz (.dit kt xs)) :: r) S := rfl
theorem pd6 (o0 o1 o2 o3 o4 o5 : Option Val) : peek 6 (o0 :: o1 :: o2 :: o3 :: o4 :: o5 :: some (.own (.dK ks xs)) :: r) S = some (.dic ks xs) := rfl
theorem pt6 (o0 o1 o2 o3 o4 o5 : Option Val) : peek 6 (o0 :: o1 :: o2 :: o3 :: o4 :: o5 :: some (.own (.dT kt xs)) :: r) S = some (.dit kt xs) := rfl
theorem od6 (o0 o1 o2 o3 o4 o5 : Option Val) : ownT 6 (o0 :: o1 :: o2 :: o3 :: o4 :: o5 :: some (.own (.dK ks xs)) :: r) = true := rfl
theorem ot6 (o0 o1 o2 o3 o4 o5 : Option Val) : ownT 6 (o0 :: o1 :: o2 :: o3 :: o4 :: o5 :: some (.own (.dT kt xs)) :: r) = true := rfl
theorem vd6 (o0 o1 o2 o3 o4 o5 : Option Val) : varX 6 (o0 :: o1 :: o2 :: o3 :: o4 :: o5 :: some (.own (.dK ks xs)) :: r) S = .ok (.fz (.dic ks xs)) (o0 :: o1 :: o2 :: o3 :: o4 :: o5 :: some (.fz (.dic ks xs)) :: r) S := rfl
theorem vt6 (o0 o1 o2 o3 o4 o5 : Option Val) : varX 6 (o0 :: o1 :: o2 :: o3 :: o4 :: o5 :: some (.own (.dT kt xs)) :: r) S = .ok (.fz (.dit kt xs)) (o0 :: o1 :: o2 :: o3 :: o4 :: o5 :: some (.fz (.dit kt xs)) :: r) S := rfl
theorem pd7 (o0 o1 o2 o3 o4 o5 o6 : Option Val) : peek 7 (o0 :: o1 :: o2 :: o3 :: o4 :: o5 :: o6 :: some (.own (.dK ks xs)) :: r) S = some (.dic ks xs) := rfl
theorem pt7 (o0 o1 o2 o3 o4 o5 o6 : Option Val) : peek 7 (o0 :: o1 :: o2 :: o3 :: o4 :: o5 :: o6 :: some (.own (.dT kt xs)) :: r) S = some (.dit kt xs) := rfl
theorem od7 (o0 o1 o2 o3 o4 o5 o6 : Option Val) : ownT 7 (o0 :: o1 :: o2 :: o3 :: o4 :: o5 :: o6 :: some (.own (.dK ks xs)) :: r) = true := rfl
theorem ot7 (o0 o1 o2 o3 o4 o5 o6 : Option Val) : ownT 7 (o0 :: o1 :: o2 :: o3 :: o4 :: o5 :: o6 :: some (.own (.dT kt xs)) :: r) = true := rfl
theorem vd7 (o0 o1 o2 o3 o4 o5 o6 : Option Val) : varX 7 (o0 :: o1 :: o2 :: o3 :: o4 :: o5 :: o6 :: some (.own (.dK ks xs)) :: r) S = .ok (.fz (.dic ks xs)) (o0 :: o1 :: o2 :: o3 :: o4 :: o5 :: o6 :: some (.fz (.dic ks xs)) :: r) S := rfl
theorem vt7 (o0 o1 o2 o3 o4 o5 o6 : Option Val) : varX 7 (o0 :: o1 :: o2 :: o3 :: o4 :: o5 :: o6 :: some (.own (.dT kt xs)) :: r) S = .ok (.fz (.dit kt xs)) (o0 :: o1 :: o2 :: o3 :: o4 :: o5 :: o6 :: some (.fz (.dit kt xs)) :: r) S := rfl
theorem pd8 (o0 o1 o2 o3 o4 o5 o6 o7 : Option Val) : peek 8 (o0 :: o1 :: o2 :: o3 :: o4 :: o5 :: o6 :: o7 :: some (.own (.dK ks xs)) :: r) S = some (.dic ks xs) := rfl
theorem pt8 (o0 o1 o2 o3 o4 o5 o6 o7 : Option Val) : peek 8 (o0 :: o1 :: o2 :: o3 :: o4 :: o5 :: o6 :: o7 :: some (.own (.dT kt xs)) :: r) S = some (.dit kt xs) := rfl
theorem od8 (o0 o1 o2 o3 o4 o5 o6 o7 : Option Val) : ownT 8 (o0 :: o1 :: o2 :: o3 :: o4 :: o5 :: o6 :: o7 :: some (.own (.dK ks xs)) :: r) = true := rfl
theorem ot8 (o0 o1 o2 o3 o4 o5 o6 o7 : Option Val) : ownT 8 (o0 :: o1 :: o2 :: o3 :: o4 :: o5 :: o6 :: o7 :: some (.own (.dT kt xs)) :: r) = true := rfl
theorem vd8 (o0 o1 o2 o3 o4 o5 o6 o7 : Option Val) : varX 8 (o0 :: o1 :: o2 :: o3 :: o4 :: o5 :: o6 :: o7 :: some (.own (.dK ks xs)) :: r) S = .ok (.fz (.dic ks xs)) (o0 :: o1 :: o2 :: o3 :: o4 :: o5 :: o6 :: o7 :: some (.fz (.dic ks xs)) :: r) S := rfl
theorem vt8 (o0 o1 o2 o3 o4 o5 o6 o7 : Option Val) : varX 8 (o0 :: o1 :: o2 :: o3 :: o4 :: o5 :: o6 :: o7 :: some (.own (.dT kt xs)) :: r) S = .ok (.fz (.dit kt xs)) (o0 :: o1 :: o2 :: o3 :: o4 :: o5 :: o6 :: o7 :: some (.fz (.dit kt xs)) :: r) S := rfl
theorem vx9 (o0 o1 o2 o3 o4 o5 o6 o7 o8 : Option Val) : varX 9 (o0 :: o1 :: o2 :: o3 :: o4 :: o5 :: o6 :: o7 :: o8 :: some (.fz d) :: r) S = .ok (.fz d) (o0 :: o1 :: o2 :: o3 :: o4 :: o5 :: o6 :: o7 :: o8 :: some (.fz d) :: r) S := rfl
theorem vo9 (o0 o1 o2 o3 o4 o5 o6 o7 o8 : Option Val) : varX 9 (o0 :: o1 :: o2 :: o3 :: o4 :: o5 :: o6 :: o7 :: o8 :: some (.own (.lst xs)) :: r) S = .ok (.fz (.lst xs)) (o0 :: o1 :: o2 :: o3 :: o4 :: o5 :: o6 :: o7 :: o8 :: some (.fz (.lst xs)) :: r) S := rfl
theorem pk9 (o0 o1 o2 o3 o4 o5 o6 o7 o8 : Option Val) : peek 9 (o0 :: o1 :: o2 :: o3 :: o4 :: o5 :: o6 :: o7 :: o8 :: some (.fz d) :: r) S = some (look S d) := rfl
theorem po9 (o0 o1 o2 o3 o4 o5 o6 o7 o8 : Option Val) : peek 9 (o0 :: o1 :: o2 :: o3 :: o4 :: o5 :: o6 :: o7 :: o8 :: some (.own (.lst xs)) :: r) S = some (.lst xs) := rfl
theorem ol9 (o0 o1 o2 o3 o4 o5 o6 o7 o8 : Option Val) : ownL 9 (o0 :: o1 :: o2 :: o3 :: o4 :: o5 :: o6 :: o7 :: o8 :: some (.own (.lst xs)) :: r) = true := rfl
theorem rf9 (o0 o1 o2 o3 o4 o5 o6 o7 o8 : Option Val) (f : Frame → Store → RX Val) : retX (.var 9) f (o0 :: o1 :: o2 :: o3 :: o4 :: o5 :: o6 :: o7 :: o8 :: some (.fz d) :: r) S = .ok (.fz d) (o0 :: o1 :: o2 :: o3 :: o4 :: o5 :: o6 :: o7 :: o8 :: some (.fz d) :: r) S := rfl
theorem ro9 (o0 o1 o2 o3 o4 o5 o6 o7 o8 : Option Val) (f : Frame → Store → RX Val) (c : Cell) : retX (.var 9) f (o0 :: o1 :: o2 :: o3 :: o4 :: o5 :: o6 :: o7 :: o8 :: some (.own c) :: r) S = .ok (.own c) (o0 :: o1 :: o2 :: o3 :: o4 :: o5 :: o6 :: o7 :: o8 :: none :: r) S := rfl
theorem st9 (o0 o1 o2 o3 o4 o5 o6 o7 o8 : Option Val) (v : Option Val) : List.set (o0 :: o1 :: o2 :: o3 :: o4 :: o5 :: o6 :: o7 :: o8 :: o :: r) 9 v = o0 :: o1 :: o2 :: o3 :: o4 :: o5 :: o6 :: o7 :: o8 :: v :: r := rfl
theorem pd9 (o0 o1 o2 o3 o4 o5 o6 o7 o8 : Option Val) : peek 9 (o0 :: o1 :: o2 :: o3 :: o4 :: o5 :: o6 :: o7 :: o8 :: some (.own (.dK ks xs)) :: r) S = some (.dic ks xs) := rfl
theorem pt9 (o0 o1 o2 o3 o4 o5 o6 o7 o8 : Option Val) : peek 9 (o0 :: o1 :: o2 :: o3 :: o4 :: o5 :: o6 :: o7 :: o8 :: some (.own (.dT kt xs)) :: r) S = some (.dit kt xs) := rfl
theorem od9 (o0 o1 o2 o3 o4 o5 o6 o7 o8 : Option Val) : ownT 9 (o0 :: o1 :: o2 :: o3 :: o4 :: o5 :: o6 :: o7 :: o8 :: some (.own (.dK ks xs)) :: r) = true := rfl
theorem ot9 (o0 o1 o2 o3 o4 o5 o6 o7 o8 : Option Val) : ownT 9 (o0 :: o1 :: o2 :: o3 :: o4 :: o5 :: o6 :: o7 :: o8 :: some (.own (.dT kt xs)) :: r) = true := rfl
theorem vd9 (o0 o1 o2 o3 o4 o5 o6 o7 o8 : Option Val) : varX 9 (o0 :: o1 :: o2 :: o3 :: o4 :: o5 :: o6 :: o7 :: o8 :: some (.own (.dK ks xs)) :: r) S = .ok (.fz (.dic ks xs)) (o0 :: o1 :: o2 :: o3 :: o4 :: o5 :: o6 :: o7 :: o8 :: some (.fz (.dic ks xs)) :: r) S := rfl
theorem vt9 (o0 o1 o2 o3 o4 o5 o6 o7 o8 : Option Val) : varX 9 (o0 :: o1 :: o2 :: o3 :: o4 :: o5 :: o6 :: o7 :: o8 :: some (.own (.dT kt xs)) :: r) S = .ok (.fz (.dit kt xs)) (o0 :: o1 :: o2 :: o3 :: o4 :: o5 :: o6 :: o7 :: o8 :: some (.fz (.dit kt xs)) :: r) S := rfl
theorem vx10 (o0 o1 o2 o3 o4 o5 o6 o7 o8 o9 : Option Val) : varX 10 (o0 :: o1 :: o2 :: o3 :: o4 :: o5 :: o6 :: o7 :: o8 :: o9 :: some (.fz d) :: r) S = .ok (.fz d) (o0 :: o1 :: o2 :: o3 :: o4 :: o5 :: o6 :: o7 :: o8 :: o9 :: some (.fz d) :: r) S := rfl
theorem vo10 (o0 o1 o2 o3 o4 o5 o6 o7 o8 o9 : Option Val) : varX 10 (o0 :: o1 :: o2 :: o3 :: o4 :: o5 :: o6 :: o7 :: o8 :: o9 :: some (.own (.lst xs)) :: r) S = .ok (.fz (.lst xs)) (o0 :: o1 :: o2 :: o3 :: o4 :: o5 :: o6 :: o7 :: o8 :: o9 :: some (.fz (.lst xs)) :: r) S := rfl
theorem pk10 (o0 o1 o2 o3 o4 o5 o6 o7 o8 o9 : Option Val) : peek 10 (o0 :: o1 :: o2 :: o3 :: o4 :: o5 :: o6 :: o7 :: o8 :: o9 :: some (.fz d) :: r) S = some (look S d) := rfl
theorem po10 (o0 o1 o2 o3 o4 o5 o6 o7 o8 o9 : Option Val) : peek 10 (o0 :: o1 :: o2 :: o3 :: o4 :: o5 :: o6 :: o7 :: o8 :: o9 :: some (.own (.lst xs)) :: r) S = some (.lst xs) := rfl
theorem ol10 (o0 o1 o2 o3 o4 o5 o6 o7 o8 o9 : Option Val) : ownL 10 (o0 :: o1 :: o2 :: o3 :: o4 :: o5 :: o6 :: o7 :: o8 :: o9 :: some (.own (.lst xs)) :: r) = true := rfl
theorem rf10 (o0 o1 o2 o3 o4 o5 o6 o7 o8 o9 : Option Val) (f : Frame → Store → RX Val) : retX (.var 10) f (o0 :: o1 :: o2 :: o3 :: o4 :: o5 :: o6 :: o7 :: o8 :: o9 :: some (.fz d) :: r) S = .ok (.fz d) (o0 :: o1 :: o2 :: o3 :: o4 :: o5 :: o6 :: o7 :: o8 :: o9 :: some (.fz d) :: r) S := rfl
theorem ro10 (o0 o1 o2 o3 o4 o5 o6 o7 o8 o9 : Option Val) (f : Frame → Store → RX Val) (c : Cell) : retX (.var 10) f (o0 :: o1 :: o2 :: o3 :: o4 :: o5 :: o6 :: o7 :: o8 :: o9 :: some (.own c) :: r) S = .ok (.own c) (o0 :: o1 :: o2 :: o3 :: o4 :: o5 :: o6 :: o7 :: o8 :: o9 :: none :: r) S := rfl
theorem st10 (o0 o1 o2 o3 o4 o5 o6 o7 o8 o9 : Option Val) (v : Option Val) : List.set (o0 :: o1 :: o2 :: o3 :: o4 :: o5 :: o6 :: o7 :: o8 :: o9 :: o :: r) 10 v = o0 :: o1 :: o2 :: o3 :: o4 :: o5 :: o6 :: o7 :: o8 :: o9 :: v :: r := rfl
theorem pd10 (o0 o1 o2 o3 o4 o5 o6 o7 o8 o9 : Option Val) : peek 10 (o0 :: o1 :: o2 :: o3 :: o4 :: o5 :: o6 :: o7 :: o8 :: o9 :: some (.own (.dK ks xs)) :: r) S = some (.dic ks xs) := rfl
theorem pt10 (o0 o1 o2 o3 o4 o5 o6 o7 o8 o9 : Option Val) : peek 10 (o0 :: o1 :: o2 :: o3 :: o4 :: o5 :: o6 :: o7 :: o8 :: o9 :: some (.own (.dT kt xs)) :: r) S = some (.dit kt xs) := rfl
theorem od10 (o0 o1 o2 o3 o4 o5 o6 o7 o8 o9 : Option Val) : ownT 10 (o0 :: o1 :: o2 :: o3 :: o4 :: o5 :: o6 :: o7 :: o8 :: o9 :: some (.own (.dK ks xs)) :: r) = true := rfl
theorem ot10 (o0 o1 o2 o3 o4 o5 o6 o7 o8 o9 : Option Val) : ownT 10 (o0 :: o1 :: o2 :: o3 :: o4 :: o5 :: o6 :: o7 :: o8 :: o9 :: some (.own (.dT kt xs)) :: r) = true := rfl
theorem vd10 (o0 o1 o2 o3 o4 o5 o6 o7 o8 o9 : Option Val) : varX 10 (o0 :: o1 :: o2 :: o3 :: o4 :: o5 :: o6 :: o7 :: o8 :: o9 :: some (.own (.dK ks xs)) :: r) S = .ok (.fz (.dic ks xs)) (o0 :: o1 :: o2 :: o3 :: o4 :: o5 :: o6 :: o7 :: o8 :: o9 :: some (.fz (.dic ks xs)) :: r) S := rfl
theorem vt10 (o0 o1 o2 o3 o4 o5 o6 o7 o8 o9 : Option Val) : varX 10 (o0 :: o1 :: o2 :: o3 :: o4 :: o5 :: o6 :: o7 :: o8 :: o9 :: some (.own (.dT kt xs)) :: r) S = .ok (.fz (.dit kt xs)) (o0 :: o1 :: o2 :: o3 :: o4 :: o5 :: o6 :: o7 :: o8 :: o9 :: some (.fz (.dit kt xs)) :: r) S := rfl
theorem vx11 (o0 o1 o2 o3 o4 o5 o6 o7 o8 o9 o10 : Option Val) : varX 11 (o0 :: o1 :: o2 :: o3 :: o4 :: o5 :: o6 :: o7 :: o8 :: o9 :: o10 :: some (.fz d) :: r) S = .ok (.fz d) (o0 :: o1 :: o2 :: o3 :: o4 :: o5 :: o6 :: o7 :: o8 :: o9 :: o10 :: some (.fz d) :: r) S := rfl
theorem vo11 (o0 o1 o2 o3 o4 o5 o6 o7 o8 o9 o10 : Option Val) : varX 11 (o0 :: o1 :: o2 :: o3 :: o4 :: o5 :: o6 :: o7 :: o8 :: o9 :: o10 :: some (.own (.lst xs)) :: r) S = .ok (.fz (.lst xs)) (o0 :: o1 :: o2 :: o3 :: o4 :: o5 :: o6 :: o7 :: o8 :: o9 :: o10 :: some (.fz (.lst xs)) :: r) S := rfl
theorem pk11 (o0 o1 o2 o3 o4 o5 o6 o7 o8 o9 o10 : Option Val) : peek 11 (o0 :: o1 :: o2 :: o3 :: o4 :: o5 :: o6 :: o7 :: o8 :: o9 :: o10 :: some (.fz d) :: r) S = some (look S d) := rfl
theorem po11 (o0 o1 o2 o3 o4 o5 o6 o7 o8 o9 o10 : Option Val) : peek 11 (o0 :: o1 :: o2 :: o3 :: o4 :: o5 :: o6 :: o7 :: o8 :: o9 :: o10 :: some (.own (.lst xs)) :: r) S = some (.lst xs) := rfl
theorem ol11 (o0 o1 o2 o3 o4 o5 o6 o7 o8 o9 o10 : Option Val) : ownL 11 (o0 :: o1 :: o2 :: o3 :: o4 :: o5 :: o6 :: o7 :: o8 :: o9 :: o10 :: some (.own (.lst xs)) :: r) = true := rfl
theorem rf11 (o0 o1 o2 o3 o4 o5 o6 o7 o8 o9 o10 : Option Val) (f : Frame → Store → RX Val) : retX (.var 11) f (o0 :: o1 :: o2 :: o3 :: o4 :: o5 :: o6 :: o7 :: o8 :: o9 :: o10 :: some (.fz d) :: r) S = .ok (.fz d) (o0 :: o1 :: o2 :: o3 :: o4 :: o5 :: o6 :: o7 :: o8 :: o9 :: o10 :: some (.fz d) :: r) S := rfl
theorem ro11 (o0 o1 o2 o3 o4 o5 o6 o7 o8 o9 o10 : Option Val) (f : Frame → Store → RX Val) (c : Cell) : retX (.var 11) f (o0 :: o1 :: o2 :: o3 :: o4 :: o5 :: o6 :: o7 :: o8 :: o9 :: o10 :: some (.own c) :: r) S = .ok (.own c) (o0 :: o1 :: o2 :: o3 :: o4 :: o5 :: o6 :: o7 :: o8 :: o9 :: o10 :: none :: r) S := rfl
theorem st11 (o0 o1 o2 o3 o4 o5 o6 o7 o8 o9 o10 : Option Val) (v : Option Val) : List.set (o0 :: o1 :: o2 :: o3 :: o4 :: o5 :: o6 :: o7 :: o8 :: o9 :: o10 :: o :: r) 11 v = o0 :: o1 :: o2 :: o3 :: o4 :: o5 :: o6 :: o7 :: o8 :: o9 :: o10 :: v :: r := rfl
theorem pd11 (o0 o1 o2 o3 o4 o5 o6 o7 o8 o9 o10 : Option Val) : peek 11 (o0 :: o1 :: o2 :: o3 :: o4 :: o5 :: o6 :: o7 :: o8 :: o9 :: o10 :: some (.own (.dK ks xs)) :: r) S = some (.dic ks xs) := rfl
theorem pt11 (o0 o1 o2 o3 o4 o5 o6 o7 o8 o9 o10 : Option Val) : peek 11 (o0 :: o1 :: o2 :: o3 :: o4 :: o5 :: o6 :: o7 :: o8 :: o9 :: o10 :: some (.own (.dT kt xs)) :: r) S = some (.dit kt xs) := rfl
theorem od11 (o0 o1 o2 o3 o4 o5 o6 o7 o8 o9 o10 : Option Val) : ownT 11 (o0 :: o1 :: o2 :: o3 :: o4 :: o5 :: o6 :: o7 :: o8 :: o9 :: o10 :: some (.own (.dK ks xs)) :: r) = true := rfl
theorem ot11 (o0 o1 o2 o3 o4 o5 o6 o7 o8 o9 o10 : Option Val) : ownT 11 (o0 :: o1 :: o2 :: o3 :: o4 :: o5 :: o6 :: o7 :: o8 :: o9 :: o10 :: some (.own (.dT kt xs)) :: r) = true := rfl
theorem vd11 (o0 o1 o2 o3 o4 o5 o6 o7 o8 o9 o10 : Option Val) : varX 11 (o0 :: o1 :: o2 :: o3 :: o4 :: o5 :: o6 :: o7 :: o8 :: o9 :: o10 :: some (.own (.dK ks xs)) :: r) S = .ok (.fz (.dic ks xs)) (o0 :: o1 :: o2 :: o3 :: o4 :: o5 :: o6 :: o7 :: o8 :: o9 :: o10 :: some (.fz (.dic ks xs)) :: r) S := rfl
theorem vt11 (o0 o1 o2 o3 o4 o5 o6 o7 o8 o9 o10 : Option Val) : varX 11 (o0 :: o1 :: o2 :: o3 :: o4 :: o5 :: o6 :: o7 :: o8 :: o9 :: o10 :: some (.own (.dT kt xs)) :: r) S = .ok (.fz (.dit kt xs)) (o0 :: o1 :: o2 :: o3 :: o4 :: o5 :: o6 :: o7 :: o8 :: o9 :: o10 :: some (.fz (.dit kt xs)) :: r) S := rfl
theorem vx12 (o0 o1 o2 o3 o4 o5 o6 o7 o8 o9 o10 o11 : Option Val) : varX 12 (o0 :: o1 :: o2 :: o3 :: o4 :: o5 :: o6 :: o7 :: o8 :: o9 :: o10 :: o11 :: some (.fz d) :: r) S = .ok (.fz d) (o0 :: o1 :: o2 :: o3 :: o4 :: o5 :: o6 :: o7 :: o8 :: o9 :: o10 :: o11 :: some (.fz d) :: r) S := rfl
theorem vo12 (o0 o1 o2 o3 o4 o5 o6 o7 o8 o9 o10 o11 : Option Val) : varX 12 (o0 :: o1 :: o2 :: o3 :: o4 :: o5 :: o6 :: o7 :: o8 :: o9 :: o10 :: o11 :: some (.own (.lst xs)) :: r) S = .ok (.fz (.lst xs)) (o0 :: o1 :: o2 :: o3 :: o4 :: o5 :: o6 :: o7 :: o8 :: o9 :: o10 :: o11 :: some (.fz (.lst xs)) :: r) S := rfl
theorem pk12 (o0 o1 o2 o3 o4 o5 o6 o7 o8 o9 o10 o11 : Option Val) : peek 12 (o0 :: o1 :: o2 :: o3 :: o4 :: o5 :: o6 :: o7 :: o8 :: o9 :: o10 :: o11 :: some (.fz d) :: r) S = some (look S d) := rfl
theorem po12 (o0 o1 o2 o3 o4 o5 o6 o7 o8 o9 o10 o11 : Option Val) : peek 12 (o0 :: o1 :: o2 :: o3 :: o4 :: o5 :: o6 :: o7 :: o8 :: o9 :: o10 :: o11 :: some (.own (.lst xs)) :: r) S = some (.lst xs) := rfl
theorem ol12 (o0 o1 o2 o3 o4 o5 o6 o7 o8 o9 o10 o11 : Option Val) : ownL 12 (o0 :: o1 :: o2 :: o3 :: o4 :: o5 :: o6 :: o7 :: o8 :: o9 :: o10 :: o11 :: some (.own (.lst xs)) :: r) = true := rfl
theorem rf12 (o0 o1 o2 o3 o4 o5 o6 o7 o8 o9 o10 o11 : Option Val) (f : Frame → Store → RX Val) : retX (.var 12) f (o0 :: o1 :: o2 :: o3 :: o4 :: o5 :: o6 :: o7 :: o8 :: o9 :: o10 :: o11 :: some (.fz d) :: r) S = .ok (.fz d) (o0 :: o1 :: o2 :: o3 :: o4 :: o5 :: o6 :: o7 :: o8 :: o9 :: o10 :: o11 :: some (.fz d) :: r) S := rfl
theorem ro12 (o0 o1 o2 o3 o4 o5 o6 o7 o8 o9 o10 o11 : Option Val) (f : Frame → Store → RX Val) (c : Cell) : retX (.var 12) f (o0 :: o1 :: o2 :: o3 :: o4 :: o5 :: o6 :: o7 :: o8 :: o9 :: o10 :: o11 :: some (.own c) :: r) S = .ok (.own c) (o0 :: o1 :: o2 :: o3 :: o4 :: o5 :: o6 :: o7 :: o8 :: o9 :: o10 :: o11 :: none :: r) S := rfl
theorem st12 (o0 o1 o2 o3 o4 o5 o6 o7 o8 o9 o10 o11 : Option Val) (v : Option Val) : List.set (o0 :: o1 :: o2 :: o3 :: o4 :: o5 :: o6 :: o7 :: o8 :: o9 :: o10 :: o11 :: o :: r) 12 v = o0 :: o1 :: o2 :: o3 :: o4 :: o5 :: o6 :: o7 :: o8 :: o9 :: o10 :: o11 :: v :: r := rfl
theorem pd12 (o0 o1 o2 o3 o4 o5 o6 o7 o8 o9 o10 o11 : Option Val) : peek 12 (o0 :: o1 :: o2 :: o3 :: o4 :: o5 :: o6 :: o7 :: o8 :: o9 :: o10 :: o11 :: some (.own (.dK ks xs)) :: r) S = some (.dic ks xs) := rfl
theorem pt12 (o0 o1 o2 o3 o4 o5 o6 o7 o8 o9 o10 o11 : Option Val) : peek 12 (o0 :: o1 :: o2 :: o3 :: o4 :: o5 :: o6 :: o7 :: o8 :: o9 :: o10 :: o11 :: some (.own (.dT kt xs)) :: r) S = some (.dit kt xs) := rfl
theorem od12 (o0 o1 o2 o3 o4 o5 o6 o7 o8 o9 o10 o11 : Option Val) : ownT 12 (o0 :: o1 :: o2 :: o3 :: o4 :: o5 :: o6 :: o7 :: o8 :: o9 :: o10 :: o11 :: some (.own (.dK ks xs)) :: r) = true := rfl
theorem ot12 (o0 o1 o2 o3 o4 o5 o6 o7 o8 o9 o10 o11 : Option Val) : ownT 12 (o0 :: o1 :: o2 :: o3 :: o4 :: o5 :: o6 :: o7 :: o8 :: o9 :: o10 :: o11 :: some (.own (.dT kt xs)) :: r) = true := rfl
theorem vd12 (o0 o1 o2 o3 o4 o5 o6 o7 o8 o9 o10 o11 : Option Val) : varX 12 (o0 :: o1 :: o2 :: o3 :: o4 :: o5 :: o6 :: o7 :: o8 :: o9 :: o10 :: o11 :: some (.own (.dK ks xs)) :: r) S = .ok (.fz (.dic ks xs)) (o0 :: o1 :: o2 :: o3 :: o4 :: o5 :: o6 :: o7 :: o8 :: o9 :: o10 :: o11 :: some (.fz (.dic ks xs)) :: r) S := rfl
theorem vt12 (o0 o1 o2 o3 o4 o5 o6 o7 o8 o9 o10 o11 : Option Val) : varX 12 (o0 :: o1 :: o2 :: o3 :: o4 :: o5 :: o6 :: o7 :: o8 :: o9 :: o10 :: o11 :: some (.own (.dT kt xs)) :: r) S = .ok (.fz (.dit kt xs)) (o0 :: o1 :: o2 :: o3 :: o4 :: o5 :: o6 :: o7 :: o8 :: o9 :: o10 :: o11 :: some (.fz (.dit kt xs)) :: r) S := rfl
theorem vx13 (o0 o1 o2 o3 o4 o5 o6 o7 o8 o9 o10 o11 o12 : Option Val) : varX 13 (o0 :: o1 :: o2 :: o3 :: o4 :: o5 :: o6 :: o7 :: o8 :: o9 :: o10 :: o11 :: o12 :: some (.fz d) :: r) S = .ok (.fz d) (o0 :: o1 :: o2 :: o3 :: o4 :: o5 :: o6 :: o7 :: o8 :: o9 :: o10 :: o11 :: o12 :: some (.fz d) :: r) S := rfl
theorem vo13 (o0 o1 o2 o3 o4 o5 o6 o7 o8 o9 o10 o11 o12 : Option Val) : varX 13 (o0 :: o1 :: o2 :: o3 :: o4 :: o5 :: o6 :: o7 :: o8 :: o9 :: o10 :: o11 :: o12 :: some (.own (.lst xs)) :: r) S = .ok (.fz (.lst xs)) (o0 :: o1 :: o2 :: o3 :: o4 :: o5 :: o6 :: o7 :: o8 :: o9 :: o10 :: o11 :: o12 :: some (.fz (.lst xs)) :: r) S := rfl
theorem pk13 (o0 o1 o2 o3 o4 o5 o6 o7 o8 o9 o10 o11 o12 : Option Val) : peek 13 (o0 :: o1 :: o2 :: o3 :: o4 :: o5 :: o6 :: o7 :: o8 :: o9 :: o10 :: o11 :: o12 :: some (.fz d) :: r) S = some (look S d) := rfl
theorem po13 (o0 o1 o2 o3 o4 o5 o6 o7 o8 o9 o10 o11 o12 : Option Val) : peek 13 (o0 :: o1 :: o2 :: o3 :: o4 :: o5 :: o6 :: o7 :: o8 :: o9 :: o10 :: o11 :: o12 :: some (.own (.lst xs)) :: r) S = some (.lst xs) := rfl
theorem ol13 (o0 o1 o2 o3 o4 o5 o6 o7 o8 o9 o10 o11 o12 : Option Val) : ownL 13 (o0 :: o1 :: o2 :: o3 :: o4 :: o5 :: o6 :: o7 :: o8 :: o9 :: o10 :: o11 :: o12 :: some (.own (.lst xs)) :: r) = true := rfl
theorem rf13 (o0 o1 o2 o3 o4 o5 o6 o7 o8 o9 o10 o11 o12 : Option Val) (f : Frame → Store → RX Val) : retX (.var 13) f (o0 :: o1 :: o2 :: o3 :: o4 :: o5 :: o6 :: o7 :: o8 :: o9 :: o10 :: o11 :: o12 :: some (.fz d) :: r) S = .ok (.fz d) (o0 :: o1 :: o2 :: o3 :: o4 :: o5 :: o6 :: o7 :: o8 :: o9 :: o10 :: o11 :: o12 :: some (.fz d) :: r) S := rfl
theorem ro13 (o0 o1 o2 o3 o4 o5 o6 o7 o8 o9 o10 o11 o12 : Option Val) (f : Frame → Store → RX Val) (c : Cell) : retX (.var 13) f (o0 :: o1 :: o2 :: o3 :: o4 :: o5 :: o6 :: o7 :: o8 :: o9 :: o10 :: o11 :: o12 :: some (.own c) :: r) S = .ok (.own c) (o0 :: o1 :: o2 :: o3 :: o4 :: o5 :: o6 :: o7 :: o8 :: o9 :: o10 :: o11 :: o12 :: none :: r) S := rfl
theorem st13 (o0 o1 o2 o3 o4 o5 o6 o7 o8 o9 o10 o11 o12 : Option Val) (v : Option Val) : List.set (o0 :: o1 :: o2 :: o3 :: o4 :: o5 :: o6 :: o7 :: o8 :: o9 :: o10 :: o11 :: o12 :: o :: r) 13 v = o0 :: o1 :: o2 :: o3 :: o4 :: o5 :: o6 :: o7 :: o8 :: o9 :: o10 :: o11 :: o12 :: v :: r := rfl
theorem pd13 (o0 o1 o2 o3 o4 o5 o6 o7 o8 o9 o10 o11 o12 : Option Val) : peek 13 (o0 :: o1 :: o2 :: o3 :: o4 :: o5 :: o6 :: o7 :: o8 :: o9 :: o10 :: o11 :: o12 :: some (.own (.dK ks xs)) :: r) S = some (.dic ks xs) := rfl
theorem pt13 (o0 o1 o2 o3 o4 o5 o6 o7 o8 o9 o10 o11 o12 : Option Val) : peek 13 (o0 :: o1 :: o2 :: o3 :: o4 :: o5 :: o6 :: o7 :: o8 :: o9 :: o10 :: o11 :: o12 :: some (.own (.dT kt xs)) :: r) S = some (.dit kt xs) := rfl
theorem od13 (o0 o1 o2 o3 o4 o5 o6 o7 o8 o9 o10 o11 o12 : Option Val) : ownT 13 (o0 :: o1 :: o2 :: o3 :: o4 :: o5 :: o6 :: o7 :: o8 :: o9 :: o10 :: o11 :: o12 :: some (.own (.dK ks xs)) :: r) = true := rfl
theorem ot13 (o0 o1 o2 o3 o4 o5 o6 o7 o8 o9 o10 o11 o12 : Option Val) : ownT 13 (o0 :: o1 :: o2 :: o3 :: o4 :: o5 :: o6 :: o7 :: o8 :: o9 :: o10 :: o11 :: o12 :: some (.own (.dT kt xs)) :: r) = true := rfl
theorem vd13 (o0 o1 o2 o3 o4 o5 o6 o7 o8 o9 o10 o11 o12 : Option Val) : varX 13 (o0 :: o1 :: o2 :: o3 :: o4 :: o5 :: o6 :: o7 :: o8 :: o9 :: o10 :: o11 :: o12 :: some (.own (.dK ks xs)) :: r) S = .ok (.fz (.dic ks xs)) (o0 :: o1 :: o2 :: o3 :: o4 :: o5 :: o6 :: o7 :: o8 :: o9 :: o10 :: o11 :: o12 :: some (.fz (.dic ks xs)) :: r) S := rfl
theorem vt13 (o0 o1 o2 o3 o4 o5 o6 o7 o8 o9 o10 o11 o12 : Option Val) : varX 13 (o0 :: o1 :: o2 :: o3 :: o4 :: o5 :: o6 :: o7 :: o8 :: o9 :: o10 :: o11 :: o12 :: some (.own (.dT kt xs)) :: r) S = .ok (.fz (.dit kt xs)) (o0 :: o1 :: o2 :: o3 :: o4 :: o5 :: o6 :: o7 :: o8 :: o9 :: o10 :: o11 :: o12 :: some (.fz (.dit kt xs)) :: r) S := rfl
theorem vx14 (o0 o1 o2 o3 o4 o5 o6 o7 o8 o9 o10 o11 o12 o13 : Option Val) : varX 14 (o0 :: o1 :: o2 :: o3 :: o4 :: o5 :: o6 :: o7 :: o8 :: o9 :: o10 :: o11 :: o12 :: o13 :: some (.fz d) :: r) S = .ok (.fz d) (o0 :: o1 :: o2 :: o3 :: o4 :: o5 :: o6 :: o7 :: o8 :: o9 :: o10 :: o11 :: o12 :: o13 :: some (.fz d) :: r) S := rfl
theorem vo14 (o0 o1 o2 o3 o4 o5 o6 o7 o8 o9 o10 o11 o12 o13 : Option Val) : varX 14 (o0 :: o1 :: o2 :: o3 :: o4 :: o5 :: o6 :: o7 :: o8 :: o9 :: o10 :: o11 :: o12 :: o13 :: some (.own (.lst xs)) :: r) S = .ok (.fz (.lst xs)) (o0 :: o1 :: o2 :: o3 :: o4 :: o5 :: o6 :: o7 :: o8 :: o9 :: o10 :: o11 :: o12 :: o13 :: some (.fz (.lst xs)) :: r) S := rfl
theorem pk14 (o0 o1 o2 o3 o4 o5 o6 o7 o8 o9 o10 o11 o12 o13 : Option Val) : peek 14 (o0 :: o1 :: o2 :: o3 :: o4 :: o5 :: o6 :: o7 :: o8 :: o9 :: o10 :: o11 :: o12 :: o13 :: some (.fz d) :: r) S = some (look S d) := rfl
theorem po14 (o0 o1 o2 o3 o4 o5 o6 o7 o8 o9 o10 o11 o12 o13 : Option Val) : peek 14 (o0 :: o1 :: o2 :: o3 :: o4 :: o5 :: o6 :: o7 :: o8 :: o9 :: o10 :: o11 :: o12 :: o13 :: some (.own (.lst xs)) :: r) S = some (.lst xs) := rfl
theorem ol14 (o0 o1 o2 o3 o4 o5 o6 o7 o8 o9 o10 o11 o12 o13 : Option Val) : ownL 14 (o0 :: o1 :: o2 :: o3 :: o4 :: o5 :: o6 :: o7 :: o8 :: o9 :: o10 :: o11 :: o12 :: o13 :: some (.own (.lst xs)) :: r) = true := rfl
theorem rf14 (o0 o1 o2 o3 o4 o5 o6 o7 o8 o9 o10 o11 o12 o13 : Option Val) (f : Frame → Store → RX Val) : retX (.var 14) f (o0 :: o1 :: o2 :: o3 :: o4 :: o5 :: o6 :: o7 :: o8 :: o9 :: o10 :: o11 :: o12 :: o13 :: some (.fz d) :: r) S = .ok (.fz d) (o0 :: o1 :: o2 :: o3 :: o4 :: o5 :: o6 :: o7 :: o8 :: o9 :: o10 :: o11 :: o12 :: o13 :: some (.fz d) :: r) S := rfl
theorem ro14 (o0 o1 o2 o3 o4 o5 o6 o7 o8 o9 o10 o11 o12 o13 : Option Val) (f : Frame → Store → RX Val) (c : Cell) : retX (.var 14) f (o0 :: o1 :: o2 :: o3 :: o4 :: o5 :: o6 :: o7 :: o8 :: o9 :: o10 :: o11 :: o12 :: o13 :: some (.own c) :: r) S = .ok (.own c) (o0 :: o1 :: o2 :: o3 :: o4 :: o5 :: o6 :: o7 :: o8 :: o9 :: o10 :: o11 :: o12 :: o13 :: none :: r) S := rfl
theorem st14 (o0 o1 o2 o3 o4 o5 o6 o7 o8 o9 o10 o11 o12 o13 : Option Val) (v : Option Val) : List.set (o0 :: o1 :: o2 :: o3 :: o4 :: o5 :: o6 :: o7 :: o8 :: o9 :: o10 :: o11 :: o12 :: o13 :: o :: r) 14 v = o0 :: o1 :: o2 :: o3 :: o4 :: o5 :: o6 :: o7 :: o8 :: o9 :: o10 :: o11 :: o12 :: o13 :: v :: r := rfl
theorem pd14 (o0 o1 o2 o3 o4 o5 o6 o7 o8 o9 o10 o11 o12 o13 : Option Val) : peek 14 (o0 :: o1 :: o2 :: o3 :: o4 :: o5 :: o6 :: o7 :: o8 :: o9 :: o10 :: o11 :: o12 :: o13 :: some (.own (.dK ks xs)) :: r) S = some (.dic ks xs) := rfl
theorem pt14 (o0 o1 o2 o3 o4 o5 o6 o7 o8 o9 o10 o11 o12 o13 : Option Val) : peek 14 (o0 :: o1 :: o2 :: o3 :: o4 :: o5 :: o6 :: o7 :: o8 :: o9 :: o10 :: o11 :: o12 :: o13 :: some (.own (.dT kt xs)) :: r) S = some (.dit kt xs) := rfl
theorem od14 (o0 o1 o2 o3 o4 o5 o6 o7 o8 o9 o10 o11 o12 o13 : Option Val) : ownT 14 (o0 :: o1 :: o2 :: o3 :: o4 :: o5 :: o6 :: o7 :: o8 :: o9 :: o10 :: o11 :: o12 :: o13 :: some (.own (.dK ks xs)) :: r) = true := rfl
theorem ot14 (o0 o1 o2 o3 o4 o5 o6 o7 o8 o9 o10 o11 o12 o13 : Option Val) : ownT 14 (o0 :: o1 :: o2 :: o3 :: o4 :: o5 :: o6 :: o7 :: o8 :: o9 :: o10 :: o11 :: o12 :: o13 :: some (.own (.dT kt xs)) :: r) = true := rfl
theorem vd14 (o0 o1 o2 o3 o4 o5 o6 o7 o8 o9 o10 o11 o12 o13 : Option Val) : varX 14 (o0 :: o1 :: o2 :: o3 :: o4 :: o5 :: o6 :: o7 :: o8 :: o9 :: o10 :: o11 :: o12 :: o13 :: some (.own (.dK ks xs)) :: r) S = .ok (.fz (.dic ks xs)) (o0 :: o1 :: o2 :: o3 :: o4 :: o5 :: o6 :: o7 :: o8 :: o9 :: o10 :: o11 :: o12 :: o13 :: some (.fz (.dic ks xs)) :: r) S := rfl
theorem vt14 (o0 o1 o2 o3 o4 o5 o6 o7 o8 o9 o10 o11 o12 o13 : Option Val) : varX 14 (o0 :: o1 :: o2 :: o3 :: o4 :: o5 :: o6 :: o7 :: o8 :: o9 :: o10 :: o11 :: o12 :: o13 :: some (.own (.dT kt xs)) :: r) S = .ok (.fz (.dit kt xs)) (o0 :: o1 :: o2 :: o3 :: o4 :: o5 :: o6 :: o7 :: o8 :: o9 :: o10 :: o11 :: o12 :: o13 :: some (.fz (.dit kt xs)) :: r) S := rfl
theorem vx15 (o0 o1 o2 o3 o4 o5 o6 o7 o8 o9 o10 o11 o12 o13 o14 : Option Val) : varX 15 (o0 :: o1 :: o2 :: o3 :: o4 :: o5 :: o6 :: o7 :: o8 :: o9 :: o10 :: o11 :: o12 :: o13 :: o14 :: some (.fz d) :: r) S = .ok (.fz d) (o0 :: o1 :: o2 :: o3 :: o4 :: o5 :: o6 :: o7 :: o8 :: o9 :: o10 :: o11 :: o12 :: o13 :: o14 :: some (.fz d) :: r) S := rfl
theorem vo15 (o0 o1 o2 o3 o4 o5 o6 o7 o8 o9 o10 o11 o12 o13 o14 : Option Val) : varX 15 (o0 :: o1 :: o2 :: o3 :: o4 :: o5 :: o6 :: o7 :: o8 :: o9 :: o10 :: o11 :: o12 :: o13 :: o14 :: some (.own (.lst xs)) :: r) S = .ok (.fz (.lst xs)) (o0 :: o1 :: o2 :: o3 :: o4 :: o5 :: o6 :: o7 :: o8 :: o9 :: o10 :: o11 :: o12 :: o13 :: o14 :: some (.fz (.lst xs)) :: r) S := rfl
theorem pk15 (o0 o1 o2 o3 o4 o5 o6 o7 o8 o9 o10 o11 o12 o13 o14 : Option Val) : peek 15 (o0 :: o1 :: o2 :: o3 :: o4 :: o5 :: o6 :: o7 :: o8 :: o9 :: o10 :: o11 :: o12 :: o13 :: o14 :: some (.fz d) :: r) S = some (look S d) := rfl
theorem po15 (o0 o1 o2 o3 o4 o5 o6 o7 o8 o9 o10 o11 o12 o13 o14 : Option Val) : peek 15 (o0 :: o1 :: o2 :: o3 :: o4 :: o5 :: o6 :: o7 :: o8 :: o9 :: o10 :: o11 :: o12 :: o13 :: o14 :: some (.own (.lst xs)) :: r) S = some (.lst xs) := rfl
theorem ol15 (o0 o1 o2 o3 o4 o5 o6 o7 o8 o9 o10 o11 o12 o13 o14 : Option Val) : ownL 15 (o0 :: o1 :: o2 :: o3 :: o4 :: o5 :: o6 :: o7 :: o8 :: o9 :: o10 :: o11 :: o12 :: o13 :: o14 :: some (.own (.lst xs)) :: r) = true := rfl
theorem rf15 (o0 o1 o2 o3 o4 o5 o6 o7 o8 o9 o10 o11 o12 o13 o14 : Option Val) (f : Frame → Store → RX Val) : retX (.var 15) f (o0 :: o1 :: o2 :: o3 :: o4 :: o5 :: o6 :: o7 :: o8 :: o9 :: o10 :: o11 :: o12 :: o13 :: o14 :: some (.fz d) :: r) S = .ok (.fz d) (o0 :: o1 :: o2 :: o3 :: o4 :: o5 :: o6 :: o7 :: o8 :: o9 :: o10 :: o11 :: o12 :: o13 :: o14 :: some (.fz d) :: r) S := rfl
theorem ro15 (o0 o1 o2 o3 o4 o5 o6 o7 o8 o9 o10 o11 o12 o13 o14 : Option Val) (f : Frame → Store → RX Val) (c : Cell) : retX (.var 15) f (o0 :: o1 :: o2 :: o3 :: o4 :: o5 :: o6 :: o7 :: o8 :: o9 :: o10 :: o11 :: o12 :: o13 :: o14 :: some (.own c) :: r) S = .ok (.own c) (o0 :: o1 :: o2 :: o3 :: o4 :: o5 :: o6 :: o7 :: o8 :: o9 :: o10 :: o11 :: o12 :: o13 :: o14 :: none :: r) S := rfl
theorem st15 (o0 o1 o2 o3 o4 o5 o6 o7 o8 o9 o10 o11 o12 o13 o14 : Option Val) (v : Option Val) : List.set (o0 :: o1 :: o2 :: o3 :: o4 :: o5 :: o6 :: o7 :: o8 :: o9 :: o10 :: o11 :: o12 :: o13 :: o14 :: o :: r) 15 v = o0 :: o1 :: o2 :: o3 :: o4 :: o5 :: o6 :: o7 :: o8 :: o9 :: o10 :: o11 :: o12 :: o13 :: o14 :: v :: r := rfl
theorem pd15 (o0 o1 o2 o3 o4 o5 o6 o7 o8 o9 o10 o11 o12 o13 o14 : Option Val) : peek 15 (o0 :: o1 :: o2 :: o3 :: o4 :: o5 :: o6 :: o7 :: o8 :: o9 :: o10 :: o11 :: o12 :: o13 :: o14 :: some (.own (.dK ks xs)) :: r) S = some (.dic ks xs) := rfl
theorem pt15 (o0 o1 o2 o3 o4 o5 o6 o7 o8 o9 o10 o11 o12 o13 o14 : Option Val) : peek 15 (o0 :: o1 :: o2 :: o3 :: o4 :: o5 :: o6 :: o7 :: o8 :: o9 :: o10 :: o11 :: o12 :: o13 :: o14 :: some (.own (.dT kt xs)) :: r) S = some (.dit kt xs) := rfl
theorem od15 (o0 o1 o2 o3 o4 o5 o6 o7 o8 o9 o10 o11 o12 o13 o14 : Option Val) : ownT 15 (o0 :: o1 :: o2 :: o3 :: o4 :: o5 :: o6 :: o7 :: o8 :: o9 :: o10 :: o11 :: o12 :: o13 :: o14 :: some (.own (.dK ks xs)) :: r) = true := rfl
theorem ot15 (o0 o1 o2 o3 o4 o5 o6 o7 o8 o9 o10 o11 o12 o13 o14 : Option Val) : ownT 15 (o0 :: o1 :: o2 :: o3 :: o4 :: o5 :: o6 :: o7 :: o8 :: o9 :: o10 :: o11 :: o12 :: o13 :: o14 :: some (.own (.dT kt xs)) :: r) = true := rfl
theorem vd15 (o0 o1 o2 o3 o4 o5 o6 o7 o8 o9 o10 o11 o12 o13 o14 : Option Val) : varX 15 (o0 :: o1 :: o2 :: o3 :: o4 :: o5 :: o6 :: o7 :: o8 :: o9 :: o10 :: o11 :: o12 :: o13 :: o14 :: some (.own (.dK ks xs)) :: r) S = .ok (.fz (.dic ks xs)) (o0 :: o1 :: o2 :: o3 :: o4 :: o5 :: o6 :: o7 :: o8 :: o9 :: o10 :: o11 :: o12 :: o13 :: o14 :: some (.fz (.dic ks xs)) :: r) S := rfl
theorem vt15 (o0 o1 o2 o3 o4 o5 o6 o7 o8 o9 o10 o11 o12 o13 o14 : Option Val) : varX 15 (o0 :: o1 :: o2 :: o3 :: o4 :: o5 :: o6 :: o7 :: o8 :: o9 :: o10 :: o11 :: o12 :: o13 :: o14 :: some (.own (.dT kt xs)) :: r) S = .ok (.fz (.dit kt xs)) (o0 :: o1 :: o2 :: o3 :: o4 :: o5 :: o6 :: o7 :: o8 :: o9 :: o10 :: o11 :: o12 :: o13 :: o14 :: some (.fz (.dit kt xs)) :: r) S := rfl
theorem vx16 (o0 o1 o2 o3 o4 o5 o6 o7 o8 o9 o10 o11 o12 o13 o14 o15 : Option Val) : varX 16 (o0 :: o1 :: o2 :: o3 :: o4 :: o5 :: o6 :: o7 :: o8 :: o9 :: o10 :: o11 :: o12 :: o13 :: o14 :: o15 :: some (.fz d) :: r) S = .ok (.fz d) (o0 :: o1 :: o2 :: o3 :: o4 :: o5 :: o6 :: o7 :: o8 :: o9 :: o10 :: o11 :: o12 :: o13 :: o14 :: o15 :: some (.fz d) :: r) S := rfl
theorem vo16 (o0 o1 o2 o3 o4 o5 o6 o7 o8 o9 o10 o11 o12 o13 o14 o15 : Option Val) : varX 16 (o0 :: o1 :: o2 :: o3 :: o4 :: o5 :: o6 :: o7 :: o8 :: o9 :: o10 :: o11 :: o12 :: o13 :: o14 :: o15 :: some (.own (.lst xs)) :: r) S = .ok (.fz (.lst xs)) (o0 :: o1 :: o2 :: o3 :: o4 :: o5 :: o6 :: o7 :: o8 :: o9 :: o10 :: o11 :: o12 :: o13 :: o14 :: o15 :: some (.fz (.lst xs)) :: r) S := rfl
theorem pk16 (o0 o1 o2 o3 o4 o5 o6 o7 o8 o9 o10 o11 o12 o13 o14 o15 : Option Val) : peek 16 (o0 :: o1 :: o2 :: o3 :: o4 :: o5 :: o6 :: o7 :: o8 :: o9 :: o10 :: o11 :: o12 :: o13 :: o14 :: o15 :: some (.fz d) :: r) S = some (look S d) := rfl
theorem po16 (o0 o1 o2 o3 o4 o5 o6 o7 o8 o9 o10 o11 o12 o13 o14 o15 : Option Val) : peek 16 (o0 :: o1 :: o2 :: o3 :: o4 :: o5 :: o6 :: o7 :: o8 :: o9 :: o10 :: o11 :: o12 :: o13 :: o14 :: o15 :: some (.own (.lst xs)) :: r) S = some (.lst xs) := rfl
theorem ol16 (o0 o1 o2 o3 o4 o5 o6 o7 o8 o9 o10 o11 o12 o13 o14 o15 : Option Val) : ownL 16 (o0 :: o1 :: o2 :: o3 :: o4 :: o5 :: o6 :: o7 :: o8 :: o9 :: o10 :: o11 :: o12 :: o13 :: o14 :: o15 :: some (.own (.lst xs)) :: r) = true := rfl
theorem rf16 (o0 o1 o2 o3 o4 o5 o6 o7 o8 o9 o10 o11 o12 o13 o14 o15 : Option Val) (f : Frame → Store → RX Val) : retX (.var 16) f (o0 :: o1 :: o2 :: o3 :: o4 :: o5 :: o6 :: o7 :: o8 :: o9 :: o10 :: o11 :: o12 :: o13 :: o14 :: o15 :: some (.fz d) :: r) S = .ok (.fz d) (o0 :: o1 :: o2 :: o3 :: o4 :: o5 :: o6 :: o7 :: o8 :: o9 :: o10 :: o11 :: o12 :: o13 :: o14 :: o15 :: some (.fz d) :: r) S := rfl
theorem ro16 (o0 o1 o2 o3 o4 o5 o6 o7 o8 o9 o10 o11 o12 o13 o14 o15 : Option Val) (f : Frame → Store → RX Val) (c : Cell) : retX (.var 16) f (o0 :: o1 :: o2 :: o3 :: o4 :: o5 :: o6 :: o7 :: o8 :: o9 :: o10 :: o11 :: o12 :: o13 :: o14 :: o15 :: some (.own c) :: r) S = .ok (.own c) (o0 :: o1 :: o2 :: o3 :: o4 :: o5 :: o6 :: o7 :: o8 :: o9 :: o10 :: o11 :: o12 :: o13 :: o14 :: o15 :: none :: r) S := rfl
theorem st16 (o0 o1 o2 o3 o4 o5 o6 o7 o8 o9 o10 o11 o12 o13 o14 o15 : Option Val) (v : Option Val) : List.set (o0 :: o1 :: o2 :: o3 :: o4 :: o5 :: o6 :: o7 :: o8 :: o9 :: o10 :: o11 :: o12 :: o13 :: o14 :: o15 :: o :: r) 16 v = o0 :: o1 :: o2 :: o3 :: o4 :: o5 :: o6 :: o7 :: o8 :: o9 :: o10 :: o11 :: o12 :: o13 :: o14 :: o15 :: v :: r := rfl
theorem pd16 (o0 o1 o2 o3 o4 o5 o6 o7 o8 o9 o10 o11 o12 o13 o14 o15 : Option Val) : peek 16 (o0 :: o1 :: o2 :: o3 :: o4 :: o5 :: o6 :: o7 :: o8 :: o9 :: o10 :: o11 :: o12 :: o13 :: o14 :: o15 :: some (.own (.dK ks xs)) :: r) S = some (.dic ks xs) := rfl
theorem pt16 (o0 o1 o2 o3 o4 o5 o6 o7 o8 o9 o10 o11 o12 o13 o14 o15 : Option Val) : peek 16 (o0 :: o1 :: o2 :: o3 :: o4 :: o5 :: o6 :: o7 :: o8 :: o9 :: o10 :: o11 :: o12 :: o13 :: o14 :: o15 :: some (.own (.dT kt xs)) :: r) S = some (.dit kt xs) := rfl
theorem od16 (o0 o1 o2 o3 o4 o5 o6 o7 o8 o9 o10 o11 o12 o13 o14 o15 : Option Val) : ownT 16 (o0 :: o1 :: o2 :: o3 :: o4 :: o5 :: o6 :: o7 :: o8 :: o9 :: o10 :: o11 :: o12 :: o13 :: o14 :: o15 :: some (.own (.dK ks xs)) :: r) = true := rfl
theorem ot16 (o0 o1 o2 o3 o4 o5 o6 o7 o8 o9 o10 o11 o12 o13 o14 o15 : Option Val) : ownT 16 (o0 :: o1 :: o2 :: o3 :: o4 :: o5 :: o6 :: o7 :: o8 :: o9 :: o10 :: o11 :: o12 :: o13 :: o14 :: o15 :: some (.own (.dT kt xs)) :: r) = true := rfl
theorem vd16 (o0 o1 o2 o3 o4 o5 o6 o7 o8 o9 o10 o11 o12 o13 o14 o15 : Option Val) : varX 16 (o0 :: o1 :: o2 :: o3 :: o4 :: o5 :: o6 :: o7 :: o8 :: o9 :: o10 :: o11 :: o12 :: o13 :: o14 :: o15 :: some (.own (.dK ks xs)) :: r) S = .ok (.fz (.dic ks xs)) (o0 :: o1 :: o2 :: o3 :: o4 :: o5 :: o6 :: o7 :: o8 :: o9 :: o10 :: o11 :: o12 :: o13 :: o14 :: o15 :: some (.fz (.dic ks xs)) :: r) S := rfl
theorem vt16 (o0 o1 o2 o3 o4 o5 o6 o7 o8 o9 o10 o11 o12 o13 o14 o15 : Option Val) : varX 16 (o0 :: o1 :: o2 :: o3 :: o4 :: o5 :: o6 :: o7 :: o8 :: o9 :: o10 :: o11 :: o12 :: o13 :: o14 :: o15 :: some (.own (.dT kt xs)) :: r) S = .ok (.fz (.dit kt xs)) (o0 :: o1 :: o2 :: o3 :: o4 :: o5 :: o6 :: o7 :: o8 :: o9 :: o10 :: o11 :: o12 :: o13 :: o14 :: o15 :: some (.fz (.dit kt xs)) :: r) S := rfl
theorem vx17 (o0 o1 o2 o3 o4 o5 o6 o7 o8 o9 o10 o11 o12 o13 o14 o15 o16 : Option Val) : varX 17 (o0 :: o1 :: o2 :: o3 :: o4 :: o5 :: o6 :: o7 :: o8 :: o9 :: o10 :: o11 :: o12 :: o13 :: o14 :: o15 :: o16 :: some (.fz d) :: r) S = .ok (.fz d) (o0 :: o1 :: o2 :: o3 :: o4 :: o5 :: o6 :: o7 :: o8 :: o9 :: o10 :: o11 :: o12 :: o13 :: o14 :: o15 :: o16 :: some (.fz d) :: r) S := rfl
theorem vo17 (o0 o1 o2 o3 o4 o5 o6 o7 o8 o9 o10 o11 o12 o13 o14 o15 o16 : Option Val) : varX 17 (o0 :: o1 :: o2 :: o3 :: o4 :: o5 :: o6 :: o7 :: o8 :: o9 :: o10 :: o11 :: o12 :: o13 :: o14 :: o15 :: o16 :: some (.own (.lst xs)) :: r) S = .ok (.fz (.lst xs)) (o0 :: o1 :: o2 :: o3 :: o4 :: o5 :: o6 :: o7 :: o8 :: o9 :: o10 :: o11 :: o12 :: o13 :: o14 :: o15 :: o16 :: some (.fz (.lst xs)) :: r) S := rfl
theorem pk17 (o0 o1 o2 o3 o4 o5 o6 o7 o8 o9 o10 o11 o12 o13 o14 o15 o16 : Option Val) : peek 17 (o0 :: o1 :: o2 :: o3 :: o4 :: o5 :: o6 :: o7 :: o8 :: o9 :: o10 :: o11 :: o12 :: o13 :: o14 :: o15 :: o16 :: some (.fz d) :: r) S = some (look S d) := rfl
theorem po17 (o0 o1 o2 o3 o4 o5 o6 o7 o8 o9 o10 o11 o12 o13 o14 o15 o16 : Option Val) : peek 17 (o0 :: o1 :: o2 :: o3 :: o4 :: o5 :: o6 :: o7 :: o8 :: o9 :: o10 :: o11 :: o12 :: o13 :: o14 :: o15 :: o16 :: some (.own (.lst xs)) :: r) S = some (.lst xs) := rfl
theorem ol17 (o0 o1 o2 o3 o4 o5 o6 o7 o8 o9 o10 o11 o12 o13 o14 o15 o16 : Option Val) : ownL 17 (o0 :: o1 :: o2 :: o3 :: o4 :: o5 :: o6 :: o7 :: o8 :: o9 :: o10 :: o11 :: o12 :: o13 :: o14 :: o15 :: o16 :: some (.own (.lst xs)) :: r) = true := rfl
theorem rf17 (o0 o1 o2 o3 o4 o5 o6 o7 o8 o9 o10 o11 o12 o13 o14 o15 o16 : Option Val) (f : Frame → Store → RX Val) : retX (.var 17) f (o0 :: o1 :: o2 :: o3 :: o4 :: o5 :: o6 :: o7 :: o8 :: o9 :: o10 :: o11 :: o12 :: o13 :: o14 :: o15 :: o16 :: some (.fz d) :: r) S = .ok (.fz d) (o0 :: o1 :: o2 :: o3 :: o4 :: o5 :: o6 :: o7 :: o8 :: o9 :: o10 :: o11 :: o12 :: o13 :: o14 :: o15 :: o16 :: some (.fz d) :: r) S := rfl
theorem ro17 (o0 o1 o2 o3 o4 o5 o6 o7 o8 o9 o10 o11 o12 o13 o14 o15 o16 : Option Val) (f : Frame → Store → RX Val) (c : Cell) : retX (.var 17) f (o0 :: o1 :: o2 :: o3 :: o4 :: o5 :: o6 :: o7 :: o8 :: o9 :: o10 :: o11 :: o12 :: o13 :: o14 :: o15 :: o16 :: some (.own c) :: r) S = .ok (.own c) (o0 :: o1 :: o2 :: o3 :: o4 :: o5 :: o6 :: o7 :: o8 :: o9 :: o10 :: o11 :: o12 :: o13 :: o14 :: o15 :: o16 :: none :: r) S := rfl
theorem st17 (o0 o1 o2 o3 o4 o5 o6 o7 o8 o9 o10 o11 o12 o13 o14 o15 o16 : Option Val) (v : Option Val) : List.set (o0 :: o1 :: o2 :: o3 :: o4 :: o5 :: o6 :: o7 :: o8 :: o9 :: o10 :: o11 :: o12 :: o13 :: o14 :: o15 :: o16 :: o :: r) 17 v = o0 :: o1 :: o2 :: o3 :: o4 :: o5 :: o6 :: o7 :: o8 :: o9 :: o10 :: o11 :: o12 :: o13 :: o14 :: o15 :: o16 :: v :: r := rfl
theorem pd17 (o0 o1 o2 o3 o4 o5 o6 o7 o8 o9 o10 o11 o12 o13 o14 o15 o16 : Option Val) : peek 17 (o0 :: o1 :: o2 :: o3 :: o4 :: o5 :: o6 :: o7 :: o8 :: o9 :: o10 :: o11 :: o12 :: o13 :: o14 :: o15 :: o16 :: some (.own (.dK ks xs)) :: r) S = some (.dic ks xs) := rfl
theorem pt17 (o0 o1 o2 o3 o4 o5 o6 o7 o8 o9 o10 o11 o12 o13 o14 o15 o16 : Option Val) : peek 17 (o0 :: o1 :: o2 :: o3 :: o4 :: o5 :: o6 :: o7 :: o8 :: o9 :: o10 :: o11 :: o12 :: o13 :: o14 :: o15 :: o16 :: some (.own (.dT kt xs)) :: r) S = some (.dit kt xs) := rfl
theorem od17 (o0 o1 o2 o3 o4 o5 o6 o7 o8 o9 o10 o11 o12 o13 o14 o15 o16 : Option Val) : ownT 17 (o0 :: o1 :: o2 :: o3 :: o4 :: o5 :: o6 :: o7 :: o8 :: o9 :: o10 :: o11 :: o12 :: o13 :: o14 :: o15 :: o16 :: some (.own (.dK ks xs)) :: r) = true := rfl
theorem ot17 (o0 o1 o2 o3 o4 o5 o6 o7 o8 o9 o10 o11 o12 o13 o14 o15 o16 : Option Val) : ownT 17 (o0 :: o1 :: o2 :: o3 :: o4 :: o5 :: o6 :: o7 :: o8 :: o9 :: o10 :: o11 :: o12 :: o13 :: o14 :: o15 :: o16 :: some (.own (.dT kt xs)) :: r) = true := rfl
theorem vd17 (o0 o1 o2 o3 o4 o5 o6 o7 o8 o9 o10 o11 o12 o13 o14 o15 o16 : Option Val) : varX 17 (o0 :: o1 :: o2 :: o3 :: o4 :: o5 :: o6 :: o7 :: o8 :: o9 :: o10 :: o11 :: o12 :: o13 :: o14 :: o15 :: o16 :: some (.own (.dK ks xs)) :: r) S = .ok (.fz (.dic ks xs)) (o0 :: o1 :: o2 :: o3 :: o4 :: o5 :: o6 :: o7 :: o8 :: o9 :: o10 :: o11 :: o12 :: o13 :: o14 :: o15 :: o16 :: some (.fz (.dic ks xs)) :: r) S := rfl
theorem vt17 (o0 o1 o2 o3 o4 o5 o6 o7 o8 o9 o10 o11 o12 o13 o14 o15 o16 : Option Val) : varX 17 (o0 :: o1 :: o2 :: o3 :: o4 :: o5 :: o6 :: o7 :: o8 :: o9 :: o10 :: o11 :: o12 :: o13 :: o14 :: o15 :: o16 :: some (.own (.dT kt xs)) :: r) S = .ok (.fz (.dit kt xs)) (o0 :: o1 :: o2 :: o3 :: o4 :: o5 :: o6 :: o7 :: o8 :: o9 :: o10 :: o11 :: o12 :: o13 :: o14 :: o15 :: o16 :: some (.fz (.dit kt xs)) :: r) S := rfl
theorem vx18 (o0 o1 o2 o3 o4 o5 o6 o7 o8 o9 o10 o11 o12 o13 o14 o15 o16 o17 : Option Val) : varX 18 (o0 :: o1 :: o2 :: o3 :: o4 :: o5 :: o6 :: o7 :: o8 :: o9 :: o10 :: o11 :: o12 :: o13 :: o14 :: o15 :: o16 :: o17 :: some (.fz d) :: r) S = .ok (.fz d) (o0 :: o1 :: o2 :: o3 :: o4 :: o5 :: o6 :: o7 :: o8 :: o9 :: o10 :: o11 :: o12 :: o13 :: o14 :: o15 :: o16 :: o17 :: some (.fz d) :: r) S := rfl
theorem vo18 (o0 o1 o2 o3 o4 o5 o6 o7 o8 o9 o10 o11 o12 o13 o14 o15 o16 o17 : Option Val) : varX 18 (o0 :: o1 :: o2 :: o3 :: o4 :: o5 :: o6 :: o7 :: o8 :: o9 :: o10 :: o11 :: o12 :: o13 :: o14 :: o15 :: o16 :: o17 :: some (.own (.lst xs)) :: r) S = .ok (.fz (.lst xs)) (o0 :: o1 :: o2 :: o3 :: o4 :: o5 :: o6 :: o7 :: o8 :: o9 :: o10 :: o11 :: o12 :: o13 :: o14 :: o15 :: o16 :: o17 :: some (.fz (.lst xs)) :: r) S := rfl
theorem pk18 (o0 o1 o2 o3 o4 o5 o6 o7 o8 o9 o10 o11 o12 o13 o14 o15 o16 o17 : Option Val) : peek 18 (o0 :: o1 :: o2 :: o3 :: o4 :: o5 :: o6 :: o7 :: o8 :: o9 :: o10 :: o11 :: o12 :: o13 :: o14 :: o15 :: o16 :: o17 :: some (.fz d) :: r) S = some (look S d) := rfl
theorem po18 (o0 o1 o2 o3 o4 o5 o6 o7 o8 o9 o10 o11 o12 o13 o14 o15 o16 o17 : Option Val) : peek 18 (o0 :: o1 :: o2 :: o3 :: o4 :: o5 :: o6 :: o7 :: o8 :: o9 :: o10 :: o11 :: o12 :: o13 :: o14 :: o15 :: o16 :: o17 :: some (.own (.lst xs)) :: r) S = some (.lst xs) := rfl
theorem ol18 (o0 o1 o2 o3 o4 o5 o6 o7 o8 o9 o10 o11 o12 o13 o14 o15 o16 o17 : Option Val) : ownL 18 (o0 :: o1 :: o2 :: o3 :: o4 :: o5 :: o6 :: o7 :: o8 :: o9 :: o10 :: o11 :: o12 :: o13 :: o14 :: o15 :: o16 :: o17 :: some (.own (.lst xs)) :: r) = true := rfl
theorem rf18 (o0 o1 o2 o3 o4 o5 o6 o7 o8 o9 o10 o11 o12 o13 o14 o15 o16 o17 : Option Val) (f : Frame → Store → RX Val) : retX (.var 18) f (o0 :: o1 :: o2 :: o3 :: o4 :: o5 :: o6 :: o7 :: o8 :: o9 :: o10 :: o11 :: o12 :: o13 :: o14 :: o15 :: o16 :: o17 :: some (.fz d) :: r) S = .ok (.fz d) (o0 :: o1 :: o2 :: o3 :: o4 :: o5 :: o6 :: o7 :: o8 :: o9 :: o10 :: o11 :: o12 :: o13 :: o14 :: o15 :: o16 :: o17 :: some (.fz d) :: r) S := rfl
theorem ro18 (o0 o1 o2 o3 o4 o5 o6 o7 o8 o9 o10 o11 o12 o13 o14 o15 o16 o17 : Option Val) (f : Frame → Store → RX Val) (c : Cell) : retX (.var 18) f (o0 :: o1 :: o2 :: o3 :: o4 :: o5 :: o6 :: o7 :: o8 :: o9 :: o10 :: o11 :: o12 :: o13 :: o14 :: o15 :: o16 :: o17 :: some (.own c) :: r) S = .ok (.own c) (o0 :: o1 :: o2 :: o3 :: o4 :: o5 :: o6 :: o7 :: o8 :: o9 :: o10 :: o11 :: o12 :: o13 :: o14 :: o15 :: o16 :: o17 :: none :: r) S := rfl
theorem st18 (o0 o1 o2 o3 o4 o5 o6 o7 o8 o9 o10 o11 o12 o13 o14 o15 o16 o17 : Option Val) (v : Option Val) : List.set (o0 :: o1 :: o2 :: o3 :: o4 :: o5 :: o6 :: o7 :: o8 :: o9 :: o10 :: o11 :: o12 :: o13 :: o14 :: o15 :: o16 :: o17 :: o :: r) 18 v = o0 :: o1 :: o2 :: o3 :: o4 :: o5 :: o6 :: o7 :: o8 :: o9 :: o10 :: o11 :: o12 :: o13 :: o14 :: o15 :: o16 :: o17 :: v :: r := rfl
theorem pd18 (o0 o1 o2 o3 o4 o5 o6 o7 o8 o9 o10 o11 o12 o13 o14 o15 o16 o17 : Option Val) : peek 18 (o0 :: o1 :: o2 :: o3 :: o4 :: o5 :: o6 :: o7 :: o8 :: o9 :: o10 :: o11 :: o12 :: o13 :: o14 :: o15 :: o16 :: o17 :: some (.own (.dK ks xs)) :: r) S = some (.dic ks xs) := rfl
theorem pt18 (o0 o1 o2 o3 o4 o5 o6 o7 o8 o9 o10 o11 o12 o13 o14 o15 o16 o17 : Option Val) : peek 18 (o0 :: o1 :: o2 :: o3 :: o4 :: o5 :: o6 :: o7 :: o8 :: o9 :: o10 :: o11 :: o12 :: o13 :: o14 :: o15 :: o16 :: o17 :: some (.own (.dT kt xs)) :: r) S = some (.dit kt xs) := rfl
theorem od18 (o0 o1 o2 o3 o4 o5 o6 o7 o8 o9 o10 o11 o12 o13 o14 o15 o16 o17 : Option Val) : ownT 18 (o0 :: o1 :: o2 :: o3 :: o4 :: o5 :: o6 :: o7 :: o8 :: o9 :: o10 :: o11 :: o12 :: o13 :: o14 :: o15 :: o16 :: o17 :: some (.own (.dK ks xs)) :: r) = true := rfl
theorem ot18 (o0 o1 o2 o3 o4 o5 o6 o7 o8 o9 o10 o11 o12 o13 o14 o15 o16 o17 : Option Val) : ownT 18 (o0 :: o1 :: o2 :: o3 :: o4 :: o5 :: o6 :: o7 :: o8 :: o9 :: o10 :: o11 :: o12 :: o13 :: o14 :: o15 :: o16 :: o17 :: some (.own (.dT kt xs)) :: r) = true := rfl
theorem vd18 (o0 o1 o2 o3 o4 o5 o6 o7 o8 o9 o10 o11 o12 o13 o14 o15 o16 o17 : Option Val) : varX 18 (o0 :: o1 :: o2 :: o3 :: o4 :: o5 :: o6 :: o7 :: o8 :: o9 :: o10 :: o11 :: o12 :: o13 :: o14 :: o15 :: o16 :: o17 :: some (.own (.dK ks xs)) :: r) S = .ok (.fz (.dic ks xs)) (o0 :: o1 :: o2 :: o3 :: o4 :: o5 :: o6 :: o7 :: o8 :: o9 :: o10 :: o11 :: o12 :: o13 :: o14 :: o15 :: o16 :: o17 :: some (.fz (.dic ks xs)) :: r) S := rfl
theorem vt18 (o0 o1 o2 o3 o4 o5 o6 o7 o8 o9 o10 o11 o12 o13 o14 o15 o16 o17 : Option Val) : varX 18 (o0 :: o1 :: o2 :: o3 :: o4 :: o5 :: o6 :: o7 :: o8 :: o9 :: o10 :: o11 :: o12 :: o13 :: o14 :: o15 :: o16 :: o17 :: some (.own (.dT kt xs)) :: r) S = .ok (.fz (.dit kt xs)) (o0 :: o1 :: o2 :: o3 :: o4 :: o5 :: o6 :: o7 :: o8 :: o9 :: o10 :: o11 :: o12 :: o13 :: o14 :: o15 :: o16 :: o17 :: some (.fz (.dit kt xs)) :: r) S := rfl
theorem vx19 (o0 o1 o2 o3 o4 o5 o6 o7 o8 o9 o10 o11 o12 o13 o14 o15 o16 o17 o18 : Option Val) : varX 19 (o0 :: o1 :: o2 :: o3 :: o4 :: o5 :: o6 :: o7 :: o8 :: o9 :: o10 :: o11 :: o12 :: o13 :: o14 :: o15 :: o16 :: o17 :: o18 :: some (.fz d) :: r) S = .ok (.fz d) (o0 :: o1 :: o2 :: o3 :: o4 :: o5 :: o6 :: o7 :: o8 :: o9 :: o10 :: o11 :: o12 :: o13 :: o14 :: o15 :: o16 :: o17 :: o18 :: some (.fz d) :: r) S := rfl
theorem vo19 (o0 o1 o2 o3 o4 o5 o6 o7 o8 o9 o10 o11 o12 o13 o14 o15 o16 o17 o18 : Option Val) : varX 19 (o0 :: o1 :: o2 :: o3 :: o4 :: o5 :: o6 :: o7 :: o8 :: o9 :: o10 :: o11 :: o12 :: o13 :: o14 :: o15 :: o16 :: o17 :: o18 :: some (.own (.lst xs)) :: r) S = .ok (.fz (.lst xs)) (o0 :: o1 :: o2 :: o3 :: o4 :: o5 :: o6 :: o7 :: o8 :: o9 :: o10 :: o11 :: o12 :: o13 :: o14 :: o15 :: o16 :: o17 :: o18 :: some (.fz (.lst xs)) :: r) S := rfl
theorem pk19 (o0 o1 o2 o3 o4 o5 o6 o7 o8 o9 o10 o11 o12 o13 o14 o15 o16 o17 o18 : Option Val) : peek 19 (o0 :: o1 :: o2 :: o3 :: o4 :: o5 :: o6 :: o7 :: o8 :: o9 :: o10 :: o11 :: o12 :: o13 :: o14 :: o15 :: o16 :: o17 :: o18 :: some (.fz d) :: r) S = some (look S d) := rfl
theorem po19 (o0 o1 o2 o3 o4 o5 o6 o7 o8 o9 o10 o11 o12 o13 o14 o15 o16 o17 o18 : Option Val) : peek 19 (o0 :: o1 :: o2 :: o3 :: o4 :: o5 :: o6 :: o7 :: o8 :: o9 :: o10 :: o11 :: o12 :: o13 :: o14 :: o15 :: o16 :: o17 :: o18 :: some (.own (.lst xs)) :: r) S = some (.lst xs) := rfl
theorem ol19 (o0 o1 o2 o3 o4 o5 o6 o7 o8 o9 o10 o11 o12 o13 o14 o15 o16 o17 o18 : Option Val) : ownL 19 (o0 :: o1 :: o2 :: o3 :: o4 :: o5 :: o6 :: o7 :: o8 :: o9 :: o10 :: o11 :: o12 :: o13 :: o14 :: o15 :: o16 :: o17 :: o18 :: some (.own (.lst xs)) :: r) = true := rfl
theorem rf19 (o0 o1 o2 o3 o4 o5 o6 o7 o8 o9 o10 o11 o12 o13 o14 o15 o16 o17 o18 : Option Val) (f : Frame → Store → RX Val) : retX (.var 19) f (o0 :: o1 :: o2 :: o3 :: o4 :: o5 :: o6 :: o7 :: o8 :: o9 :: o10 :: o11 :: o12 :: o13 :: o14 :: o15 :: o16 :: o17 :: o18 :: some (.fz d) :: r) S = .ok (.fz d) (o0 :: o1 :: o2 :: o3 :: o4 :: o5 :: o6 :: o7 :: o8 :: o9 :: o10 :: o11 :: o12 :: o13 :: o14 :: o15 :: o16 :: o17 :: o18 :: some (.fz d) :: r) S := rfl
theorem ro19 (o0 o1 o2 o3 o4 o5 o6 o7 o8 o9 o10 o11 o12 o13 o14 o15 o16 o17 o18 : Option Val) (f : Frame → Store → RX Val) (c : Cell) : retX (.var 19) f (o0 :: o1 :: o2 :: o3 :: o4 :: o5 :: o6 :: o7 :: o8 :: o9 :: o10 :: o11 :: o12 :: o13 :: o14 :: o15 :: o16 :: o17 :: o18 :: some (.own c) :: r) S = .ok (.own c) (o0 :: o1 :: o2 :: o3 :: o4 :: o5 :: o6 :: o7 :: o8 :: o9 :: o10 :: o11 :: o12 :: o13 :: o14 :: o15 :: o16 :: o17 :: o18 :: none :: r) S := rfl
theorem st19 (o0 o1 o2 o3 o4 o5 o6 o7 o8 o9 o10 o11 o12 o13 o14 o15 o16 o17 o18 : Option Val) (v : Option Val) : List.set (o0 :: o1 :: o2 :: o3 :: o4 :: o5 :: o6 :: o7 :: o8 :: o9 :: o10 :: o11 :: o12 :: o13 :: o14 :: o15 :: o16 :: o17 :: o18 :: o :: r) 19 v = o0 :: o1 :: o2 :: o3 :: o4 :: o5 :: o6 :: o7 :: o8 :: o9 :: o10 :: o11 :: o12 :: o13 :: o14 :: o15 :: o16 :: o17 :: o18 :: v :: r := rfl
theorem pd19 (o0 o1 o2 o3 o4 o5 o6 o7 o8 o9 o10 o11 o12 o13 o14 o15 o16 o17 o18 : Option Val) : peek 19 (o0 :: o1 :: o2 :: o3 :: o4 :: o5 :: o6 :: o7 :: o8 :: o9 :: o10 :: o11 :: o12 :: o13 :: o14 :: o15 :: o16 :: o17 :: o18 :: some (.own (.dK ks xs)) :: r) S = some (.dic ks xs) := rfl
theorem pt19 (o0 o1 o2 o3 o4 o5 o6 o7 o8 o9 o10 o11 o12 o13 o14 o15 o16 o17 o18 : Option Val) : peek 19 (o0 :: o1 :: o2 :: o3 :: o4 :: o5 :: o6 :: o7 :: o8 :: o9 :: o10 :: o11 :: o12 :: o13 :: o14 :: o15 :: o16 :: o17 :: o18 :: some (.own (.dT kt xs)) :: r) S = some (.dit kt xs) := rfl
theorem od19 (o0 o1 o2 o3 o4 o5 o6 o7 o8 o9 o10 o11 o12 o13 o14 o15 o16 o17 o18 : Option Val) : ownT 19 (o0 :: o1 :: o2 :: o3 :: o4 :: o5 :: o6 :: o7 :: o8 :: o9 :: o10 :: o11 :: o12 :: o13 :: o14 :: o15 :: o16 :: o17 :: o18 :: some (.own (.dK ks xs)) :: r) = true := rfl
theorem ot19 (o0 o1 o2 o3 o4 o5 o6 o7 o8 o9 o10 o11 o12 o13 o14 o15 o16 o17 o18 : Option Val) : ownT 19 (o0 :: o1 :: o2 :: o3 :: o4 :: o5 :: o6 :: o7 :: o8 :: o9 :: o10 :: o11 :: o12 :: o13 :: o14 :: o15 :: o16 :: o17 :: o18 :: some (.own (.dT kt xs)) :: r) = true := rfl
theorem vd19 (o0 o1 o2 o3 o4 o5 o6 o7 o8 o9 o10 o11 o12 o13 o14 o15 o16 o17 o18 : Option Val) : varX 19 (o0 :: o1 :: o2 :: o3 :: o4 :: o5 :: o6 :: o7 :: o8 :: o9 :: o10 :: o11 :: o12 :: o13 :: o14 :: o15 :: o16 :: o17 :: o18 :: some (.own (.dK ks xs)) :: r) S = .ok (.fz (.dic ks xs)) (o0 :: o1 :: o2 :: o3 :: o4 :: o5 :: o6 :: o7 :: o8 :: o9 :: o10 :: o11 :: o12 :: o13 :: o14 :: o15 :: o16 :: o17 :: o18 :: some (.fz (.dic ks xs)) :: r) S := rfl
theorem vt19 (o0 o1 o2 o3 o4 o5 o6 o7 o8 o9 o10 o11 o12 o13 o14 o15 o16 o17 o18 : Option Val) : varX 19 (o0 :: o1 :: o2 :: o3 :: o4 :: o5 :: o6 :: o7 :: o8 :: o9 :: o10 :: o11 :: o12 :: o13 :: o14 :: o15 :: o16 :: o17 :: o18 :: some (.own (.dT kt xs)) :: r) S = .ok (.fz (.dit kt xs)) (o0 :: o1 :: o2 :: o3 :: o4 :: o5 :: o6 :: o7 :: o8 :: o9 :: o10 :: o11 :: o12 :: o13 :: o14 :: o15 :: o16 :: o17 :: o18 :: some (.fz (.dit kt xs)) :: r) S := rfl
end
end Eng
end

section
/-! The engine, part T: loops and comprehensions by what stays true of them. -/
namespace Eng
open PySem L2
section
variable {tg : Tg} {body : Eng.Frame → Store → RS} {test : Eng.Frame → Store → RX Bool} {elt : Eng.Frame → Store → RX D}
theorem loop_nil {fr : Eng.Frame} {S : Store} : loopGo tg body [] fr S = .nx fr S := rfl
theorem loop_step {d : D} {ds : List D} {fr fr1 fr2 : Eng.Frame} {S S2 : Store} (h1 : asg tg d fr = some fr1) (h2 : body fr1 S = .nx fr2 S2) : loopGo tg body (d :: ds) fr S = loopGo tg body ds fr2 S2 := by
  show (match asg tg d fr with | none => RS.no | some fr1 => _) = _
  rw [h1]
  show (match body fr1 S with | .nx fr2 S2 => _ | .ct fr2 S2 => _ | .bk fr2 S2 => _ | r => r) = _
  rw [h2]
theorem loop_rt {d : D} {ds : List D} {fr fr1 fr2 : Eng.Frame} {S S2 : Store} {v : Val} (h1 : asg tg d fr = some fr1) (h2 : body fr1 S = .rt v fr2 S2) : loopGo tg body (d :: ds) fr S = .rt v fr2 S2 := by
  show (match asg tg d fr with | none => RS.no | some fr1 => _) = _
  rw [h1]
  show (match body fr1 S with | .nx fr2 S2 => _ | .ct fr2 S2 => _ | .bk fr2 S2 => _ | r => r) = _
  rw [h2]
theorem loop_inv (I : Nat → Eng.Frame → Store → Prop) : (ds : List D) → (j : Nat) → {fr : Eng.Frame} → {S : Store} → I j fr S →
    (∀ i d fr S, ds[i]? = some d → I (j + i) fr S → ∃ fr1 fr2 S2, asg tg d fr = some fr1 ∧ body fr1 S = .nx fr2 S2 ∧ I (j + i + 1) fr2 S2) →
    ∃ fr' S', loopGo tg body ds fr S = .nx fr' S' ∧ I (j + ds.length) fr' S'
  | [], j, fr, S, h0, _ => ⟨fr, S, rfl, h0⟩
  | d :: ds, j, fr, S, h0, hs => by
    obtain ⟨fr1, fr2, S2, h1, h2, h3⟩ := hs 0 d fr S rfl h0
    rw [loop_step h1 h2]
    obtain ⟨fr', S', h4, h5⟩ := loop_inv I ds (j + 1) (fr := fr2) (S := S2) h3 (fun i d fr S hd hi => by
      have e : j + 1 + i = j + (i + 1) := by omega
      rw [e] at hi
      obtain ⟨a, b, c, h1, h2, h3⟩ := hs (i + 1) d fr S hd hi
      exact ⟨a, b, c, h1, h2, by rw [e]; exact h3⟩)
    exact ⟨fr', S', h4, by have e : j + 1 + ds.length = j + (ds.length + 1) := by omega
                           rw [e] at h5; exact h5⟩
/-- from the first turn -/
theorem loop_inv0 (I : Nat → Eng.Frame → Store → Prop) {ds : List D} {fr : Eng.Frame} {S : Store} (h0 : I 0 fr S)
    (hs : ∀ i d fr S, ds[i]? = some d → I i fr S → ∃ fr1 fr2 S2, asg tg d fr = some fr1 ∧ body fr1 S = .nx fr2 S2 ∧ I (i + 1) fr2 S2) :
    ∃ fr' S', loopGo tg body ds fr S = .nx fr' S' ∧ I ds.length fr' S' := by
  obtain ⟨a, b, h, h'⟩ := loop_inv (tg := tg) (body := body) I ds 0 h0 (fun i d fr S hd hi => by rw [Nat.zero_add] at hi ⊢; exact hs i d fr S hd hi)
  rw [Nat.zero_add] at h'
  exact ⟨a, b, h, h'⟩
theorem comp_nil {acc : List D} {fr : Eng.Frame} {S : Store} : compGo tg test elt [] acc fr S = .ok acc fr S := rfl
theorem comp_step {d y : D} {ds acc : List D} {fr fr1 fr2 fr3 : Eng.Frame} {S S2 S3 : Store} (h1 : asg tg d fr = some fr1) (h2 : test fr1 S = .ok true fr2 S2) (h3 : elt fr2 S2 = .ok y fr3 S3) (hl : acc.length < sizeLine) :
    compGo tg test elt (d :: ds) acc fr S = compGo tg test elt ds (acc ++ [y]) (wipeF fr3 tg.slots) S3 := by
  show (match asg tg d fr with | none => RX.no | some fr1 => _) = _
  rw [h1]
  show (match test fr1 S with | .ok true fr2 S2 => _ | .ok false fr2 S2 => _ | _ => _) = _
  rw [h2]
  show (match elt fr2 S2 with | .ok y fr3 S3 => if acc.length < sizeLine then _ else RX.no | _ => _) = _
  rw [h3]
  show (if acc.length < sizeLine then _ else _) = _
  rw [if_pos hl]
theorem comp_skip {d : D} {ds acc : List D} {fr fr1 fr2 : Eng.Frame} {S S2 : Store} (h1 : asg tg d fr = some fr1) (h2 : test fr1 S = .ok false fr2 S2) :
    compGo tg test elt (d :: ds) acc fr S = compGo tg test elt ds acc (wipeF fr2 tg.slots) S2 := by
  show (match asg tg d fr with | none => RX.no | some fr1 => _) = _
  rw [h1]
  show (match test fr1 S with | .ok true fr2 S2 => _ | .ok false fr2 S2 => _ | _ => _) = _
  rw [h2]
/-- each turn gives one value -/
theorem comp_inv (I : Nat → List D → Eng.Frame → Store → Prop) : (ds : List D) → (j : Nat) → {acc : List D} → {fr : Eng.Frame} → {S : Store} → I j acc fr S → acc.length + ds.length ≤ sizeLine →
    (∀ i d acc fr S, ds[i]? = some d → I (j + i) acc fr S → ∃ fr1 fr2 fr3 y S2 S3, asg tg d fr = some fr1 ∧ test fr1 S = .ok true fr2 S2 ∧ elt fr2 S2 = .ok y fr3 S3 ∧ I (j + i + 1) (acc ++ [y]) (wipeF fr3 tg.slots) S3) →
    ∃ acc' fr' S', compGo tg test elt ds acc fr S = .ok acc' fr' S' ∧ I (j + ds.length) acc' fr' S' ∧ acc'.length = acc.length + ds.length
  | [], j, acc, fr, S, h0, _, _ => ⟨acc, fr, S, rfl, h0, rfl⟩
  | d :: ds, j, acc, fr, S, h0, hl, hs => by
    obtain ⟨fr1, fr2, fr3, y, S2, S3, h1, h2, h3, h4⟩ := hs 0 d acc fr S rfl h0
    have hl' : acc.length + ds.length + 1 ≤ sizeLine := hl
    rw [comp_step h1 h2 h3 (by omega)]
    obtain ⟨acc', fr', S', h5, h6, h7⟩ := comp_inv I ds (j + 1) (acc := acc ++ [y]) (fr := wipeF fr3 tg.slots) (S := S3) h4 (by simp; omega) (fun i d acc fr S hd hi => by
      have e : j + 1 + i = j + (i + 1) := by omega
      rw [e] at hi ⊢
      exact hs (i + 1) d acc fr S hd hi)
    refine ⟨acc', fr', S', h5, ?_, ?_⟩
    · have e : j + 1 + ds.length = j + (ds.length + 1) := by omega
      rw [e] at h6; exact h6
    · rw [h7]; simp; omega
theorem comp_inv0 (I : Nat → List D → Eng.Frame → Store → Prop) {ds : List D} {fr : Eng.Frame} {S : Store} (h0 : I 0 [] fr S) (hl : ds.length ≤ sizeLine)
    (hs : ∀ i d acc fr S, ds[i]? = some d → I i acc fr S → ∃ fr1 fr2 fr3 y S2 S3, asg tg d fr = some fr1 ∧ test fr1 S = .ok true fr2 S2 ∧ elt fr2 S2 = .ok y fr3 S3 ∧ I (i + 1) (acc ++ [y]) (wipeF fr3 tg.slots) S3) :
    ∃ acc' fr' S', compGo tg test elt ds [] fr S = .ok acc' fr' S' ∧ I ds.length acc' fr' S' ∧ acc'.length = ds.length := by
  obtain ⟨a, b, c, h, h', h''⟩ := comp_inv (tg := tg) (test := test) (elt := elt) I ds 0 (acc := []) h0 (by simpa using hl) (fun i d acc fr S hd hi => by rw [Nat.zero_add] at hi ⊢; exact hs i d acc fr S hd hi)
  rw [Nat.zero_add] at h'
  exact ⟨a, b, c, h, h', by simpa using h''⟩
/-- nothing but the names of the target moves: a filtered map -/
theorem comp_pure {fr : Eng.Frame} {S : Store} {g : D → D} {p : D → Bool} : (ds acc : List D) → acc.length + ds.length ≤ sizeLine →
    (∀ d ∈ ds, ∃ fr1, asg tg d fr = some fr1 ∧ test fr1 S = .ok (p d) fr1 S ∧ (p d = true → elt fr1 S = .ok (g d) fr1 S) ∧ wipeF fr1 tg.slots = fr) →
    compGo tg test elt ds acc fr S = .ok (acc ++ (ds.filter p).map g) fr S
  | [], acc, _, _ => by simp only [List.filter_nil, List.map_nil, List.append_nil]; rfl
  | d :: ds, acc, hl, h => by
    obtain ⟨fr1, h1, h2, h3, h4⟩ := h d (List.mem_cons_self ..)
    have hl' : acc.length + ds.length + 1 ≤ sizeLine := hl
    cases e : p d with
    | true =>
      rw [e] at h2
      rw [comp_step h1 h2 (h3 e) (by omega), h4, comp_pure ds (acc ++ [g d]) (by simp; omega) (fun d hd => h d (List.mem_cons_of_mem _ hd))]
      simp [List.filter_cons, e]
    | false =>
      rw [e] at h2
      rw [comp_skip h1 h2, h4, comp_pure ds acc (by omega) (fun d hd => h d (List.mem_cons_of_mem _ hd))]
      simp [List.filter_cons, e]
/-- a map alone -/
theorem comp_map {fr : Eng.Frame} {S : Store} {g : D → D} {ds : List D} (hl : ds.length ≤ sizeLine)
    (h : ∀ d ∈ ds, ∃ fr1, asg tg d fr = some fr1 ∧ test fr1 S = .ok true fr1 S ∧ elt fr1 S = .ok (g d) fr1 S ∧ wipeF fr1 tg.slots = fr) :
    compGo tg test elt ds [] fr S = .ok (ds.map g) fr S := by
  rw [comp_pure (g := g) (p := fun _ => true) ds [] (by simpa using hl) (fun d hd => by
    obtain ⟨a, b, c, e, f⟩ := h d hd
    exact ⟨a, b, c, fun _ => e, f⟩)]
  rw [List.nil_append, List.filter_eq_self.mpr (fun _ _ => rfl)]
end
theorem rg_mem {a b : Int} {i : Nat} {d : D} (h : (rgD a b)[i]? = some d) : d = .int (a + i) ∧ i < (b - a).toNat := by
  unfold rgD at h
  rw [List.getElem?_map] at h
  obtain ⟨x, hx, rfl⟩ := Option.map_eq_some_iff.mp h
  obtain ⟨h1, h2⟩ := List.getElem?_eq_some_iff.mp hx
  rw [List.getElem_range] at h2
  rw [List.length_range] at h1
  subst h2
  exact ⟨rfl, h1⟩
theorem rg_len (a b : Int) : (rgD a b).length = (b - a).toNat := by unfold rgD; rw [List.length_map, List.length_range]
theorem boolL_map (f : D → Bool) (ds : List D) : boolL (ds.map fun d => .bl (f d)) = some (ds.map f) := by
  induction ds with
  | nil => rfl
  | cons d ds ih => show (boolL (ds.map fun d => .bl (f d))).map (f d :: ·) = _; rw [ih]; rfl
theorem boolL_bl (bs : List Bool) : boolL (bs.map D.bl) = some bs := by
  induction bs with
  | nil => rfl
  | cons d ds ih => show (boolL (ds.map D.bl)).map (d :: ·) = _; rw [ih]; rfl
theorem intL_int (bs : List Int) : intL (bs.map D.int) = some bs := by
  induction bs with
  | nil => rfl
  | cons d ds ih => show (intL (ds.map D.int)).map (d :: ·) = _; rw [ih]; rfl
theorem all_bl (bs : List Bool) : bltD .all [.lst (bs.map D.bl)] = some (.fz (.bl (bs.all id))) := by
  show (boolL (bs.map D.bl)).map _ = _
  rw [boolL_bl]; rfl
theorem any_bl (bs : List Bool) : bltD .any [.lst (bs.map D.bl)] = some (.fz (.bl (bs.any id))) := by
  show (boolL (bs.map D.bl)).map _ = _
  rw [boolL_bl]; rfl
theorem sum_int (bs : List Int) : bltD .sum [.lst (bs.map D.int)] = some (.fz (.int bs.sum)) := by
  show (intL (bs.map D.int)).map _ = _
  rw [intL_int]; rfl
theorem lenset_int {ns : List Int} (h : ns.Nodup) (h2 : ns.length ≤ 4000) : lensetD (.lst (ns.map D.int)) = some (.fz (.int ns.length)) := by
  show (intL (ns.map D.int)).bind _ = _
  rw [intL_int]
  show (if _ then _ else _) = _
  rw [if_pos ⟨h, h2⟩]
theorem atD_nat {xs : List D} {x : D} {j : Int} {i : Nat} (e : j = i) (h : xs[i]? = some x) : atD xs j = some x := by
  subst e; exact atI_nat h
theorem pls_ints (xs : List Int) : D.pls (xs.map D.int) = true := by
  induction xs with
  | nil => rfl
  | cons d ds ih => exact ih
theorem deps_ints (xs : List Int) : D.deps (xs.map D.int) = 0 := by
  induction xs with
  | nil => rfl
  | cons d ds ih => show max 0 (D.deps (ds.map D.int)) = 0; rw [ih]; rfl
theorem eqvs_ints (xs ys : List Int) : D.eqvs (xs.map D.int) (ys.map D.int) = decide (xs = ys) := by
  induction xs generalizing ys with
  | nil => cases ys <;> simp [D.eqvs]
  | cons d ds ih => cases ys with
    | nil => simp [D.eqvs]
    | cons e es => simp [D.eqvs, D.eqv, ih]; by_cases h : d = e <;> simp [h]
end Eng
namespace Eng
open PySem L2
/-- a comprehension as a value -/
theorem kComp_ok {cf : CF} {gl : Str → Option D} {a : Xp} {tg : Tg} {es : Xs} {ds acc : List D} {fr frw fr' fr2 : Eng.Frame} {S S' : Store} (h : calmF fr tg.slots = true) (hw : wipeF fr tg.slots = frw)
    (h1 : compGo tg (evC cf gl es) (eltX cf gl a) ds [] frw S = .ok acc fr' S') (hb : backF fr fr' tg.slots = fr2) : kComp cf gl a tg es ds fr S = .ok (.own (.lst acc)) fr2 S' := by
  subst hw hb
  rw [kComp_eq h, h1]; rfl
theorem all_map (f : D → Bool) (ds : List D) : bltD .all [.lst (ds.map fun d => .bl (f d))] = some (.fz (.bl (ds.all f))) := by
  show (boolL (ds.map fun d => .bl (f d))).map _ = _
  rw [boolL_map]
  show some (Val.fz (D.bl ((ds.map f).all id))) = _
  rw [List.all_map]; rfl
theorem kSetX {cf : CF} {gl : Str → Option D} {i : Nat} {v : Val} {fr : Eng.Frame} {S : Store} : kSet i v fr S = .nx (fr.set i (some v)) S := rfl
end Eng
namespace Eng
open PySem L2
theorem i_int_non : isD .int .non = some false := rfl
theorem i_int_int (i : Int) : isD .int (.int i) = some true := rfl
theorem i_int_bl (b : Bool) : isD .int (.bl b) = some true := rfl
theorem i_int_str (x : Str) : isD .int (.str x) = some false := rfl
theorem i_int_lst (xs : List D) : isD .int (.lst xs) = some false := rfl
theorem i_int_tup (xs : List D) : isD .int (.tup xs) = some false := rfl
theorem i_int_scr (xs : List D) : isD .int (.scr xs) = some false := rfl
theorem i_bool_non : isD .bool .non = some false := rfl
theorem i_bool_int (i : Int) : isD .bool (.int i) = some false := rfl
theorem i_bool_bl (b : Bool) : isD .bool (.bl b) = some true := rfl
theorem i_bool_str (x : Str) : isD .bool (.str x) = some false := rfl
theorem i_bool_lst (xs : List D) : isD .bool (.lst xs) = some false := rfl
theorem i_bool_tup (xs : List D) : isD .bool (.tup xs) = some false := rfl
theorem i_bool_scr (xs : List D) : isD .bool (.scr xs) = some false := rfl
theorem i_tuple_non : isD .tuple .non = some false := rfl
theorem i_tuple_int (i : Int) : isD .tuple (.int i) = some false := rfl
theorem i_tuple_bl (b : Bool) : isD .tuple (.bl b) = some false := rfl
theorem i_tuple_str (x : Str) : isD .tuple (.str x) = some false := rfl
theorem i_tuple_lst (xs : List D) : isD .tuple (.lst xs) = some false := rfl
theorem i_tuple_tup (xs : List D) : isD .tuple (.tup xs) = some true := rfl
theorem i_tuple_scr (xs : List D) : isD .tuple (.scr xs) = some false := rfl
theorem i_str_non : isD .str .non = some false := rfl
theorem i_str_int (i : Int) : isD .str (.int i) = some false := rfl
theorem i_str_bl (b : Bool) : isD .str (.bl b) = some false := rfl
theorem i_str_str (x : Str) : isD .str (.str x) = some true := rfl
theorem i_str_lst (xs : List D) : isD .str (.lst xs) = some false := rfl
theorem i_str_tup (xs : List D) : isD .str (.tup xs) = some false := rfl
theorem i_str_scr (xs : List D) : isD .str (.scr xs) = some false := rfl
theorem i_list_non : isD .list .non = some false := rfl
theorem i_list_int (i : Int) : isD .list (.int i) = some false := rfl
theorem i_list_bl (b : Bool) : isD .list (.bl b) = some false := rfl
theorem i_list_str (x : Str) : isD .list (.str x) = some false := rfl
theorem i_list_lst (xs : List D) : isD .list (.lst xs) = some true := rfl
theorem i_list_tup (xs : List D) : isD .list (.tup xs) = some false := rfl
theorem i_list_scr (xs : List D) : isD .list (.scr xs) = some true := rfl
theorem i_dict_non : isD .dict .non = some false := rfl
theorem i_dict_int (i : Int) : isD .dict (.int i) = some false := rfl
theorem i_dict_bl (b : Bool) : isD .dict (.bl b) = some false := rfl
theorem i_dict_str (x : Str) : isD .dict (.str x) = some false := rfl
theorem i_dict_lst (xs : List D) : isD .dict (.lst xs) = some false := rfl
theorem i_dict_tup (xs : List D) : isD .dict (.tup xs) = some false := rfl
theorem i_dict_scr (xs : List D) : isD .dict (.scr xs) = some false := rfl
end Eng
end

section
/-! The engine, part U: the text of small data. -/
namespace Eng
open PySem L2
mutual
/-- short numbers, None, truths in lists and tuples -/
def D.tiny : D → Bool
  | .non | .bl _ => true
  | .int i => decide (i.natAbs < 10 ^ 12)
  | .lst xs | .tup xs => D.tinys xs
  | _ => false
def D.tinys : List D → Bool
  | [] => true
  | x :: xs => D.tiny x && D.tinys xs
end
mutual
def D.wt : D → Nat
  | .int _ => 40
  | .lst xs | .tup xs => D.wts xs
  | _ => 0
def D.wts : List D → Nat
  | [] => 0
  | x :: xs => D.wt x + 1 + D.wts xs
end
mutual
theorem tiny_pl : ∀ d : D, d.tiny = true → d.pl = true
  | .non, _ | .bl _, _ | .int _, _ => by unfold D.pl; rfl
  | .str _, _ => by unfold D.pl; rfl
  | .lst xs, h | .tup xs, h => by unfold D.tiny at h; unfold D.pl; exact tinys_pl xs h
  | .dic _ _, h | .dit _ _, h | .ref _, h | .scr _, h => by unfold D.tiny at h; cases h
theorem tinys_pl : ∀ ds : List D, D.tinys ds = true → D.pls ds = true
  | [], _ => by unfold D.pls; rfl
  | x :: xs, h => by
    unfold D.tinys at h
    rw [Bool.and_eq_true] at h
    unfold D.pls
    rw [tiny_pl x h.1, tinys_pl xs h.2]; rfl
end
theorem log2_lt {i : Nat} (h : i < 10 ^ 12) : i.log2 < 40 := by
  by_cases e : i = 0
  · subst e; decide
  · exact (Nat.log2_lt e).mpr (Nat.lt_trans h (by decide))
mutual
theorem tiny_short : ∀ d : D, d.tiny = true → d.toP.leavesShort 13 = true ∧ d.toP.showable = true ∧ d.toP.weight ≤ d.wt
  | .non, _ => by unfold D.toP D.wt PyData.leavesShort PyData.showable PyData.weight; exact ⟨rfl, rfl, Nat.le_refl _⟩
  | .bl _, _ => by unfold D.toP D.wt PyData.leavesShort PyData.showable PyData.weight; exact ⟨rfl, rfl, Nat.le_refl _⟩
  | .int i, h => by
    unfold D.tiny at h
    have h' := of_decide_eq_true h
    have hl := log2_lt h'
    unfold D.toP D.wt PyData.leavesShort PyData.showable PyData.weight
    refine ⟨decide_eq_true (PyData.shown_int_le h'), decide_eq_true (by omega), ?_⟩
    split <;> omega
  | .lst xs, h | .tup xs, h => by
    unfold D.tiny at h
    unfold D.toP D.wt PyData.leavesShort PyData.showable PyData.weight
    exact tinys_short xs h
  | .str _, h | .dic _ _, h | .dit _ _, h | .ref _, h | .scr _, h => by unfold D.tiny at h; cases h
theorem tinys_short : ∀ ds : List D, D.tinys ds = true → PyData.leavesShortAll 13 (D.toPs ds) = true ∧ PyData.showableAll (D.toPs ds) = true ∧ PyData.weightAll (D.toPs ds) ≤ D.wts ds
  | [], _ => by unfold D.toPs D.wts PyData.leavesShortAll PyData.showableAll PyData.weightAll; exact ⟨rfl, rfl, Nat.le_refl _⟩
  | x :: xs, h => by
    unfold D.tinys at h
    rw [Bool.and_eq_true] at h
    obtain ⟨a1, a2, a3⟩ := tiny_short x h.1
    obtain ⟨b1, b2, b3⟩ := tinys_short xs h.2
    unfold D.toPs D.wts PyData.leavesShortAll PyData.showableAll PyData.weightAll
    rw [a1, a2, b1, b2]
    exact ⟨rfl, rfl, by omega⟩
end
theorem reprD_eq {d : D} (h : d.tiny = true) (hw : d.wt ≤ 1000000) (hd : d.dep ≤ 64) : reprD d = some (.fz (.str d.toP.shown)) := by
  obtain ⟨a, b, c⟩ := tiny_short d h
  unfold reprD
  rw [if_pos ⟨tiny_pl d h, b, PyData.shown_fits (by decide) (by decide) a (by omega), hd⟩]
theorem repr_tup {xs : List D} (h : D.tiny (.tup xs) = true) (hw : D.wt (.tup xs) ≤ 1000000) (hd : D.dep (.tup xs) ≤ 64) : bltD .repr [.tup xs] = some (.fz (.str (D.toP (.tup xs)).shown)) := reprD_eq h hw hd
theorem repr_lst {xs : List D} (h : D.tiny (.lst xs) = true) (hw : D.wt (.lst xs) ≤ 1000000) (hd : D.dep (.lst xs) ≤ 64) : bltD .repr [.lst xs] = some (.fz (.str (D.toP (.lst xs)).shown)) := reprD_eq h hw hd
theorem tinys_all {xs : List D} (h : ∀ x ∈ xs, D.tiny x = true) : D.tinys xs = true := by
  induction xs with
  | nil => rfl
  | cons x xs ih =>
    show (D.tiny x && D.tinys xs) = true
    rw [h x (List.mem_cons_self ..), ih fun y hy => h y (List.mem_cons_of_mem _ hy)]; rfl
theorem wts_le {xs : List D} {k : Nat} (h : ∀ x ∈ xs, D.wt x ≤ k) : D.wts xs ≤ xs.length * (k + 1) := by
  induction xs with
  | nil => exact Nat.zero_le _
  | cons x xs ih =>
    show D.wt x + 1 + D.wts xs ≤ (xs.length + 1) * (k + 1)
    have := h x (List.mem_cons_self ..)
    have := ih fun y hy => h y (List.mem_cons_of_mem _ hy)
    rw [Nat.add_mul]; omega
theorem deps_le {xs : List D} {k : Nat} (h : ∀ x ∈ xs, D.dep x ≤ k) : D.deps xs ≤ k := by
  induction xs with
  | nil => exact Nat.zero_le _
  | cons x xs ih =>
    show max (D.dep x) (D.deps xs) ≤ k
    exact Nat.max_le.mpr ⟨h x (List.mem_cons_self ..), ih fun y hy => h y (List.mem_cons_of_mem _ hy)⟩
end Eng
end

section
/-! The engine, part T2: comprehensions over typed lists, dicts of ints. -/
namespace Eng
open PySem L2
theorem filter_map_map {α : Type} (f : α → D) (p : D → Bool) (g : D → D) (xs : List α) : ((xs.map f).filter p).map g = (xs.filter fun x => p (f x)).map fun x => g (f x) := by
  induction xs with
  | nil => rfl
  | cons x xs ih =>
    simp only [List.map_cons, List.filter_cons]
    split <;> simp [ih]
theorem compGo_typed {α : Type} {tg : Tg} {test : Frame → Store → RX Bool} {elt : Frame → Store → RX D} {f g : α → D} {p : α → Bool} {fr : Frame} {S : Store} : (xs : List α) → (acc : List D) → acc.length + xs.length ≤ sizeLine →
    (∀ x ∈ xs, ∃ fr1, asg tg (f x) fr = some fr1 ∧ test fr1 S = .ok (p x) fr1 S ∧ (p x = true → elt fr1 S = .ok (g x) fr1 S) ∧ wipeF fr1 tg.slots = fr) →
    compGo tg test elt (xs.map f) acc fr S = .ok (acc ++ (xs.filter p).map g) fr S
  | [], acc, _, _ => by simp only [List.filter_nil, List.map_nil, List.append_nil]; rfl
  | d :: ds, acc, hl, h => by
    obtain ⟨fr1, h1, h2, h3, h4⟩ := h d (List.mem_cons_self ..)
    have hl' : acc.length + ds.length + 1 ≤ sizeLine := hl
    cases e : p d with
    | true =>
      rw [e] at h2
      rw [List.map_cons, comp_step h1 h2 (h3 e) (by omega), h4, compGo_typed ds (acc ++ [g d]) (by simp; omega) (fun d hd => h d (List.mem_cons_of_mem _ hd))]
      simp [List.filter_cons, e]
    | false =>
      rw [e] at h2
      rw [List.map_cons, comp_skip h1 h2, h4, compGo_typed ds acc (by omega) (fun d hd => h d (List.mem_cons_of_mem _ hd))]
      simp [List.filter_cons, e]
/-- a comprehension over a typed list -/
theorem kComp_typed {α : Type} {cf : CF} {gl : Str → Option D} {a : Xp} {tg : Tg} {es : Xs} {fr frw : Frame} {S : Store} (f g : α → D) (p : α → Bool) (xs : List α) (hc : calmF fr tg.slots = true) (hw : wipeF fr tg.slots = frw) (hb : backF fr frw tg.slots = fr) (hl : xs.length ≤ sizeLine)
    (h : ∀ x ∈ xs, ∃ fr1, asg tg (f x) frw = some fr1 ∧ evC cf gl es fr1 S = .ok (p x) fr1 S ∧ (p x = true → eltX cf gl a fr1 S = .ok (g x) fr1 S) ∧ wipeF fr1 tg.slots = frw) :
    kComp cf gl a tg es (xs.map f) fr S = .ok (.own (.lst ((xs.filter p).map g))) fr S := by
  refine kComp_ok hc hw ?_ hb
  rw [compGo_typed (p := p) (g := g) xs [] (by simpa using hl) h, List.nil_append]
theorem kComp_all {α : Type} {cf : CF} {gl : Str → Option D} {a : Xp} {tg : Tg} {es : Xs} {fr frw : Frame} {S : Store} (f g : α → D) (xs : List α) (hc : calmF fr tg.slots = true) (hw : wipeF fr tg.slots = frw) (hb : backF fr frw tg.slots = fr) (hl : xs.length ≤ sizeLine)
    (h : ∀ x ∈ xs, ∃ fr1, asg tg (f x) frw = some fr1 ∧ evC cf gl es fr1 S = .ok true fr1 S ∧ eltX cf gl a fr1 S = .ok (g x) fr1 S ∧ wipeF fr1 tg.slots = frw) :
    kComp cf gl a tg es (xs.map f) fr S = .ok (.own (.lst (xs.map g))) fr S := by
  rw [kComp_typed f g (fun _ => true) xs hc hw hb hl (fun x hx => by
    obtain ⟨a, b, c, d, e⟩ := h x hx
    exact ⟨a, b, c, fun _ => d, e⟩), List.filter_eq_self.mpr (fun _ _ => rfl)]
/-! ### dicts -/
section
variable {κ : Type} [DecidableEq κ]
theorem findK_zip (d : D) (k j : κ) : ∀ {ks : List κ} {vs : List D}, ks.length = vs.length → findK ks (List.zipWith (fun i v => if i = k then d else v) ks vs) j = if j = k ∧ j ∈ ks then some d else findK ks vs j
  | [], [], _ => by simp [findK]
  | i :: ks, v :: vs, h => by
    simp only [List.zipWith_cons_cons, findK]
    rw [findK_zip d k j (by simpa using h)]
    by_cases e : i = j
    · subst e
      by_cases e2 : i = k
      · simp [e2]
      · simp [e2]
    · have e' : j ≠ i := fun z => e z.symm
      simp [e, e']
theorem findK_mem (j : κ) : ∀ {ks : List κ} {vs : List D}, ks.length = vs.length → ((findK ks vs j).isSome = true ↔ j ∈ ks)
  | [], [], _ => by simp [findK]
  | i :: ks, v :: vs, h => by
    simp only [findK]
    by_cases e : i = j
    · simp [e]
    · have e' : j ≠ i := fun z => e z.symm
      rw [if_neg e, findK_mem j (by simpa using h)]
      simp [e']
theorem findK_app (d : D) (k j : κ) : ∀ {ks : List κ} {vs : List D}, ks.length = vs.length → findK (ks ++ [k]) (vs ++ [d]) j = match findK ks vs j with | some v => some v | none => if k = j then some d else none
  | [], [], _ => by simp [findK]
  | i :: ks, v :: vs, h => by
    simp only [List.cons_append, findK]
    by_cases e : i = j
    · simp [e]
    · rw [if_neg e, if_neg e, findK_app d k j (by simpa using h)]
theorem findK_put {ks : List κ} {vs : List D} (h : ks.length = vs.length) (k j : κ) (d : D) : findK (putKs ks k) (putVs ks vs k d) j = if j = k then some d else findK ks vs j := by
  unfold putKs putVs
  by_cases e : k ∈ ks
  · rw [if_pos e, if_pos e, findK_zip d k j h]
    by_cases e2 : j = k
    · subst e2; simp [e]
    · simp [e2]
  · rw [if_neg e, if_neg e, findK_app d k j h]
    by_cases e2 : j = k
    · subst e2
      have : findK ks vs j = none := by
        cases q : findK ks vs j with
        | none => rfl
        | some v => exact absurd ((findK_mem j h).mp (by rw [q]; rfl)) e
      rw [this]
    · have e3 : k ≠ j := fun z => e2 z.symm
      rw [if_neg e2]
      cases findK ks vs j <;> simp [e3]
theorem put_len {ks : List κ} {vs : List D} (h : ks.length = vs.length) (k : κ) (d : D) : (putKs ks k).length = (putVs ks vs k d).length ∧ (putKs ks k).length ≤ ks.length + 1 := by
  unfold putKs putVs
  by_cases e : k ∈ ks
  · rw [if_pos e, if_pos e, List.length_zipWith, ← h, Nat.min_self]; exact ⟨rfl, Nat.le_succ _⟩
  · rw [if_neg e, if_neg e, List.length_append, List.length_append, h]; exact ⟨rfl, Nat.le_refl _⟩
end
theorem setdK {i : Nat} {fr : Frame} {ks : List Key} {vs : List D} {k : Key} {y d : D} {S : Store} (h : fr[i]? = some (some (.own (.dK ks vs)))) (hk : toKey y = some k) (hl : ks.length < sizeLine) : setdX i y d fr S = .nx (fr.set i (some (.own (.dK (putKs ks k) (putVs ks vs k d))))) S := by
  unfold setdX; simp only [h, hk, if_pos hl]
/-! ### ranges, enumerations -/
theorem rgN_nat (k : Nat) : rgN ((k : Int) - 1) (-1) = ((List.range k).map fun i => D.int ((k : Int) - 1 - (i : Nat))) := by
  unfold rgN
  have e : ((k : Int) - 1 - -1).toNat = k := by omega
  rw [e]
theorem rgN_succ (k : Nat) : rgN (((k + 1 : Nat) : Int) - 1) (-1) = .int (k : Nat) :: rgN ((k : Int) - 1) (-1) := by
  rw [rgN_nat, rgN_nat, List.range_succ_eq_map, List.map_cons, List.map_map]
  congr 1
  · congr 1; omega
  · exact List.map_congr_left fun i _ => by show D.int _ = D.int _; congr 1; show (((k + 1 : Nat) : Int) - 1 - ((i + 1 : Nat) : Int)) = _; omega
theorem enumD_range (n : Nat) (f : Nat → D) : enumD ((List.range n).map f) = (List.range n).map fun k => .tup [.int (k : Nat), f k] := by
  unfold enumD
  rw [List.length_map, List.length_range]
  refine List.map_congr_left fun i hi => ?_
  have hi := List.mem_range.mp hi
  rw [List.getD_eq_getElem?_getD, List.getElem?_map, List.getElem?_range hi]; rfl
theorem enumD_map {α : Type} (f : α → D) (xs : List α) (x0 : α) : enumD (xs.map f) = (List.range xs.length).map fun k => .tup [.int (k : Nat), f (xs.getD k x0)] := by
  unfold enumD
  rw [List.length_map]
  refine List.map_congr_left fun i hi => ?_
  have hi := List.mem_range.mp hi
  rw [List.getD_eq_getElem?_getD, List.getElem?_map, List.getElem?_eq_getElem hi, List.getD_eq_getElem?_getD, List.getElem?_eq_getElem hi]; rfl
end Eng
end

local macro_rules | `(tactic| walk_at "eng") => `(tactic| simp -implicitDefEqProofs only [Eng.ev_con, Eng.ev_var, Eng.ev_glo, Eng.ev_bin, Eng.kBin1_eq, Eng.kBin2_eq, Eng.ev_cmp, Eng.kCmp1_eq, Eng.kCmp2_eq, Eng.ev_chain, Eng.kCh1_eq, Eng.kCh2_eq, Eng.kCh3_t, Eng.kCh3_f, Eng.ev_not, Eng.kNot_eq, Eng.ev_and, Eng.kAnd_t, Eng.kAnd_f, Eng.ev_or, Eng.kOr_t, Eng.kOr_f, Eng.ev_ife, Eng.kIfe_t, Eng.kIfe_f, Eng.ev_tup, Eng.kTup_0, Eng.kTup_1, Eng.kTup_2, Eng.kTup_3, Eng.kTup_4, Eng.kTup_5, Eng.kTup_6, Eng.kTup_7, Eng.ev_lst, Eng.kLst_0, Eng.kLst_1, Eng.kLst_2, Eng.kLst_3, Eng.kLst_4, Eng.kLst_5, Eng.kLst_6, Eng.kLst_7, Eng.kLst_8, Eng.kLst_9, Eng.kLst_10, Eng.kLst_11, Eng.kLst_12, Eng.ev_sub, Eng.kSub1_eq, Eng.kSub2_eq, Eng.ev_slice, Eng.kSl1_eq, Eng.kSl2_eq, Eng.kSl3_eq, Eng.ev_call, Eng.kCall_eq, Eng.ev_blt, Eng.kBlt_1, Eng.kBlt_2, Eng.ev_isi, Eng.kIsi_eq, Eng.ev_bltv, Eng.oBlt_some, Eng.ev_subv, Eng.kSubv_some, Eng.kSubv2_eq, Eng.oSub_some, Eng.ev_cmpv, Eng.kCmpv_eq, Eng.oCmp_some, Eng.ev_popv, Eng.kPop_t, Eng.ev_comp, Eng.compOut_ok, Eng.ev_share, Eng.kShare_eq, Eng.ev_listrg, Eng.ev_lenset, Eng.kLenset_eq, Eng.evs_nil, Eng.evs_cons, Eng.kCons1_eq, Eng.kCons2_eq, Eng.evO_omit, Eng.evO_var, Eng.evO_con, Eng.evO_bin, Eng.evO_bltv, Eng.evO_subv, Eng.kO_int, Eng.evC_nil, Eng.evC_one, Eng.evT_not, Eng.kNotT_eq, Eng.evT_and, Eng.kAndT_t, Eng.kAndT_f, Eng.evT_or, Eng.kOrT_t, Eng.kOrT_f, Eng.kTru_eq, Eng.evT_cmp, Eng.evT_chain, Eng.evT_cmpv, Eng.evT_var, Eng.evT_call, Eng.evT_blt, Eng.evT_isi, Eng.evT_bltv, Eng.evT_subv, Eng.evT_sub, Eng.evW_seq, Eng.kSeq_lst, Eng.kSeq_tup, Eng.evW_rng1, Eng.frzX_fz, Eng.frzX_own, Eng.frzX_ex, Eng.frzX_no, Eng.b_ok, Eng.b_ex, Eng.b_no, Eng.l_some, Eng.l_none, Eng.bk_ok, Eng.bk_ex, Eng.bk_no, Eng.t_ok, Eng.t_ex, Eng.t_no, Eng.s_nx, Eng.s_rt, Eng.s_ex, Eng.s_no, Eng.d_nx, Eng.d_rt, Eng.d_ex, Eng.lk_non, Eng.lk_bl, Eng.lk_int, Eng.lk_str, Eng.lk_lst, Eng.lk_tup, Eng.lk_scr, Eng.lk_dic, Eng.tru_bl, Eng.tru_lst, Eng.blF_eq, Eng.om_some, Eng.om_none, Eng.ex_exp, Eng.kNx_eq, Eng.ex_set, Eng.kSet_eq, Eng.ex_asg, Eng.kAsg_eq, Eng.oNx_some, Eng.ex_ret, Eng.kRt_eq, Eng.ex_retN, Eng.ex_cond, Eng.kCond_t, Eng.kCond_f, Eng.ex_loop, Eng.kLoop_eq, Eng.ex_raise, Eng.ex_appv, Eng.kApp_t, Eng.ex_extv, Eng.kExt_t, Eng.ex_setv, Eng.kSetv_eq, Eng.kSetv1_t, Eng.kSetv2_eq, Eng.ex_setr, Eng.kSetr1_eq, Eng.kSetr2_eq, Eng.kSetr3_eq, Eng.ex_pass, Eng.exs_nil, Eng.exs_cons, Eng.ret_con, Eng.ret_bin, Eng.ret_cmp, Eng.ret_chain, Eng.ret_not, Eng.ret_and, Eng.ret_or, Eng.ret_ife, Eng.ret_tup, Eng.ret_lst, Eng.ret_sub, Eng.ret_slice, Eng.ret_call, Eng.ret_blt, Eng.ret_isi, Eng.ret_bltv, Eng.ret_subv, Eng.ret_cmpv, Eng.ret_popv, Eng.ret_comp, Eng.ret_share, Eng.ret_glo, Eng.vx0, Eng.vo0, Eng.pk0, Eng.po0, Eng.ol0, Eng.rf0, Eng.ro0, Eng.st0, Eng.vx1, Eng.vo1, Eng.pk1, Eng.po1, Eng.ol1, Eng.rf1, Eng.ro1, Eng.st1, Eng.vx2, Eng.vo2, Eng.pk2, Eng.po2, Eng.ol2, Eng.rf2, Eng.ro2, Eng.st2, Eng.vx3, Eng.vo3, Eng.pk3, Eng.po3, Eng.ol3, Eng.rf3, Eng.ro3, Eng.st3, Eng.vx4, Eng.vo4, Eng.pk4, Eng.po4, Eng.ol4, Eng.rf4, Eng.ro4, Eng.st4, Eng.vx5, Eng.vo5, Eng.pk5, Eng.po5, Eng.ol5, Eng.rf5, Eng.ro5, Eng.st5, Eng.vx6, Eng.vo6, Eng.pk6, Eng.po6, Eng.ol6, Eng.rf6, Eng.ro6, Eng.st6, Eng.vx7, Eng.vo7, Eng.pk7, Eng.po7, Eng.ol7, Eng.rf7, Eng.ro7, Eng.st7, Eng.vx8, Eng.vo8, Eng.pk8, Eng.po8, Eng.ol8, Eng.rf8, Eng.ro8, Eng.st8, Eng.sub_lst, Eng.sub_tup, Eng.sub_scr, Eng.c_eqI, Eng.c_neI, Eng.c_ltI, Eng.c_leI, Eng.c_gtI, Eng.c_geI, Eng.c_isN, Eng.c_isnN, Eng.b_addI, Eng.b_subI, Eng.len_lst, Eng.len_tup, Eng.len_scr, Eng.tuple_lst, Eng.tuple_tup, Eng.list_lst, Eng.list_tup, Eng.int_int, Eng.int_bl, Eng.max_I, Eng.min_I, Eng.slice_tup, Eng.slice_lst, Eng.at1_0, Eng.at2_0, Eng.at2_1, Eng.at3_0, Eng.at3_1, Eng.at3_2, Eng.at4_0, Eng.at4_1, Eng.at4_2, Eng.at4_3, Bool.not_true, Bool.not_false, Eng.i_int_non, Eng.i_int_int, Eng.i_int_bl, Eng.i_int_str, Eng.i_int_lst, Eng.i_int_tup, Eng.i_int_scr, Eng.i_bool_non, Eng.i_bool_int, Eng.i_bool_bl, Eng.i_bool_str, Eng.i_bool_lst, Eng.i_bool_tup, Eng.i_bool_scr, Eng.i_tuple_non, Eng.i_tuple_int, Eng.i_tuple_bl, Eng.i_tuple_str, Eng.i_tuple_lst, Eng.i_tuple_tup, Eng.i_tuple_scr, Eng.i_str_non, Eng.i_str_int, Eng.i_str_bl, Eng.i_str_str, Eng.i_str_lst, Eng.i_str_tup, Eng.i_str_scr, Eng.i_list_non, Eng.i_list_int, Eng.i_list_bl, Eng.i_list_str, Eng.i_list_lst, Eng.i_list_tup, Eng.i_list_scr, Eng.i_dict_non, Eng.i_dict_int, Eng.i_dict_bl, Eng.i_dict_str, Eng.i_dict_lst, Eng.i_dict_tup, Eng.i_dict_scr, Eng.ev_neg, Eng.kNeg_eq, Eng.ev_dicK, Eng.ev_dicT, Eng.ev_sortset, Eng.kSortset_eq, Eng.ev_mind, Eng.kMind1_eq, Eng.kMind2_eq, Eng.evW_enm, Eng.kEnm_lst, Eng.kEnm_tup, Eng.evW_zip, Eng.kZip1_eq, Eng.kZip2_lst, Eng.kZip2_tup, Eng.evW_rng3, Eng.kRng3a_eq, Eng.kRng3b_eq, Eng.ex_par, Eng.kPar1_eq, Eng.kPar2_eq, Eng.ex_setd, Eng.kSetd_eq, Eng.kSetd1_t, Eng.kSetd2_eq, Eng.pd0, Eng.pt0, Eng.od0, Eng.ot0, Eng.vd0, Eng.vt0, Eng.pd1, Eng.pt1, Eng.od1, Eng.ot1, Eng.vd1, Eng.vt1, Eng.pd2, Eng.pt2, Eng.od2, Eng.ot2, Eng.vd2, Eng.vt2, Eng.pd3, Eng.pt3, Eng.od3, Eng.ot3, Eng.vd3, Eng.vt3, Eng.pd4, Eng.pt4, Eng.od4, Eng.ot4, Eng.vd4, Eng.vt4, Eng.pd5, Eng.pt5, Eng.od5, Eng.ot5, Eng.vd5, Eng.vt5, Eng.pd6, Eng.pt6, Eng.od6, Eng.ot6, Eng.vd6, Eng.vt6, Eng.pd7, Eng.pt7, Eng.od7, Eng.ot7, Eng.vd7, Eng.vt7, Eng.pd8, Eng.pt8, Eng.od8, Eng.ot8, Eng.vd8, Eng.vt8, Eng.vx9, Eng.vo9, Eng.pk9, Eng.po9, Eng.ol9, Eng.rf9, Eng.ro9, Eng.st9, Eng.pd9, Eng.pt9, Eng.od9, Eng.ot9, Eng.vd9, Eng.vt9, Eng.vx10, Eng.vo10, Eng.pk10, Eng.po10, Eng.ol10, Eng.rf10, Eng.ro10, Eng.st10, Eng.pd10, Eng.pt10, Eng.od10, Eng.ot10, Eng.vd10, Eng.vt10, Eng.vx11, Eng.vo11, Eng.pk11, Eng.po11, Eng.ol11, Eng.rf11, Eng.ro11, Eng.st11, Eng.pd11, Eng.pt11, Eng.od11, Eng.ot11, Eng.vd11, Eng.vt11, Eng.vx12, Eng.vo12, Eng.pk12, Eng.po12, Eng.ol12, Eng.rf12, Eng.ro12, Eng.st12, Eng.pd12, Eng.pt12, Eng.od12, Eng.ot12, Eng.vd12, Eng.vt12, Eng.vx13, Eng.vo13, Eng.pk13, Eng.po13, Eng.ol13, Eng.rf13, Eng.ro13, Eng.st13, Eng.pd13, Eng.pt13, Eng.od13, Eng.ot13, Eng.vd13, Eng.vt13, Eng.vx14, Eng.vo14, Eng.pk14, Eng.po14, Eng.ol14, Eng.rf14, Eng.ro14, Eng.st14, Eng.pd14, Eng.pt14, Eng.od14, Eng.ot14, Eng.vd14, Eng.vt14, Eng.vx15, Eng.vo15, Eng.pk15, Eng.po15, Eng.ol15, Eng.rf15, Eng.ro15, Eng.st15, Eng.pd15, Eng.pt15, Eng.od15, Eng.ot15, Eng.vd15, Eng.vt15, Eng.vx16, Eng.vo16, Eng.pk16, Eng.po16, Eng.ol16, Eng.rf16, Eng.ro16, Eng.st16, Eng.pd16, Eng.pt16, Eng.od16, Eng.ot16, Eng.vd16, Eng.vt16, Eng.vx17, Eng.vo17, Eng.pk17, Eng.po17, Eng.ol17, Eng.rf17, Eng.ro17, Eng.st17, Eng.pd17, Eng.pt17, Eng.od17, Eng.ot17, Eng.vd17, Eng.vt17, Eng.vx18, Eng.vo18, Eng.pk18, Eng.po18, Eng.ol18, Eng.rf18, Eng.ro18, Eng.st18, Eng.pd18, Eng.pt18, Eng.od18, Eng.ot18, Eng.vd18, Eng.vt18, Eng.vx19, Eng.vo19, Eng.pk19, Eng.po19, Eng.ol19, Eng.rf19, Eng.ro19, Eng.st19, Eng.pd19, Eng.pt19, Eng.od19, Eng.ot19, Eng.vd19, Eng.vt19])
local macro_rules | `(tactic| walk_at "eng*") => `(tactic| simp -implicitDefEqProofs only [Eng.ev_con, Eng.ev_var, Eng.ev_glo, Eng.ev_bin, Eng.kBin1_eq, Eng.kBin2_eq, Eng.ev_cmp, Eng.kCmp1_eq, Eng.kCmp2_eq, Eng.ev_chain, Eng.kCh1_eq, Eng.kCh2_eq, Eng.kCh3_t, Eng.kCh3_f, Eng.ev_not, Eng.kNot_eq, Eng.ev_and, Eng.kAnd_t, Eng.kAnd_f, Eng.ev_or, Eng.kOr_t, Eng.kOr_f, Eng.ev_ife, Eng.kIfe_t, Eng.kIfe_f, Eng.ev_tup, Eng.kTup_0, Eng.kTup_1, Eng.kTup_2, Eng.kTup_3, Eng.kTup_4, Eng.kTup_5, Eng.kTup_6, Eng.kTup_7, Eng.ev_lst, Eng.kLst_0, Eng.kLst_1, Eng.kLst_2, Eng.kLst_3, Eng.kLst_4, Eng.kLst_5, Eng.kLst_6, Eng.kLst_7, Eng.kLst_8, Eng.kLst_9, Eng.kLst_10, Eng.kLst_11, Eng.kLst_12, Eng.ev_sub, Eng.kSub1_eq, Eng.kSub2_eq, Eng.ev_slice, Eng.kSl1_eq, Eng.kSl2_eq, Eng.kSl3_eq, Eng.ev_call, Eng.kCall_eq, Eng.ev_blt, Eng.kBlt_1, Eng.kBlt_2, Eng.ev_isi, Eng.kIsi_eq, Eng.ev_bltv, Eng.oBlt_some, Eng.ev_subv, Eng.kSubv_some, Eng.kSubv2_eq, Eng.oSub_some, Eng.ev_cmpv, Eng.kCmpv_eq, Eng.oCmp_some, Eng.ev_popv, Eng.kPop_t, Eng.ev_comp, Eng.compOut_ok, Eng.ev_share, Eng.kShare_eq, Eng.ev_listrg, Eng.ev_lenset, Eng.kLenset_eq, Eng.evs_nil, Eng.evs_cons, Eng.kCons1_eq, Eng.kCons2_eq, Eng.evO_omit, Eng.evO_var, Eng.evO_con, Eng.evO_bin, Eng.evO_bltv, Eng.evO_subv, Eng.kO_int, Eng.evC_nil, Eng.evC_one, Eng.evT_not, Eng.kNotT_eq, Eng.evT_and, Eng.kAndT_t, Eng.kAndT_f, Eng.evT_or, Eng.kOrT_t, Eng.kOrT_f, Eng.kTru_eq, Eng.evT_cmp, Eng.evT_chain, Eng.evT_cmpv, Eng.evT_var, Eng.evT_call, Eng.evT_blt, Eng.evT_isi, Eng.evT_bltv, Eng.evT_subv, Eng.evT_sub, Eng.evW_seq, Eng.kSeq_lst, Eng.kSeq_tup, Eng.evW_rng1, Eng.frzX_fz, Eng.frzX_own, Eng.frzX_ex, Eng.frzX_no, Eng.b_ok, Eng.b_ex, Eng.b_no, Eng.l_some, Eng.l_none, Eng.bk_ok, Eng.bk_ex, Eng.bk_no, Eng.t_ok, Eng.t_ex, Eng.t_no, Eng.s_nx, Eng.s_rt, Eng.s_ex, Eng.s_no, Eng.d_nx, Eng.d_rt, Eng.d_ex, Eng.lk_non, Eng.lk_bl, Eng.lk_int, Eng.lk_str, Eng.lk_lst, Eng.lk_tup, Eng.lk_scr, Eng.lk_dic, Eng.tru_bl, Eng.tru_lst, Eng.blF_eq, Eng.om_some, Eng.om_none, Eng.ex_exp, Eng.kNx_eq, Eng.ex_set, Eng.kSet_eq, Eng.ex_asg, Eng.kAsg_eq, Eng.oNx_some, Eng.ex_ret, Eng.kRt_eq, Eng.ex_retN, Eng.ex_cond, Eng.kCond_t, Eng.kCond_f, Eng.ex_loop, Eng.kLoop_eq, Eng.ex_raise, Eng.ex_appv, Eng.kApp_t, Eng.ex_extv, Eng.kExt_t, Eng.ex_setv, Eng.kSetv_eq, Eng.kSetv1_t, Eng.kSetv2_eq, Eng.ex_setr, Eng.kSetr1_eq, Eng.kSetr2_eq, Eng.kSetr3_eq, Eng.ex_pass, Eng.exs_nil, Eng.exs_cons, Eng.ret_con, Eng.ret_bin, Eng.ret_cmp, Eng.ret_chain, Eng.ret_not, Eng.ret_and, Eng.ret_or, Eng.ret_ife, Eng.ret_tup, Eng.ret_lst, Eng.ret_sub, Eng.ret_slice, Eng.ret_call, Eng.ret_blt, Eng.ret_isi, Eng.ret_bltv, Eng.ret_subv, Eng.ret_cmpv, Eng.ret_popv, Eng.ret_comp, Eng.ret_share, Eng.ret_glo, Eng.vx0, Eng.vo0, Eng.pk0, Eng.po0, Eng.ol0, Eng.rf0, Eng.ro0, Eng.st0, Eng.vx1, Eng.vo1, Eng.pk1, Eng.po1, Eng.ol1, Eng.rf1, Eng.ro1, Eng.st1, Eng.vx2, Eng.vo2, Eng.pk2, Eng.po2, Eng.ol2, Eng.rf2, Eng.ro2, Eng.st2, Eng.vx3, Eng.vo3, Eng.pk3, Eng.po3, Eng.ol3, Eng.rf3, Eng.ro3, Eng.st3, Eng.vx4, Eng.vo4, Eng.pk4, Eng.po4, Eng.ol4, Eng.rf4, Eng.ro4, Eng.st4, Eng.vx5, Eng.vo5, Eng.pk5, Eng.po5, Eng.ol5, Eng.rf5, Eng.ro5, Eng.st5, Eng.vx6, Eng.vo6, Eng.pk6, Eng.po6, Eng.ol6, Eng.rf6, Eng.ro6, Eng.st6, Eng.vx7, Eng.vo7, Eng.pk7, Eng.po7, Eng.ol7, Eng.rf7, Eng.ro7, Eng.st7, Eng.vx8, Eng.vo8, Eng.pk8, Eng.po8, Eng.ol8, Eng.rf8, Eng.ro8, Eng.st8, Eng.sub_lst, Eng.sub_tup, Eng.sub_scr, Eng.c_eqI, Eng.c_neI, Eng.c_ltI, Eng.c_leI, Eng.c_gtI, Eng.c_geI, Eng.c_isN, Eng.c_isnN, Eng.b_addI, Eng.b_subI, Eng.len_lst, Eng.len_tup, Eng.len_scr, Eng.tuple_lst, Eng.tuple_tup, Eng.list_lst, Eng.list_tup, Eng.int_int, Eng.int_bl, Eng.max_I, Eng.min_I, Eng.slice_tup, Eng.slice_lst, Eng.at1_0, Eng.at2_0, Eng.at2_1, Eng.at3_0, Eng.at3_1, Eng.at3_2, Eng.at4_0, Eng.at4_1, Eng.at4_2, Eng.at4_3, Bool.not_true, Bool.not_false, Eng.i_int_non, Eng.i_int_int, Eng.i_int_bl, Eng.i_int_str, Eng.i_int_lst, Eng.i_int_tup, Eng.i_int_scr, Eng.i_bool_non, Eng.i_bool_int, Eng.i_bool_bl, Eng.i_bool_str, Eng.i_bool_lst, Eng.i_bool_tup, Eng.i_bool_scr, Eng.i_tuple_non, Eng.i_tuple_int, Eng.i_tuple_bl, Eng.i_tuple_str, Eng.i_tuple_lst, Eng.i_tuple_tup, Eng.i_tuple_scr, Eng.i_str_non, Eng.i_str_int, Eng.i_str_bl, Eng.i_str_str, Eng.i_str_lst, Eng.i_str_tup, Eng.i_str_scr, Eng.i_list_non, Eng.i_list_int, Eng.i_list_bl, Eng.i_list_str, Eng.i_list_lst, Eng.i_list_tup, Eng.i_list_scr, Eng.i_dict_non, Eng.i_dict_int, Eng.i_dict_bl, Eng.i_dict_str, Eng.i_dict_lst, Eng.i_dict_tup, Eng.i_dict_scr, Eng.ev_neg, Eng.kNeg_eq, Eng.ev_dicK, Eng.ev_dicT, Eng.ev_sortset, Eng.kSortset_eq, Eng.ev_mind, Eng.kMind1_eq, Eng.kMind2_eq, Eng.evW_enm, Eng.kEnm_lst, Eng.kEnm_tup, Eng.evW_zip, Eng.kZip1_eq, Eng.kZip2_lst, Eng.kZip2_tup, Eng.evW_rng3, Eng.kRng3a_eq, Eng.kRng3b_eq, Eng.ex_par, Eng.kPar1_eq, Eng.kPar2_eq, Eng.ex_setd, Eng.kSetd_eq, Eng.kSetd1_t, Eng.kSetd2_eq, Eng.pd0, Eng.pt0, Eng.od0, Eng.ot0, Eng.vd0, Eng.vt0, Eng.pd1, Eng.pt1, Eng.od1, Eng.ot1, Eng.vd1, Eng.vt1, Eng.pd2, Eng.pt2, Eng.od2, Eng.ot2, Eng.vd2, Eng.vt2, Eng.pd3, Eng.pt3, Eng.od3, Eng.ot3, Eng.vd3, Eng.vt3, Eng.pd4, Eng.pt4, Eng.od4, Eng.ot4, Eng.vd4, Eng.vt4, Eng.pd5, Eng.pt5, Eng.od5, Eng.ot5, Eng.vd5, Eng.vt5, Eng.pd6, Eng.pt6, Eng.od6, Eng.ot6, Eng.vd6, Eng.vt6, Eng.pd7, Eng.pt7, Eng.od7, Eng.ot7, Eng.vd7, Eng.vt7, Eng.pd8, Eng.pt8, Eng.od8, Eng.ot8, Eng.vd8, Eng.vt8, Eng.vx9, Eng.vo9, Eng.pk9, Eng.po9, Eng.ol9, Eng.rf9, Eng.ro9, Eng.st9, Eng.pd9, Eng.pt9, Eng.od9, Eng.ot9, Eng.vd9, Eng.vt9, Eng.vx10, Eng.vo10, Eng.pk10, Eng.po10, Eng.ol10, Eng.rf10, Eng.ro10, Eng.st10, Eng.pd10, Eng.pt10, Eng.od10, Eng.ot10, Eng.vd10, Eng.vt10, Eng.vx11, Eng.vo11, Eng.pk11, Eng.po11, Eng.ol11, Eng.rf11, Eng.ro11, Eng.st11, Eng.pd11, Eng.pt11, Eng.od11, Eng.ot11, Eng.vd11, Eng.vt11, Eng.vx12, Eng.vo12, Eng.pk12, Eng.po12, Eng.ol12, Eng.rf12, Eng.ro12, Eng.st12, Eng.pd12, Eng.pt12, Eng.od12, Eng.ot12, Eng.vd12, Eng.vt12, Eng.vx13, Eng.vo13, Eng.pk13, Eng.po13, Eng.ol13, Eng.rf13, Eng.ro13, Eng.st13, Eng.pd13, Eng.pt13, Eng.od13, Eng.ot13, Eng.vd13, Eng.vt13, Eng.vx14, Eng.vo14, Eng.pk14, Eng.po14, Eng.ol14, Eng.rf14, Eng.ro14, Eng.st14, Eng.pd14, Eng.pt14, Eng.od14, Eng.ot14, Eng.vd14, Eng.vt14, Eng.vx15, Eng.vo15, Eng.pk15, Eng.po15, Eng.ol15, Eng.rf15, Eng.ro15, Eng.st15, Eng.pd15, Eng.pt15, Eng.od15, Eng.ot15, Eng.vd15, Eng.vt15, Eng.vx16, Eng.vo16, Eng.pk16, Eng.po16, Eng.ol16, Eng.rf16, Eng.ro16, Eng.st16, Eng.pd16, Eng.pt16, Eng.od16, Eng.ot16, Eng.vd16, Eng.vt16, Eng.vx17, Eng.vo17, Eng.pk17, Eng.po17, Eng.ol17, Eng.rf17, Eng.ro17, Eng.st17, Eng.pd17, Eng.pt17, Eng.od17, Eng.ot17, Eng.vd17, Eng.vt17, Eng.vx18, Eng.vo18, Eng.pk18, Eng.po18, Eng.ol18, Eng.rf18, Eng.ro18, Eng.st18, Eng.pd18, Eng.pt18, Eng.od18, Eng.ot18, Eng.vd18, Eng.vt18, Eng.vx19, Eng.vo19, Eng.pk19, Eng.po19, Eng.ol19, Eng.rf19, Eng.ro19, Eng.st19, Eng.pd19, Eng.pt19, Eng.od19, Eng.ot19, Eng.vd19, Eng.vt19, *])

section
/-! Draws: a pen is a list of four numbers in the store. -/
namespace Fn
open PySem L2 Eng
def f_law_pen : Df := ⟨"_law_pen", 1, 1, (.cons (.ret (.share (.lst (.cons (.var 0) (.cons (.blt .int (.cons (.cmp .ge (.var 0) (.bin .pow (.con (.int 10)) (.con (.int 18)))) .nil)) (.cons (.con (.int 0)) (.cons (.bin .mod (.var 0) (.con (.int 1000000007))) .nil))))))) .nil)⟩
def f_law_cell_at : Df := ⟨"_law_cell_at", 2, 2, (.cons (.cond (.cmp .lt (.var 1) (.bltv .len 0)) (.cons (.ret (.subv 0 (.var 1))) .nil) .nil) (.cons (.ret (.con (.int 0))) .nil))⟩
def f_law_draw : Df := ⟨"_law_draw", 2, 4, (.cons (.cond (.and (.cmp .eq (.subv 0 (.con (.int 1))) (.con (.int 1))) (.cmp .gt (.subv 0 (.con (.int 0))) (.con (.int 0)))) (.cons (.set 3 (.bin .mod (.subv 0 (.con (.int 0))) (.var 1))) (.cons (.setr (.var 0) (.con (.int 0)) (.bin .fdiv (.subv 0 (.con (.int 0))) (.var 1))) (.cons (.ret (.var 3)) .nil))) .nil) (.cons (.setr (.var 0) (.con (.int 2)) (.bin .add (.subv 0 (.con (.int 2))) (.con (.int 1)))) (.cons (.set 2 (.bin .mod (.bin .mul (.bin .add (.subv 0 (.con (.int 3))) (.con (.int 17))) (.bin .add (.con (.int 69621)) (.bin .mul (.con (.int 2)) (.subv 0 (.con (.int 2)))))) (.con (.int 2147483647)))) (.cons (.set 2 (.bin .mod (.bin .add (.bin .add (.bin .mul (.var 2) (.var 2)) (.bin .mul (.con (.int 40503)) (.subv 0 (.con (.int 2))))) (.con (.int 5))) (.con (.int 2147483629)))) (.cons (.ret (.bin .mod (.bin .fdiv (.bin .mod (.bin .mul (.var 2) (.con (.int 48271))) (.con (.int 2147483647))) (.con (.int 32))) (.var 1))) .nil)))))⟩
structure HasDraw (P : Str → Option Df) : Prop where
  pen : P "_law_pen" = some f_law_pen
  cell_at : P "_law_cell_at" = some f_law_cell_at
  draw : P "_law_draw" = some f_law_draw
/-- a pen stands at n -/
def PenAt (S : Store) (n : Nat) : Prop := ∃ a g c m : Int, S[n]? = some (.lst [.int a, .int g, .int c, .int m]) ∧ 0 ≤ m ∧ m < 1000000007
/-- the pen at n has moved, nothing else -/
def Moved (n : Nat) (S S' : Store) : Prop := ∃ c, S' = S.set n c
theorem Moved.refl {n : Nat} {S : Store} (h : PenAt S n) : Moved n S S := by
  obtain ⟨a, g, c, m, h, _⟩ := h
  refine ⟨.lst [.int a, .int g, .int c, .int m], ?_⟩
  apply List.ext_getElem?
  intro i
  by_cases e : n = i
  · subst e; rw [List.getElem?_set_self (List.getElem?_eq_some_iff.mp h).1, h]
  · rw [List.getElem?_set_ne e]
theorem Moved.trans {n : Nat} {S S1 S2 : Store} (a : Moved n S S1) (b : Moved n S1 S2) : Moved n S S2 := by
  obtain ⟨c, rfl⟩ := a
  obtain ⟨d, rfl⟩ := b
  exact ⟨d, by rw [List.set_set]⟩
theorem Moved.length {n : Nat} {S S' : Store} (a : Moved n S S') : S'.length = S.length := by
  obtain ⟨c, rfl⟩ := a
  rw [List.length_set]
theorem Moved.other {n k : Nat} {S S' : Store} (a : Moved n S S') (h : n ≠ k) : S'[k]? = S[k]? := by
  obtain ⟨c, rfl⟩ := a
  rw [List.getElem?_set_ne h]
section
variable {P : Str → Option Df} {gl : Str → Option D} {S : Store} {n k : Nat}
theorem setr0 {fr : Eng.Frame} {d x0 x1 x2 x3 : D} (h : S[n]? = some (.lst [x0, x1, x2, x3])) : setrX (.ref n) (.int 0) d fr S = .nx fr (S.set n (.lst [d, x1, x2, x3])) := by
  unfold setrX; simp only [h]; rfl
theorem setr2 {fr : Eng.Frame} {d x0 x1 x2 x3 : D} (h : S[n]? = some (.lst [x0, x1, x2, x3])) : setrX (.ref n) (.int 2) d fr S = .nx fr (S.set n (.lst [x0, x1, d, x3])) := by
  unfold setrX; simp only [h]; rfl
theorem look_set {xs : List D} (h : n < S.length) : look (S.set n (.lst xs)) (.ref n) = .lst xs := look_at (List.getElem?_set_self h)
theorem draw (hP : HasDraw P) (h : PenAt S n) {b : Int} (h0 : 0 < b) (h1 : b < 1073741824) :
    ∃ v S', callN P gl (k + 1) "_law_draw" [.ref n, .int b] S = .ok (.fz (.int v)) S' ∧ 0 ≤ v ∧ v < b ∧ Moved n S S' ∧ PenAt S' n := by
  obtain ⟨a, g, c, m, hs, hm0, hm1⟩ := h
  have hl : n < S.length := (List.getElem?_eq_some_iff.mp hs).1
  have hS : look S (.ref n) = .lst [.int a, .int g, .int c, .int m] := look_at hs
  have hT : ∀ xs, look (S.set n (.lst xs)) (.ref n) = .lst xs := fun xs => look_set hl
  have hm : ∀ i : Int, binD .mod (.int i) (.int b) = some (.fz (.int (i % b))) := fun i => bin_modI h0
  have hd : ∀ i : Int, binD .fdiv (.int i) (.int b) = some (.fz (.int (i / b))) := fun i => bin_fdivI ⟨h0, h1⟩
  have s0 : ∀ fr d, setrX (.ref n) (.int 0) d fr S = .nx fr (S.set n (.lst [d, .int g, .int c, .int m])) := fun fr d => setr0 hs
  have s2 : ∀ fr d, setrX (.ref n) (.int 2) d fr S = .nx fr (S.set n (.lst [.int a, .int g, d, .int m])) := fun fr d => setr2 hs
  rw [callN_run hP.draw rfl]
  show ∃ v S', RS.done (exs (callN P gl k) gl f_law_draw.body [some (.fz (.ref n)), some (.fz (.int b)), none, none] S) = _ ∧ _
  unfold f_law_draw
  have tail : ∃ v S', RS.done (exs (callN P gl k) gl (.cons (.setr (.var 0) (.con (.int 2)) (.bin .add (.subv 0 (.con (.int 2))) (.con (.int 1)))) (.cons (.set 2 (.bin .mod (.bin .mul (.bin .add (.subv 0 (.con (.int 3))) (.con (.int 17))) (.bin .add (.con (.int 69621)) (.bin .mul (.con (.int 2)) (.subv 0 (.con (.int 2)))))) (.con (.int 2147483647)))) (.cons (.set 2 (.bin .mod (.bin .add (.bin .add (.bin .mul (.var 2) (.var 2)) (.bin .mul (.con (.int 40503)) (.subv 0 (.con (.int 2))))) (.con (.int 5))) (.con (.int 2147483629)))) (.cons (.ret (.bin .mod (.bin .fdiv (.bin .mod (.bin .mul (.var 2) (.con (.int 48271))) (.con (.int 2147483647))) (.con (.int 32))) (.var 1))) .nil)))) [some (.fz (.ref n)), some (.fz (.int b)), none, none] S) = .ok (.fz (.int v)) S' ∧ 0 ≤ v ∧ v < b ∧ Moved n S S' ∧ PenAt S' n := by
    have m1 : binD .mul (.int 2) (.int (c + 1)) = some (.fz (.int (2 * (c + 1)))) := bin_mulI (Or.inl (by omega))
    have m2 : ∀ z : Int, binD .mul (.int (m + 17)) (.int z) = some (.fz (.int ((m + 17) * z))) := fun z => bin_mulI (Or.inl (by omega))
    have m3 : ∀ z : Int, binD .mod (.int z) (.int 2147483647) = some (.fz (.int (z % 2147483647))) := fun z => bin_modI (by omega)
    have m4 : ∀ z y : Int, binD .mul (.int (z % 2147483647)) (.int y) = some (.fz (.int ((z % 2147483647) * y))) := fun z y => bin_mulI (Or.inl (by omega))
    have m5 : ∀ z : Int, binD .mul (.int 40503) (.int z) = some (.fz (.int (40503 * z))) := fun z => bin_mulI (Or.inl (by omega))
    have m6 : ∀ z : Int, binD .mod (.int z) (.int 2147483629) = some (.fz (.int (z % 2147483629))) := fun z => bin_modI (by omega)
    have m7 : ∀ z y : Int, binD .mul (.int (z % 2147483629)) (.int y) = some (.fz (.int ((z % 2147483629) * y))) := fun z y => bin_mulI (Or.inl (by omega))
    have m8 : ∀ z : Int, binD .fdiv (.int z) (.int 32) = some (.fz (.int (z / 32))) := fun z => bin_fdivI (by omega)
    walk_at "eng*"
    refine ⟨_, _, rfl, Int.emod_nonneg _ (by omega), Int.emod_lt_of_pos _ h0, ⟨_, rfl⟩, ⟨a, g, c + 1, m, List.getElem?_set_self hl, hm0, hm1⟩⟩
  by_cases e1 : (g == 1) = true
  · by_cases e2 : decide (0 < a) = true
    · clear tail
      walk_at "eng*"
      refine ⟨_, _, rfl, Int.emod_nonneg _ (by omega), Int.emod_lt_of_pos _ h0, ⟨_, rfl⟩, ⟨_, g, c, m, List.getElem?_set_self hl, hm0, hm1⟩⟩
    · have e2 := eq_false_of_ne_true e2
      rw [exs_cons]
      have : ex (callN P gl k) gl (.cond (.and (.cmp .eq (.subv 0 (.con (.int 1))) (.con (.int 1))) (.cmp .gt (.subv 0 (.con (.int 0))) (.con (.int 0)))) (.cons (.set 3 (.bin .mod (.subv 0 (.con (.int 0))) (.var 1))) (.cons (.setr (.var 0) (.con (.int 0)) (.bin .fdiv (.subv 0 (.con (.int 0))) (.var 1))) (.cons (.ret (.var 3)) .nil))) .nil) [some (.fz (.ref n)), some (.fz (.int b)), none, none] S = .nx [some (.fz (.ref n)), some (.fz (.int b)), none, none] S := by
        clear tail
        walk_at "eng*"
      rw [this]; exact tail
  · have e1 := eq_false_of_ne_true e1
    rw [exs_cons]
    have : ex (callN P gl k) gl (.cond (.and (.cmp .eq (.subv 0 (.con (.int 1))) (.con (.int 1))) (.cmp .gt (.subv 0 (.con (.int 0))) (.con (.int 0)))) (.cons (.set 3 (.bin .mod (.subv 0 (.con (.int 0))) (.var 1))) (.cons (.setr (.var 0) (.con (.int 0)) (.bin .fdiv (.subv 0 (.con (.int 0))) (.var 1))) (.cons (.ret (.var 3)) .nil))) .nil) [some (.fz (.ref n)), some (.fz (.int b)), none, none] S = .nx [some (.fz (.ref n)), some (.fz (.int b)), none, none] S := by
      clear tail
      walk_at "eng*"
    rw [this]; exact tail
end
end Fn
end

section
/-! Deals: what each function comes to. -/
namespace Fn
open PySem L2 Eng
def f_is_whole : Df := ⟨"is_whole", 1, 1, (.cons (.ret (.and (.isi .int (.var 0)) (.not (.isi .bool (.var 0))))) .nil)⟩
def f_is_from : Df := ⟨"is_from", 3, 3, (.cons (.ret (.and (.call "is_whole" (.cons (.var 0) .nil)) (.chain .le .le (.var 1) (.var 0) (.var 2)))) .nil)⟩
def f_are_owners : Df := ⟨"are_owners", 1, 2, (.cons (.cond (.or (.not (.isi .tuple (.var 0))) (.not (.chain .le .le (.con (.int 1)) (.bltv .len 0) (.glo "MOST_STAMPS")))) (.cons (.ret (.con (.bl false))) .nil) .nil) (.cons (.ret (.blt .all (.cons (.comp (.call "is_from" (.cons (.var 1) (.cons (.con (.int 0)) (.cons (.glo "MOST_OWNER") .nil)))) (.nm 1) (.seq (.var 0)) .nil) .nil))) .nil))⟩
def f_is_move : Df := ⟨"is_move", 2, 2, (.cons (.cond (.or (.not (.isi .tuple (.var 1))) (.or (.cmp .ne (.bltv .len 1) (.con (.int 3))) (.not (.call "is_from" (.cons (.subv 1 (.con (.int 0))) (.cons (.con (.int 0)) (.cons (.bin .sub (.var 0) (.con (.int 1))) .nil))))))) (.cons (.ret (.con (.bl false))) .nil) .nil) (.cons (.ret (.and (.call "is_from" (.cons (.subv 1 (.con (.int 1))) (.cons (.con (.int 0)) (.cons (.glo "MOST_OWNER") .nil)))) (.and (.call "is_from" (.cons (.subv 1 (.con (.int 2))) (.cons (.con (.int 0)) (.cons (.glo "MOST_OWNER") .nil)))) (.cmp .ne (.subv 1 (.con (.int 1))) (.subv 1 (.con (.int 2))))))) .nil))⟩
def f_is_deal : Df := ⟨"is_deal", 2, 3, (.cons (.cond (.or (.not (.isi .tuple (.var 1))) (.not (.chain .le .le (.con (.int 1)) (.bltv .len 1) (.glo "MOST_MOVES")))) (.cons (.ret (.con (.bl false))) .nil) .nil) (.cons (.cond (.not (.blt .all (.cons (.comp (.call "is_move" (.cons (.var 0) (.cons (.var 2) .nil))) (.nm 2) (.seq (.var 1)) .nil) .nil))) (.cons (.ret (.con (.bl false))) .nil) .nil) (.cons (.ret (.cmp .eq (.lenset (.comp (.subv 2 (.con (.int 0))) (.nm 2) (.seq (.var 1)) .nil)) (.bltv .len 1))) .nil)))⟩
def f_done : Df := ⟨"done", 2, 6, (.cons (.cond (.not (.blt .all (.cons (.comp (.cmpv .eq (.subv 0 (.var 3)) 4) (.tp (.cons (.nm 3) (.cons (.nm 4) (.cons (.nm 5) .nil)))) (.seq (.var 1)) .nil) .nil))) (.cons (.ret (.con .non)) .nil) .nil) (.cons (.set 2 (.bltv .list 0)) (.cons (.loop (.tp (.cons (.nm 3) (.cons (.nm 4) (.cons (.nm 5) .nil)))) (.seq (.var 1)) (.cons (.setv 2 (.var 3) (.var 5)) .nil)) (.cons (.ret (.bltv .tuple 2)) .nil))))⟩
def f_all_done : Df := ⟨"all_done", 2, 3, (.cons (.loop (.nm 2) (.seq (.var 1)) (.cons (.set 0 (.call "done" (.cons (.var 0) (.cons (.var 2) .nil)))) (.cons (.cond (.cmp .isN (.var 0) (.con .non)) (.cons (.ret (.con .non)) .nil) .nil) .nil))) (.cons (.ret (.var 0)) .nil))⟩
def f_need_deals : Df := ⟨"need_deals", 2, 3, (.cons (.cond (.not (.call "are_owners" (.cons (.var 0) .nil))) (.cons (.raise "NoOwners") .nil) .nil) (.cons (.cond (.or (.not (.isi .tuple (.var 1))) (.cmp .gt (.bltv .len 1) (.glo "MOST_DEALS"))) (.cons (.raise "NoDeals") .nil) .nil) (.cons (.cond (.or (.not (.blt .all (.cons (.comp (.call "is_deal" (.cons (.bltv .len 0) (.cons (.var 2) .nil))) (.nm 2) (.seq (.var 1)) .nil) .nil))) (.cmp .isN (.call "all_done" (.cons (.var 0) (.cons (.var 1) .nil))) (.con .non))) (.cons (.raise "NoDeals") .nil) .nil) .nil)))⟩
def f_need_within : Df := ⟨"need_within", 2, 2, (.cons (.cond (.not (.call "is_from" (.cons (.var 0) (.cons (.con (.int 0)) (.cons (.var 1) .nil))))) (.cons (.raise "NoNumber") .nil) .nil) .nil)⟩
def f_owners_behind : Df := ⟨"owners_behind", 3, 3, (.cons (.exp (.call "need_deals" (.cons (.var 0) (.cons (.var 1) .nil)))) (.cons (.exp (.call "need_within" (.cons (.var 2) (.cons (.bltv .len 1) .nil)))) (.cons (.ret (.call "all_done" (.cons (.var 0) (.cons (.slice (.var 1) .omit (.var 2)) .nil)))) .nil)))⟩
structure HasFrom (P : Str → Option Df) : Prop where
  is_whole : P "is_whole" = some f_is_whole
  is_from : P "is_from" = some f_is_from
structure HasDeals (P : Str → Option Df) (gl : Str → Option D) : Prop extends HasFrom P where
  are_owners : P "are_owners" = some f_are_owners
  is_move : P "is_move" = some f_is_move
  is_deal : P "is_deal" = some f_is_deal
  done : P "done" = some f_done
  all_done : P "all_done" = some f_all_done
  need_deals : P "need_deals" = some f_need_deals
  need_within : P "need_within" = some f_need_within
  g1 : gl "MOST_STAMPS" = some (.int 12)
  g2 : gl "MOST_OWNER" = some (.int 5)
  g3 : gl "MOST_DEALS" = some (.int 10)
  g4 : gl "MOST_MOVES" = some (.int 6)
/-- not a number of the store -/
def nr (d : D) : Prop := ∀ n, d ≠ .ref n
def wholeD : D → Bool
  | .int _ => true
  | _ => false
def fromD (lo hi : Int) : D → Bool
  | .int i => decide (lo ≤ i) && decide (i ≤ hi)
  | _ => false
section
variable {P : Str → Option Df} {gl : Str → Option D} {S : Store} {n : Nat}
theorem is_whole (hP : HasFrom P) (hn : 1 ≤ n) {d : D} (hd : nr d) : callN P gl n "is_whole" [d] S = .ok (.fz (.bl (wholeD d))) S := by
  obtain ⟨k, rfl⟩ : ∃ k, n = k + 1 := ⟨n - 1, by omega⟩
  rw [callN_run hP.is_whole rfl]
  show RS.done (exs (callN P gl k) gl f_is_whole.body [some (.fz d)] S) = _
  unfold f_is_whole
  cases d with
  | ref m => exact absurd rfl (hd m)
  | _ => rfl
theorem is_from (hP : HasFrom P) (hn : 2 ≤ n) {d : D} (hd : nr d) {lo hi : Int} : callN P gl n "is_from" [d, .int lo, .int hi] S = .ok (.fz (.bl (fromD lo hi d))) S := by
  obtain ⟨k, rfl⟩ : ∃ k, n = k + 1 := ⟨n - 1, by omega⟩
  rw [callN_run hP.is_from rfl]
  show RS.done (exs (callN P gl k) gl f_is_from.body [some (.fz d), some (.fz (.int lo)), some (.fz (.int hi))] S) = _
  unfold f_is_from
  have h1 := is_whole (gl := gl) (S := S) hP (n := k) (by omega) hd
  cases d with
  | ref m => exact absurd rfl (hd m)
  | int i =>
    replace h1 : callN P gl k "is_whole" [.int i] S = .ok (.fz (.bl true)) S := h1
    walk_at "eng*"
    cases e : decide (lo ≤ i) with
    | true =>
      have e2 : lo ≤ i := of_decide_eq_true e
      walk_at "eng*"
      simp [fromD, e2]
    | false =>
      have e2 : ¬ lo ≤ i := of_decide_eq_false e
      walk_at "eng*"
      simp [fromD, e2]
  | _ =>
    simp only [wholeD] at h1
    walk_at "eng*"
    rfl

def ownD (o : List Int) : D := .tup (o.map .int)
abbrev Mv := Nat × Int × Int
def mvD (m : Mv) : D := .tup [.int m.1, .int m.2.1, .int m.2.2]
def dealD (ms : List Mv) : D := .tup (ms.map mvD)
def dealsD (ds : List (List Mv)) : D := .tup (ds.map dealD)
def okOwn (o : List Int) : Prop := 1 ≤ o.length ∧ o.length ≤ 12 ∧ ∀ x ∈ o, 0 ≤ x ∧ x ≤ 5
def okMv (L : Nat) (m : Mv) : Prop := m.1 < L ∧ (0 ≤ m.2.1 ∧ m.2.1 ≤ 5) ∧ (0 ≤ m.2.2 ∧ m.2.2 ≤ 5) ∧ m.2.1 ≠ m.2.2
def okDeal (L : Nat) (ms : List Mv) : Prop := 1 ≤ ms.length ∧ ms.length ≤ 6 ∧ (∀ m ∈ ms, okMv L m) ∧ (ms.map (·.1)).Nodup
def areOwnersD : D → Bool
  | .tup xs => decide (1 ≤ (xs.length : Int)) && (decide ((xs.length : Int) ≤ 12) && xs.all (fromD 0 5))
  | _ => false
theorem small12 : (12 : Nat) ≤ sizeLine := by decide
theorem are_owners (hP : HasDeals P gl) (hn : 3 ≤ n) {d : D} (hd : nr d) (hx : ∀ xs, d = .tup xs → ∀ x ∈ xs, nr x) : callN P gl n "are_owners" [d] S = .ok (.fz (.bl (areOwnersD d))) S := by
  obtain ⟨k, rfl⟩ : ∃ k, n = k + 1 := ⟨n - 1, by omega⟩
  rw [callN_run hP.are_owners rfl]
  show RS.done (exs (callN P gl k) gl f_are_owners.body [some (.fz d), none] S) = _
  unfold f_are_owners
  have g1 := hP.g1
  have g2 := hP.g2
  cases d with
  | ref m => exact absurd rfl (hd m)
  | tup xs =>
    have i1 : isD .tuple (.tup xs) = some true := rfl
    walk_at "eng*"
    cases e : decide (1 ≤ (xs.length : Int)) with
    | false =>
      walk_at "eng*"
      simp only [areOwnersD, e, Bool.false_and]
    | true =>
      walk_at "eng*"
      cases e2 : decide ((xs.length : Int) ≤ 12) with
      | false =>
        walk_at "eng*"
        simp only [areOwnersD, e, e2, Bool.false_and, Bool.true_and]
      | true =>
        have e3 : (xs.length : Int) ≤ 12 := of_decide_eq_true e2
        simp only [areOwnersD, e, e2, Bool.false_and, Bool.true_and, Bool.not_false, Bool.not_true]
        walk_at "eng*"
        rw [kComp_ok (frw := [some (.fz (.tup xs)), none]) (acc := xs.map fun d => .bl (fromD 0 5 d)) (fr' := [some (.fz (.tup xs)), none]) (S' := S) (fr2 := [some (.fz (.tup xs)), none])]
        · have a1 := all_map (fromD 0 5) xs
          walk_at "eng*"
        · rfl
        · rfl
        · refine comp_map (Nat.le_trans (by omega) small12) fun d hd => ⟨[some (.fz (.tup xs)), some (.fz d)], rfl, rfl, ?_, rfl⟩
          have h1 := is_from (gl := gl) (S := S) hP.toHasFrom (n := k) (by omega) (hx xs rfl d hd) (lo := 0) (hi := 5)
          unfold eltX
          walk_at "eng*"
        · rfl
  | _ => rfl
theorem is_move (hP : HasDeals P gl) (hn : 3 ≤ n) {L : Nat} {m : Mv} (h : okMv L m) : callN P gl n "is_move" [.int L, mvD m] S = .ok (.fz (.bl true)) S := by
  obtain ⟨k, rfl⟩ : ∃ k, n = k + 1 := ⟨n - 1, by omega⟩
  obtain ⟨s, g, t⟩ := m
  obtain ⟨h1, h2, h3, h4⟩ := h
  have g2 := hP.g2
  rw [callN_run hP.is_move rfl]
  show RS.done (exs (callN P gl k) gl f_is_move.body [some (.fz (.int L)), some (.fz (.tup [.int s, .int g, .int t]))] S) = _
  unfold f_is_move
  have f : ∀ (i lo hi : Int), callN P gl k "is_from" [.int i, .int lo, .int hi] S = .ok (.fz (.bl (fromD lo hi (.int i)))) S := fun i lo hi => is_from hP.toHasFrom (by omega) (fun _ e => by cases e)
  have i1 : isD .tuple (.tup [.int s, .int g, .int t]) = some true := rfl
  have e1 : fromD 0 ((L : Int) - 1) (.int (s : Nat)) = true := by
    have : s < L := h1
    simp [fromD]; omega
  have e2 : fromD 0 5 (.int g) = true := by simp [fromD]; exact h2
  have e3 : fromD 0 5 (.int t) = true := by simp [fromD]; exact h3
  have e4 : (g == t) = false := by simpa using h4
  have e5 : ((([D.int s, D.int g, D.int t].length : Nat) : Int) == 3) = true := rfl
  clear h1 h2 h3 h4
  walk_at "eng*"
theorem is_deal (hP : HasDeals P gl) (hn : 4 ≤ n) {L : Nat} {ms : List Mv} (h : okDeal L ms) : callN P gl n "is_deal" [.int L, dealD ms] S = .ok (.fz (.bl true)) S := by
  obtain ⟨k, rfl⟩ : ∃ k, n = k + 1 := ⟨n - 1, by omega⟩
  obtain ⟨h1, h2, h3, h4⟩ := h
  have g4 := hP.g4
  rw [callN_run hP.is_deal rfl]
  show RS.done (exs (callN P gl k) gl f_is_deal.body [some (.fz (.int L)), some (.fz (.tup (ms.map mvD))), none] S) = _
  unfold f_is_deal
  have i1 : isD .tuple (.tup (ms.map mvD)) = some true := rfl
  have e1 : decide (1 ≤ (((ms.map mvD).length : Nat) : Int)) = true := by rw [List.length_map]; exact decide_eq_true (by omega)
  have e2 : decide ((((ms.map mvD).length : Nat) : Int) ≤ 6) = true := by rw [List.length_map]; exact decide_eq_true (by omega)
  have sl : (ms.map mvD).length ≤ sizeLine := by rw [List.length_map]; exact Nat.le_trans (by omega) small12
  walk_at "eng*"
  rw [kComp_ok (frw := [some (.fz (.int L)), some (.fz (.tup (ms.map mvD))), none]) (acc := (ms.map mvD).map fun d => .bl true) (fr' := [some (.fz (.int L)), some (.fz (.tup (ms.map mvD))), none]) (S' := S) (fr2 := [some (.fz (.int L)), some (.fz (.tup (ms.map mvD))), none])]
  · have a1 := all_map (fun _ => true) (ms.map mvD)
    have a2 : (ms.map mvD).all (fun _ => true) = true := by simp
    walk_at "eng*"
    rw [kComp_ok (frw := [some (.fz (.int L)), some (.fz (.tup (ms.map mvD))), none]) (acc := (ms.map fun m => (m.1 : Int)).map D.int) (fr' := [some (.fz (.int L)), some (.fz (.tup (ms.map mvD))), none]) (S' := S) (fr2 := [some (.fz (.int L)), some (.fz (.tup (ms.map mvD))), none])]
    · have nd : (ms.map fun m => (m.1 : Int)).Nodup := by
        have := List.Pairwise.map (S := fun a b : Int => a ≠ b) (fun n : Nat => (n : Int)) (fun a b hab e => hab (Int.ofNat.inj e)) h4
        rwa [List.map_map] at this
      have ls := lenset_int nd (by rw [List.length_map]; omega)
      rw [List.length_map] at ls
      have lm : (ms.map mvD).length = ms.length := List.length_map ..
      clear i1 e1 e2 sl a1 a2 h3
      walk_at "eng*"
      simp only [beq_self_eq_true]
    · rfl
    · rfl
    · have : (ms.map fun m => (m.1 : Int)).map D.int = (ms.map mvD).map fun d => (subD d (.int 0)).getD .non := by
        rw [List.map_map, List.map_map]; rfl
      rw [this]
      refine comp_map sl fun d hd => ⟨[some (.fz (.int L)), some (.fz (.tup (ms.map mvD))), some (.fz d)], rfl, rfl, ?_, rfl⟩
      obtain ⟨m, hm, rfl⟩ := List.mem_map.mp hd
      rfl
    · rfl
  · rfl
  · rfl
  · refine comp_map sl fun d hd => ⟨[some (.fz (.int L)), some (.fz (.tup (ms.map mvD))), some (.fz d)], rfl, rfl, ?_, rfl⟩
    obtain ⟨m, hm, rfl⟩ := List.mem_map.mp hd
    have h5 := is_move (S := S) hP (n := k) (by omega) (h3 m hm)
    unfold eltX
    walk_at "eng*"
  · rfl
end
end Fn
end

section
/-! Deals: done, behind. -/
namespace Fn
open PySem L2 Eng
def f_law_behind : Df := ⟨"_law_behind", 2, 7, (.cons (.set 2 (.bltv .list 0)) (.cons (.loop (.nm 3) (.seq (.var 1)) (.cons (.cond (.cmp .ne (.comp (.con (.int 1)) (.tp (.cons (.nm 4) (.cons (.nm 5) (.cons (.nm 6) .nil)))) (.seq (.var 3)) (.cons (.cmpv .ne (.subv 2 (.var 4)) 5) .nil)) (.lst .nil)) (.cons (.ret (.con .non)) .nil) .nil) (.cons (.loop (.tp (.cons (.nm 4) (.cons (.nm 5) (.cons (.nm 6) .nil)))) (.seq (.var 3)) (.cons (.setv 2 (.var 4) (.var 6)) .nil)) .nil))) (.cons (.ret (.bltv .tuple 2)) .nil)))⟩
def f_law_owners : Df := ⟨"_law_owners", 1, 3, (.cons (.set 1 (.sub (.lst (.cons (.bin .add (.con (.int 1)) (.call "_law_draw" (.cons (.var 0) (.cons (.con (.int 3)) .nil)))) (.cons (.bin .add (.con (.int 1)) (.call "_law_draw" (.cons (.var 0) (.cons (.con (.int 12)) .nil)))) .nil))) (.call "_law_draw" (.cons (.var 0) (.cons (.con (.int 2)) .nil))))) (.cons (.ret (.blt .tuple (.cons (.comp (.call "_law_draw" (.cons (.var 0) (.cons (.bin .add (.con (.int 2)) (.call "_law_draw" (.cons (.var 0) (.cons (.con (.int 5)) .nil)))) .nil))) (.nm 2) (.rng1 (.var 1)) .nil) .nil))) .nil))⟩
def f_law_mixed : Df := ⟨"_law_mixed", 2, 4, (.cons (.set 2 (.bltv .list 1)) (.cons (.ret (.comp (.popv 2 (.call "_law_draw" (.cons (.var 0) (.cons (.bltv .len 2) .nil)))) (.nm 3) (.rng1 (.bltv .len 2)) .nil)) .nil))⟩
def f_law_deal : Df := ⟨"_law_deal", 2, 5, (.cons (.set 2 (.slice (.call "_law_mixed" (.cons (.var 0) (.cons (.listrg (.bltv .len 1)) .nil))) .omit (.bin .add (.con (.int 1)) (.call "_law_draw" (.cons (.var 0) (.cons (.sub (.lst (.cons (.con (.int 2)) (.cons (.con (.int 6)) .nil))) (.call "_law_draw" (.cons (.var 0) (.cons (.con (.int 2)) .nil)))) .nil)))))) (.cons (.set 3 (.lst .nil)) (.cons (.loop (.nm 4) (.seq (.var 2)) (.cons (.appv 3 (.tup (.cons (.var 4) (.cons (.subv 1 (.var 4)) (.cons (.bin .mod (.bin .add (.bin .add (.subv 1 (.var 4)) (.con (.int 1))) (.call "_law_draw" (.cons (.var 0) (.cons (.con (.int 5)) .nil)))) (.con (.int 6))) .nil))))) .nil)) (.cons (.ret (.bltv .tuple 3)) .nil))))⟩
def f_law_deals : Df := ⟨"_law_deals", 3, 5, (.cons (.set 3 (.tup .nil)) (.cons (.loop (.nm 4) (.rng1 (.call "_law_draw" (.cons (.var 0) (.cons (.bin .add (.var 2) (.con (.int 1))) .nil)))) (.cons (.set 3 (.bin .add (.var 3) (.tup (.cons (.call "_law_deal" (.cons (.var 0) (.cons (.call "_law_behind" (.cons (.var 1) (.cons (.var 3) .nil))) .nil))) .nil)))) .nil)) (.cons (.ret (.var 3)) .nil)))⟩

theorem ixN_lt {n j : Nat} (hj : j < n) : ixN n (j : Int) = some j := by
  unfold ixN
  rw [if_pos (by omega), if_pos (by omega)]; rfl
theorem cut_take {xs : List D} (m : Nat) : cutD xs none (some (m : Int)) = xs.take m := by
  unfold cutD
  rw [HT.sIx_none, HT.sIx_nat, List.drop_zero, Nat.sub_zero]
  by_cases h : m ≤ xs.length
  · rw [Nat.min_eq_left h]
  · rw [Nat.min_eq_right (by omega), List.take_length, List.take_of_length_le (by omega)]
theorem setX_at {i j : Nat} {k : Int} {fr : Eng.Frame} {xs : List D} {d : D} {S : Store} (h : fr[i]? = some (some (.own (.lst xs)))) (hj : ixN xs.length k = some j) : setX i (.int k) d fr S = .nx (fr.set i (some (.own (.lst (xs.set j d))))) S := by
  unfold setX; simp only [h, hj]
def holds (o : List Int) (m : Mv) : Bool := o[m.1]? == some m.2.1
def putM (o : List Int) (m : Mv) : List Int := o.set m.1 m.2.2
def doneF (o : List Int) (ms : List Mv) : Option (List Int) := if ms.all (holds o) then some (ms.foldl putM o) else none
def allDone : List Int → List (List Mv) → Option (List Int)
  | o, [] => some o
  | o, d :: ds => match doneF o d with | none => none | some o' => allDone o' ds
def optD : Option (List Int) → D
  | none => .non
  | some o => ownD o
theorem putM_len (o : List Int) (m : Mv) : (putM o m).length = o.length := List.length_set ..
theorem puts_len (ms : List Mv) (o : List Int) : (ms.foldl putM o).length = o.length := by
  induction ms generalizing o with
  | nil => rfl
  | cons m ms ih => rw [List.foldl_cons, ih, putM_len]
theorem doneF_len {o o' : List Int} {ms : List Mv} (h : doneF o ms = some o') : o'.length = o.length := by
  unfold doneF at h
  split at h
  · cases h; exact puts_len ms o
  · cases h
def holdsD (o : List Int) : D → Bool
  | .tup [.int s, .int g, _] => o[s.toNat]? == some g
  | _ => false
section
variable {P : Str → Option Df} {gl : Str → Option D} {S : Store} {n : Nat} {cf : CF}
theorem own_at {o : List Int} {j : Nat} {x : Int} (h : o[j]? = some x) : atD (o.map D.int) (j : Int) = some (.int x) := atD_nat rfl (by rw [List.getElem?_map, h]; rfl)
theorem done_loop {x0 x1 : Option Val} : (ms : List Mv) → (cur : List Int) → (a b c : Option Val) → (∀ m ∈ ms, m.1 < cur.length) →
    ∃ a' b' c', loopGo (.tp (.cons (.nm 3) (.cons (.nm 4) (.cons (.nm 5) .nil)))) (exs cf gl (.cons (.setv 2 (.var 3) (.var 5)) .nil)) (ms.map mvD) [x0, x1, some (.own (.lst (cur.map .int))), a, b, c] S = .nx [x0, x1, some (.own (.lst ((ms.foldl putM cur).map .int))), a', b', c'] S
  | [], cur, a, b, c, _ => ⟨a, b, c, rfl⟩
  | m :: ms, cur, a, b, c, h => by
    obtain ⟨s, g, t⟩ := m
    have hs : s < cur.length := h _ (List.mem_cons_self ..)
    have e : exs cf gl (.cons (.setv 2 (.var 3) (.var 5)) .nil) [x0, x1, some (.own (.lst (cur.map .int))), some (.fz (.int s)), some (.fz (.int g)), some (.fz (.int t))] S = .nx [x0, x1, some (.own (.lst ((putM cur (s, g, t)).map .int))), some (.fz (.int s)), some (.fz (.int g)), some (.fz (.int t))] S := by
      have e1 : ∀ fr : Eng.Frame, fr[2]? = some (some (.own (.lst (cur.map .int)))) → setX 2 (.int (s : Nat)) (.int t) fr S = .nx (fr.set 2 (some (.own (.lst ((cur.map D.int).set s (.int t)))))) S := fun fr hf => setX_at hf (ixN_lt (by rw [List.length_map]; exact hs))
      walk_at "eng"
      rw [e1 _ rfl]
      walk_at "eng"
      rw [← List.map_set]; rfl
    rw [List.map_cons, loop_step (fr1 := [x0, x1, some (.own (.lst (cur.map .int))), some (.fz (.int s)), some (.fz (.int g)), some (.fz (.int t))]) rfl e]
    exact done_loop ms (putM cur (s, g, t)) _ _ _ (fun m hm => by rw [putM_len]; exact h m (List.mem_cons_of_mem _ hm))
theorem done (hP : HasDeals P gl) (hn : 1 ≤ n) {o : List Int} {ms : List Mv} (hm : ∀ m ∈ ms, m.1 < o.length) (hl : ms.length ≤ 6) : callN P gl n "done" [ownD o, dealD ms] S = .ok (.fz (optD (doneF o ms))) S := by
  obtain ⟨k, rfl⟩ : ∃ k, n = k + 1 := ⟨n - 1, by omega⟩
  rw [callN_run hP.done rfl]
  show RS.done (exs (callN P gl k) gl f_done.body [some (.fz (.tup (o.map .int))), some (.fz (.tup (ms.map mvD))), none, none, none, none] S) = _
  unfold f_done
  have sl : (ms.map mvD).length ≤ sizeLine := by rw [List.length_map]; exact Nat.le_trans (by omega) small12
  walk_at "eng"
  rw [kComp_ok (frw := [some (.fz (.tup (o.map .int))), some (.fz (.tup (ms.map mvD))), none, none, none, none]) (acc := (ms.map mvD).map fun d => .bl (holdsD o d)) (fr' := [some (.fz (.tup (o.map .int))), some (.fz (.tup (ms.map mvD))), none, none, none, none]) (S' := S) (fr2 := [some (.fz (.tup (o.map .int))), some (.fz (.tup (ms.map mvD))), none, none, none, none])]
  · have a1 := all_map (holdsD o) (ms.map mvD)
    have a2 : (ms.map mvD).all (holdsD o) = ms.all (holds o) := by rw [List.all_map]; rfl
    rw [a2] at a1
    walk_at "eng"
    rw [a1]
    walk_at "eng"
    unfold doneF
    cases e : ms.all (holds o) with
    | false => walk_at "eng"; rfl
    | true =>
      walk_at "eng"
      obtain ⟨a, b, c, h⟩ := done_loop (cf := callN P gl k) (gl := gl) (S := S) (x0 := some (.fz (.tup (o.map .int)))) (x1 := some (.fz (.tup (ms.map mvD)))) ms o none none none hm
      rw [h]
      walk_at "eng"
      rfl
  · rfl
  · rfl
  · refine comp_map sl fun d hd => ?_
    obtain ⟨⟨s, g, t⟩, hm', rfl⟩ := List.mem_map.mp hd
    refine ⟨[some (.fz (.tup (o.map .int))), some (.fz (.tup (ms.map mvD))), none, some (.fz (.int s)), some (.fz (.int g)), some (.fz (.int t))], rfl, rfl, ?_, rfl⟩
    have hs : s < o.length := hm _ hm'
    have e0 : o[s]? = some o[s] := List.getElem?_eq_getElem hs
    have e1 := own_at e0
    have e2 : holdsD o (mvD (s, g, t)) = (o[s] == g) := by
      show (o[(s : Int).toNat]? == some g) = _
      rw [Int.toNat_natCast, e0]; rfl
    rw [e2]
    clear e0 e2
    unfold eltX
    walk_at "eng*"
  · rfl
theorem all_done_loop (hP : HasDeals P gl) (hn : 1 ≤ n) {x1 : Option Val} : (ds : List (List Mv)) → (o : List Int) → (a : Option Val) → (∀ ms ∈ ds, (∀ m ∈ ms, m.1 < o.length) ∧ ms.length ≤ 6) →
    (∃ a' o', allDone o ds = some o' ∧ loopGo (.nm 2) (exs (callN P gl n) gl (.cons (.set 0 (.call "done" (.cons (.var 0) (.cons (.var 2) .nil)))) (.cons (.cond (.cmp .isN (.var 0) (.con .non)) (.cons (.ret (.con .non)) .nil) .nil) .nil))) (ds.map dealD) [some (.fz (ownD o)), x1, a] S = .nx [some (.fz (ownD o')), x1, a'] S) ∨
    (∃ fr', allDone o ds = none ∧ loopGo (.nm 2) (exs (callN P gl n) gl (.cons (.set 0 (.call "done" (.cons (.var 0) (.cons (.var 2) .nil)))) (.cons (.cond (.cmp .isN (.var 0) (.con .non)) (.cons (.ret (.con .non)) .nil) .nil) .nil))) (ds.map dealD) [some (.fz (ownD o)), x1, a] S = .rt (.fz .non) fr' S)
  | [], o, a, _ => .inl ⟨a, o, rfl, rfl⟩
  | ms :: ds, o, a, h => by
    have hd := done (S := S) hP hn (h ms (List.mem_cons_self ..)).1 (h ms (List.mem_cons_self ..)).2
    have ea : allDone o (ms :: ds) = match doneF o ms with | none => none | some o' => allDone o' ds := rfl
    cases e : doneF o ms with
    | none =>
      rw [e] at hd ea
      refine .inr ⟨[some (.fz .non), x1, some (.fz (dealD ms))], ea, ?_⟩
      rw [List.map_cons]
      refine loop_rt (fr1 := [some (.fz (ownD o)), x1, some (.fz (dealD ms))]) (fr2 := [some (.fz .non), x1, some (.fz (dealD ms))]) rfl ?_
      have : optD none = .non := rfl
      have : D.isNon .non = true := rfl
      walk_at "eng*"
    | some o' =>
      rw [e] at hd ea
      have hl := doneF_len e
      have e1 : exs (callN P gl n) gl (.cons (.set 0 (.call "done" (.cons (.var 0) (.cons (.var 2) .nil)))) (.cons (.cond (.cmp .isN (.var 0) (.con .non)) (.cons (.ret (.con .non)) .nil) .nil) .nil)) [some (.fz (ownD o)), x1, some (.fz (dealD ms))] S = .nx [some (.fz (ownD o')), x1, some (.fz (dealD ms))] S := by
        have : optD (some o') = ownD o' := rfl
        have : look S (ownD o') = ownD o' := rfl
        have : D.isNon (ownD o') = false := rfl
        clear ea e h
        walk_at "eng*"
      rcases all_done_loop hP hn ds o' (some (.fz (dealD ms))) (fun ms' hm => by rw [hl]; exact h ms' (List.mem_cons_of_mem _ hm)) with ⟨a', o2, h1, h2⟩ | ⟨fr', h1, h2⟩
      · exact .inl ⟨a', o2, by rw [ea]; exact h1, by rw [List.map_cons, loop_step (fr1 := [some (.fz (ownD o)), x1, some (.fz (dealD ms))]) rfl e1]; exact h2⟩
      · exact .inr ⟨fr', by rw [ea]; exact h1, by rw [List.map_cons, loop_step (fr1 := [some (.fz (ownD o)), x1, some (.fz (dealD ms))]) rfl e1]; exact h2⟩
theorem all_done (hP : HasDeals P gl) (hn : 2 ≤ n) {o : List Int} {ds : List (List Mv)} (h : ∀ ms ∈ ds, (∀ m ∈ ms, m.1 < o.length) ∧ ms.length ≤ 6) : callN P gl n "all_done" [ownD o, dealsD ds] S = .ok (.fz (optD (allDone o ds))) S := by
  obtain ⟨k, rfl⟩ : ∃ k, n = k + 1 := ⟨n - 1, by omega⟩
  rw [callN_run hP.all_done rfl]
  show RS.done (exs (callN P gl k) gl f_all_done.body [some (.fz (ownD o)), some (.fz (.tup (ds.map dealD))), none] S) = _
  unfold f_all_done
  walk_at "eng"
  rcases all_done_loop (S := S) (x1 := some (.fz (.tup (ds.map dealD)))) hP (n := k) (by omega) ds o none h with ⟨a', o2, h1, h2⟩ | ⟨fr', h1, h2⟩
  · rw [h1, h2]
    walk_at "eng"; rfl
  · rw [h1, h2]
    walk_at "eng"; rfl
theorem need_deals (hP : HasDeals P gl) (hn : 5 ≤ n) {o : List Int} {ds : List (List Mv)} (ho : okOwn o) (hl : ds.length ≤ 10) (h : ∀ ms ∈ ds, okDeal o.length ms) {o' : List Int} (hd : allDone o ds = some o') : callN P gl n "need_deals" [ownD o, dealsD ds] S = .ok (.fz .non) S := by
  obtain ⟨k, rfl⟩ : ∃ k, n = k + 1 := ⟨n - 1, by omega⟩
  rw [callN_run hP.need_deals rfl]
  show RS.done (exs (callN P gl k) gl f_need_deals.body [some (.fz (.tup (o.map .int))), some (.fz (.tup (ds.map dealD))), none] S) = _
  unfold f_need_deals
  have a1 := are_owners (S := S) hP (n := k) (by omega) (d := ownD o) (fun _ e => by cases e) (fun xs e x hx => by
    cases e
    obtain ⟨i, _, rfl⟩ := List.mem_map.mp hx
    intro _ e; cases e)
  have a2 : areOwnersD (ownD o) = true := by
    obtain ⟨h1, h2, h3⟩ := ho
    simp only [areOwnersD, ownD, List.length_map, List.all_map, Bool.and_eq_true, decide_eq_true_eq, List.all_eq_true]
    exact ⟨by omega, by omega, fun x hx => by simp [fromD, h3 x hx]⟩
  rw [a2] at a1
  have a3 := all_done (S := S) hP (n := k) (by omega) (o := o) (ds := ds) (fun ms hm => ⟨fun m hm' => ((h ms hm).2.2.1 m hm').1, (h ms hm).2.1⟩)
  rw [hd] at a3
  unfold ownD at a1 a3
  unfold dealsD at a3
  have g3 := hP.g3
  have e1 : decide ((10 : Int) < ((ds.map dealD).length : Nat)) = false := by rw [List.length_map]; exact decide_eq_false (by omega)
  have sl : (ds.map dealD).length ≤ sizeLine := by rw [List.length_map]; exact Nat.le_trans (by omega) small12
  walk_at "eng*"
  rw [kComp_ok (frw := [some (.fz (.tup (o.map .int))), some (.fz (.tup (ds.map dealD))), none]) (acc := (ds.map dealD).map fun d => .bl true) (fr' := [some (.fz (.tup (o.map .int))), some (.fz (.tup (ds.map dealD))), none]) (S' := S) (fr2 := [some (.fz (.tup (o.map .int))), some (.fz (.tup (ds.map dealD))), none])]
  · have b1 := all_map (fun _ => true) (ds.map dealD)
    have b2 : (ds.map dealD).all (fun _ => true) = true := by simp
    have b3 : optD (some o') = .tup (o'.map .int) := rfl
    have b4 : D.isNon (.tup (o'.map .int)) = false := rfl
    clear h hd
    walk_at "eng*"
  · rfl
  · rfl
  · refine comp_map sl fun d hd' => ⟨[some (.fz (.tup (o.map .int))), some (.fz (.tup (ds.map dealD))), some (.fz d)], rfl, rfl, ?_, rfl⟩
    obtain ⟨m, hm, rfl⟩ := List.mem_map.mp hd'
    have h5 := is_deal (S := S) hP (n := k) (by omega) (h m hm)
    have e : (o.map D.int).length = o.length := List.length_map ..
    unfold eltX
    clear hd
    walk_at "eng*"
  · rfl
theorem need_within (hP : HasDeals P gl) (hn : 3 ≤ n) {i m : Int} (h0 : 0 ≤ i) (h1 : i ≤ m) : callN P gl n "need_within" [.int i, .int m] S = .ok (.fz .non) S := by
  obtain ⟨k, rfl⟩ : ∃ k, n = k + 1 := ⟨n - 1, by omega⟩
  rw [callN_run hP.need_within rfl]
  show RS.done (exs (callN P gl k) gl f_need_within.body [some (.fz (.int i)), some (.fz (.int m))] S) = _
  unfold f_need_within
  have f := is_from (gl := gl) (S := S) (n := k) (d := .int i) (lo := 0) (hi := m) hP.toHasFrom (by omega) (fun _ e => by cases e)
  have e : fromD 0 m (.int i) = true := by simp [fromD, h0, h1]
  walk_at "eng*"
theorem owners_behind (hP : HasDeals P gl) (hQ : P "owners_behind" = some f_owners_behind) (hn : 6 ≤ n) {o : List Int} {ds : List (List Mv)} (ho : okOwn o) (hl : ds.length ≤ 10) (h : ∀ ms ∈ ds, okDeal o.length ms) {o' : List Int} (hd : allDone o ds = some o')
    {m : Nat} (hm : m ≤ ds.length) : callN P gl n "owners_behind" [ownD o, dealsD ds, .int m] S = .ok (.fz (optD (allDone o (ds.take m)))) S := by
  obtain ⟨k, rfl⟩ : ∃ k, n = k + 1 := ⟨n - 1, by omega⟩
  rw [callN_run hQ rfl]
  show RS.done (exs (callN P gl k) gl f_owners_behind.body [some (.fz (.tup (o.map .int))), some (.fz (.tup (ds.map dealD))), some (.fz (.int m))] S) = _
  unfold f_owners_behind
  have a1 := need_deals (S := S) hP (n := k) (by omega) ho hl h hd
  have a2 := need_within (S := S) hP (n := k) (by omega) (i := m) (m := ds.length) (by omega) (by omega)
  have a3 := all_done (S := S) hP (n := k) (by omega) (o := o) (ds := ds.take m) (fun ms hm => ⟨fun m hm' => ((h ms (List.mem_of_mem_take hm)).2.2.1 m hm').1, (h ms (List.mem_of_mem_take hm)).2.1⟩)
  unfold ownD dealsD at a1 a3
  have c1 : cutD (ds.map dealD) none (some (m : Int)) = (ds.take m).map dealD := by rw [cut_take, List.map_take]
  have c2 : (ds.map dealD).length = ds.length := List.length_map ..
  clear h hd
  walk_at "eng*"
end
end Fn
end

section
/-! Deals: how the law draws them. -/
namespace Fn
open PySem L2 Eng

structure HasDealDraw (P : Str → Option Df) : Prop extends HasDraw P where
  behind : P "_law_behind" = some f_law_behind
  owners : P "_law_owners" = some f_law_owners
  mixed : P "_law_mixed" = some f_law_mixed
  deal : P "_law_deal" = some f_law_deal
  deals : P "_law_deals" = some f_law_deals
def nOwn : Option Val → Bool
  | some (.own _) => false
  | _ => true
theorem pls_one (l : List D) : D.pls (l.map fun _ => D.int 1) = true := by
  induction l with
  | nil => rfl
  | cons d ds ih => exact ih
theorem ne_nil (l : List D) : cmpD .ne (.lst (l.map fun _ => D.int 1)) (.lst []) = some (!l.isEmpty) := by
  have h : D.fit (.lst (l.map fun _ => D.int 1)) (.lst []) = true := by
    unfold D.fit
    have h1 : D.pl (.lst (l.map fun _ => D.int 1)) = true := pls_one l
    have h2 : D.pl (.lst []) = true := rfl
    have h3 : D.dep (.lst []) = 1 := rfl
    rw [h1, h2, h3]
    simp only [Bool.true_and, decide_eq_true_eq]
    exact Nat.le_trans (Nat.min_le_right _ _) (by omega)
  show (if D.fit _ _ then some (!D.eqv _ _) else none) = _
  rw [if_pos h]
  cases l <;> rfl
theorem filt_empty (o : List Int) (ms : List Mv) : ((ms.map mvD).filter fun d => !holdsD o d).isEmpty = ms.all (holds o) := by
  induction ms with
  | nil => rfl
  | cons m ms ih =>
    have e : holdsD o (mvD m) = holds o m := rfl
    rw [List.map_cons, List.filter_cons, List.all_cons, e]
    cases holds o m with
    | true => exact ih
    | false => rfl
section
variable {P : Str → Option Df} {gl : Str → Option D} {S : Store} {n k : Nat} {cf : CF}
theorem behind_inner {x0 x1 x3 : Option Val} : (ms : List Mv) → (cur : List Int) → (a b c : Option Val) → (∀ m ∈ ms, m.1 < cur.length) → nOwn a = true → nOwn b = true → nOwn c = true →
    ∃ a' b' c', loopGo (.tp (.cons (.nm 4) (.cons (.nm 5) (.cons (.nm 6) .nil)))) (exs cf gl (.cons (.setv 2 (.var 4) (.var 6)) .nil)) (ms.map mvD) [x0, x1, some (.own (.lst (cur.map .int))), x3, a, b, c] S = .nx [x0, x1, some (.own (.lst ((ms.foldl putM cur).map .int))), x3, a', b', c'] S ∧ nOwn a' = true ∧ nOwn b' = true ∧ nOwn c' = true
  | [], cur, a, b, c, _, ha, hb, hc => ⟨a, b, c, rfl, ha, hb, hc⟩
  | m :: ms, cur, a, b, c, h, _, _, _ => by
    obtain ⟨s, g, t⟩ := m
    have hs : s < cur.length := h _ (List.mem_cons_self ..)
    have e : exs cf gl (.cons (.setv 2 (.var 4) (.var 6)) .nil) [x0, x1, some (.own (.lst (cur.map .int))), x3, some (.fz (.int s)), some (.fz (.int g)), some (.fz (.int t))] S = .nx [x0, x1, some (.own (.lst ((putM cur (s, g, t)).map .int))), x3, some (.fz (.int s)), some (.fz (.int g)), some (.fz (.int t))] S := by
      have e1 : ∀ fr : Eng.Frame, fr[2]? = some (some (.own (.lst (cur.map .int)))) → setX 2 (.int (s : Nat)) (.int t) fr S = .nx (fr.set 2 (some (.own (.lst ((cur.map D.int).set s (.int t)))))) S := fun fr hf => setX_at hf (ixN_lt (by rw [List.length_map]; exact hs))
      walk_at "eng"
      rw [e1 _ rfl]
      walk_at "eng"
      rw [← List.map_set]; rfl
    rw [List.map_cons, loop_step (fr1 := [x0, x1, some (.own (.lst (cur.map .int))), x3, some (.fz (.int s)), some (.fz (.int g)), some (.fz (.int t))]) rfl e]
    exact behind_inner ms (putM cur (s, g, t)) _ _ _ (fun m hm => by rw [putM_len]; exact h m (List.mem_cons_of_mem _ hm)) rfl rfl rfl
theorem behind_loop {x0 x1 : Option Val} : (ds : List (List Mv)) → (cur : List Int) → (x3 a b c : Option Val) → (∀ ms ∈ ds, (∀ m ∈ ms, m.1 < cur.length) ∧ ms.length ≤ 6) → nOwn a = true → nOwn b = true → nOwn c = true →
    (∃ x3' a' b' c' o', allDone cur ds = some o' ∧ loopGo (.nm 3) (exs cf gl (.cons (.cond (.cmp .ne (.comp (.con (.int 1)) (.tp (.cons (.nm 4) (.cons (.nm 5) (.cons (.nm 6) .nil)))) (.seq (.var 3)) (.cons (.cmpv .ne (.subv 2 (.var 4)) 5) .nil)) (.lst .nil)) (.cons (.ret (.con .non)) .nil) .nil) (.cons (.loop (.tp (.cons (.nm 4) (.cons (.nm 5) (.cons (.nm 6) .nil)))) (.seq (.var 3)) (.cons (.setv 2 (.var 4) (.var 6)) .nil)) .nil))) (ds.map dealD) [x0, x1, some (.own (.lst (cur.map .int))), x3, a, b, c] S = .nx [x0, x1, some (.own (.lst (o'.map .int))), x3', a', b', c'] S) ∨
    (∃ fr', allDone cur ds = none ∧ loopGo (.nm 3) (exs cf gl (.cons (.cond (.cmp .ne (.comp (.con (.int 1)) (.tp (.cons (.nm 4) (.cons (.nm 5) (.cons (.nm 6) .nil)))) (.seq (.var 3)) (.cons (.cmpv .ne (.subv 2 (.var 4)) 5) .nil)) (.lst .nil)) (.cons (.ret (.con .non)) .nil) .nil) (.cons (.loop (.tp (.cons (.nm 4) (.cons (.nm 5) (.cons (.nm 6) .nil)))) (.seq (.var 3)) (.cons (.setv 2 (.var 4) (.var 6)) .nil)) .nil))) (ds.map dealD) [x0, x1, some (.own (.lst (cur.map .int))), x3, a, b, c] S = .rt (.fz .non) fr' S)
  | [], cur, x3, a, b, c, _, _, _, _ => .inl ⟨x3, a, b, c, cur, rfl, rfl⟩
  | ms :: ds, cur, x3, a, b, c, h, ha, hb, hc => by
    have hm := (h ms (List.mem_cons_self ..)).1
    have h6 := (h ms (List.mem_cons_self ..)).2
    have sl : (ms.map mvD).length ≤ sizeLine := by rw [List.length_map]; exact Nat.le_trans (by omega) small12
    have ea : allDone cur (ms :: ds) = match doneF cur ms with | none => none | some o' => allDone o' ds := rfl
    have ed : doneF cur ms = if ms.all (holds cur) then some (ms.foldl putM cur) else none := rfl
    have hcomp : kComp cf gl (.con (.int 1)) (.tp (.cons (.nm 4) (.cons (.nm 5) (.cons (.nm 6) .nil)))) (.cons (.cmpv .ne (.subv 2 (.var 4)) 5) .nil) (ms.map mvD) [x0, x1, some (.own (.lst (cur.map .int))), some (.fz (.tup (ms.map mvD))), a, b, c] S = .ok (.own (.lst (((ms.map mvD).filter fun d => !holdsD cur d).map fun _ => D.int 1))) [x0, x1, some (.own (.lst (cur.map .int))), some (.fz (.tup (ms.map mvD))), a, b, c] S := by
      refine kComp_ok (frw := [x0, x1, some (.own (.lst (cur.map .int))), some (.fz (.tup (ms.map mvD))), none, none, none]) (fr' := [x0, x1, some (.own (.lst (cur.map .int))), some (.fz (.tup (ms.map mvD))), none, none, none]) ?_ rfl ?_ rfl
      · show (nOwn a && (nOwn b && (nOwn c && true))) = true
        rw [ha, hb, hc]; rfl
      · rw [← List.nil_append (List.map (fun _ => D.int 1) _)]
        refine comp_pure _ [] (by simpa using sl) fun d hd => ?_
        obtain ⟨⟨s, g, t⟩, hm', rfl⟩ := List.mem_map.mp hd
        have hs : s < cur.length := hm _ hm'
        have e0 : cur[s]? = some cur[s] := List.getElem?_eq_getElem hs
        have e1 := own_at e0
        have e2 : holdsD cur (mvD (s, g, t)) = (cur[s] == g) := by
          show (cur[(s : Int).toNat]? == some g) = _
          rw [Int.toNat_natCast, e0]; rfl
        refine ⟨[x0, x1, some (.own (.lst (cur.map .int))), some (.fz (.tup (ms.map mvD))), some (.fz (.int s)), some (.fz (.int g)), some (.fz (.int t))], rfl, ?_, fun _ => rfl, rfl⟩
        rw [e2]
        clear e0 e2 ed ea ha hb hc
        walk_at "eng*"
    have hn := ne_nil ((ms.map mvD).filter fun d => !holdsD cur d)
    rw [filt_empty] at hn
    rw [List.map_cons]
    cases e : ms.all (holds cur) with
    | false =>
      rw [e] at hn ed
      rw [if_neg (by simp)] at ed
      rw [ed] at ea
      refine .inr ⟨[x0, x1, some (.own (.lst (cur.map .int))), some (.fz (.tup (ms.map mvD))), a, b, c], ea, ?_⟩
      refine loop_rt (fr1 := [x0, x1, some (.own (.lst (cur.map .int))), some (.fz (.tup (ms.map mvD))), a, b, c]) rfl ?_
      clear ed ea ha hb hc e
      walk_at "eng*"
    | true =>
      rw [e] at hn ed
      rw [if_pos rfl] at ed
      rw [ed] at ea
      obtain ⟨a', b', c', hi, ha', hb', hc'⟩ := behind_inner (cf := cf) (gl := gl) (S := S) (x0 := x0) (x1 := x1) (x3 := some (.fz (.tup (ms.map mvD)))) ms cur a b c hm ha hb hc
      have e1 : exs cf gl (.cons (.cond (.cmp .ne (.comp (.con (.int 1)) (.tp (.cons (.nm 4) (.cons (.nm 5) (.cons (.nm 6) .nil)))) (.seq (.var 3)) (.cons (.cmpv .ne (.subv 2 (.var 4)) 5) .nil)) (.lst .nil)) (.cons (.ret (.con .non)) .nil) .nil) (.cons (.loop (.tp (.cons (.nm 4) (.cons (.nm 5) (.cons (.nm 6) .nil)))) (.seq (.var 3)) (.cons (.setv 2 (.var 4) (.var 6)) .nil)) .nil)) [x0, x1, some (.own (.lst (cur.map .int))), some (.fz (.tup (ms.map mvD))), a, b, c] S = .nx [x0, x1, some (.own (.lst ((ms.foldl putM cur).map .int))), some (.fz (.tup (ms.map mvD))), a', b', c'] S := by
        clear ed ea ha hb hc ha' hb' hc' e h
        walk_at "eng*"
      have hr := behind_loop (x0 := x0) (x1 := x1) ds (ms.foldl putM cur) (some (.fz (.tup (ms.map mvD)))) a' b' c' (fun ms' hm' => by rw [puts_len]; exact h ms' (List.mem_cons_of_mem _ hm')) ha' hb' hc'
      rw [loop_step (fr1 := [x0, x1, some (.own (.lst (cur.map .int))), some (.fz (.tup (ms.map mvD))), a, b, c]) rfl e1, ea]
      exact hr
theorem behind (hP : HasDealDraw P) (hn : 1 ≤ n) {o : List Int} {ds : List (List Mv)} (h : ∀ ms ∈ ds, (∀ m ∈ ms, m.1 < o.length) ∧ ms.length ≤ 6) : callN P gl n "_law_behind" [ownD o, dealsD ds] S = .ok (.fz (optD (allDone o ds))) S := by
  obtain ⟨k, rfl⟩ : ∃ k, n = k + 1 := ⟨n - 1, by omega⟩
  rw [callN_run hP.behind rfl]
  show RS.done (exs (callN P gl k) gl f_law_behind.body [some (.fz (.tup (o.map .int))), some (.fz (.tup (ds.map dealD))), none, none, none, none, none] S) = _
  unfold f_law_behind
  walk_at "eng"
  rcases behind_loop (cf := callN P gl k) (gl := gl) (S := S) (x0 := some (.fz (.tup (o.map .int)))) (x1 := some (.fz (.tup (ds.map dealD)))) ds o none none none none h rfl rfl rfl with ⟨x3, a, b, c, o', h1, h2⟩ | ⟨fr', h1, h2⟩
  · rw [h1, h2]; walk_at "eng"; rfl
  · rw [h1, h2]; walk_at "eng"; rfl
end
end Fn
end

section
/-! Deals: how the law draws them, second part. -/
namespace Fn
open PySem L2 Eng

section
variable {P : Str → Option Df} {gl : Str → Option D} {S : Store} {n k : Nat} {cf : CF}
theorem small1000 : (1000 : Nat) ≤ sizeLine := by unfold sizeLine; omega
theorem erase_cons_perm {α : Type} : (l : List α) → (i : Nat) → (h : i < l.length) → (l[i] :: l.eraseIdx i).Perm l
  | [], i, h => absurd h (Nat.not_lt_zero i)
  | x :: l, 0, h => List.Perm.refl _
  | x :: l, i + 1, h => (List.Perm.swap x (l[i]'(Nat.lt_of_succ_lt_succ h)) (l.eraseIdx i)).trans ((erase_cons_perm l i (Nat.lt_of_succ_lt_succ h)).cons x)
theorem erase_map {α β : Type} (f : α → β) : (l : List α) → (i : Nat) → (l.map f).eraseIdx i = (l.eraseIdx i).map f
  | [], _ => rfl
  | _ :: _, 0 => rfl
  | x :: l, i + 1 => congrArg (f x :: ·) (erase_map f l i)
theorem popX_at {i j : Nat} {y : Int} {fr : Eng.Frame} {xs : List D} {d : D} {S : Store} (h : fr[i]? = some (some (.own (.lst xs)))) (hj : ixN xs.length y = some j) (hd : xs[j]? = some d) (hl : xs.length ≤ sizeLine) : popX i (.int y) fr S = .ok (.fz d) (fr.set i (some (.own (.lst (xs.eraseIdx j))))) S := by
  unfold popX; simp only [h, hj, hd, if_pos hl]
/-- a draw, called from any depth -/
theorem drawn (hP : HasDraw P) (hn : 1 ≤ n) (h : PenAt S k) {b : Int} (h0 : 0 < b) (h1 : b < 1073741824) :
    ∃ v S', callN P gl n "_law_draw" [.ref k, .int b] S = .ok (.fz (.int v)) S' ∧ 0 ≤ v ∧ v < b ∧ Moved k S S' ∧ PenAt S' k := by
  obtain ⟨m, rfl⟩ : ∃ m, n = m + 1 := ⟨n - 1, by omega⟩
  exact draw hP h h0 h1
theorem pen (hP : HasDraw P) (hn : 1 ≤ n) {i : Int} : ∃ c, callN P gl n "_law_pen" [.int i] S = .ok (.fz (.ref S.length)) (S ++ [c]) ∧ PenAt (S ++ [c]) S.length := by
  obtain ⟨m, rfl⟩ : ∃ m, n = m + 1 := ⟨n - 1, by omega⟩
  rw [callN_run hP.pen rfl]
  show ∃ c, RS.done (exs (callN P gl m) gl f_law_pen.body [some (.fz (.int i))] S) = _ ∧ _
  unfold f_law_pen
  have e1 : binD .pow (.int 10) (.int 18) = some (.fz (.int (10 ^ 18))) := by
    show (if 0 ≤ (18 : Int) ∧ (18 : Int) ≤ 1000000 ∧ (10 : Int).natAbs < 2 ^ 64 then some (Val.fz (.int ((10 : Int) ^ (18 : Int).toNat))) else none) = _
    rw [if_pos (by decide)]; rfl
  have e2 : binD .mod (.int i) (.int 1000000007) = some (.fz (.int (i % 1000000007))) := bin_modI (by omega)
  walk_at "eng*"
  refine ⟨_, rfl, i, _, 0, i % 1000000007, List.getElem?_concat_length, Int.emod_nonneg _ (by omega), Int.emod_lt_of_pos _ (by omega)⟩
theorem cell_at (hP : HasDraw P) (hn : 1 ≤ n) {ns : List Int} {j : Nat} : ∃ i : Int, callN P gl n "_law_cell_at" [.scr (ns.map .int), .int j] S = .ok (.fz (.int i)) S := by
  obtain ⟨m, rfl⟩ : ∃ m, n = m + 1 := ⟨n - 1, by omega⟩
  rw [callN_run hP.cell_at rfl]
  show ∃ i : Int, RS.done (exs (callN P gl m) gl f_law_cell_at.body [some (.fz (.scr (ns.map .int))), some (.fz (.int j))] S) = _
  unfold f_law_cell_at
  by_cases h : j < ns.length
  · have e1 : decide ((j : Int) < ((ns.map D.int).length : Nat)) = true := by rw [List.length_map]; exact decide_eq_true (by omega)
    have e2 := own_at (List.getElem?_eq_getElem h)
    walk_at "eng*"
    exact ⟨_, rfl⟩
  · have e1 : decide ((j : Int) < ((ns.map D.int).length : Nat)) = false := by rw [List.length_map]; exact decide_eq_false (by omega)
    walk_at "eng*"
    exact ⟨_, rfl⟩
theorem rgOk_nat {j : Int} (h0 : 0 ≤ j) (h : j < 1000000) : rgOk 0 j = true := decide_eq_true (by omega)
theorem owners (hP : HasDealDraw P) (hn : 2 ≤ n) (h : PenAt S k) :
    ∃ o S', callN P gl n "_law_owners" [.ref k] S = .ok (.fz (ownD o)) S' ∧ okOwn o ∧ Moved k S S' ∧ PenAt S' k := by
  obtain ⟨m, rfl⟩ : ∃ m, n = m + 1 := ⟨n - 1, by omega⟩
  rw [callN_run hP.owners rfl]
  show ∃ o S', RS.done (exs (callN P gl m) gl f_law_owners.body [some (.fz (.ref k)), none, none] S) = _ ∧ _
  unfold f_law_owners
  obtain ⟨v1, S1, d1, p1, q1, m1, h1⟩ := drawn (gl := gl) hP.toHasDraw (n := m) (by omega) h (b := 3) (by omega) (by omega)
  obtain ⟨v2, S2, d2, p2, q2, m2, h2⟩ := drawn (gl := gl) hP.toHasDraw (n := m) (by omega) h1 (b := 12) (by omega) (by omega)
  obtain ⟨v3, S3, d3, p3, q3, m3, h3⟩ := drawn (gl := gl) hP.toHasDraw (n := m) (by omega) h2 (b := 2) (by omega) (by omega)
  have hw : ∃ w : Int, 1 ≤ w ∧ w ≤ 12 ∧ atD [.int (1 + v1), .int (1 + v2)] v3 = some (.int w) := by
    obtain rfl | rfl : v3 = 0 ∨ v3 = 1 := by omega
    · exact ⟨1 + v1, by omega, by omega, rfl⟩
    · exact ⟨1 + v2, by omega, by omega, rfl⟩
  obtain ⟨w, w1, w2, hw⟩ := hw
  have hr : ∀ fr S, kRng1 (.int w) fr S = .ok (rgD 0 w) fr S := fun fr S => kRng1_eq (rgOk_nat (by omega) (by omega))
  walk_at "eng*"
  obtain ⟨acc, fr', S', hc, ⟨hfr, os, rfl, hos, hmv, hpen⟩, hlen⟩ := comp_inv0 (tg := (.nm 2)) (test := evC (callN P gl m) gl .nil) (elt := eltX (callN P gl m) gl (.call "_law_draw" (.cons (.var 0) (.cons (.bin .add (.con (.int 2)) (.call "_law_draw" (.cons (.var 0) (.cons (.con (.int 5)) .nil)))) .nil))))
    (fun i acc fr T => fr = [some (.fz (.ref k)), some (.fz (.int w)), none] ∧ ∃ os : List Int, acc = os.map D.int ∧ (∀ x ∈ os, 0 ≤ x ∧ x ≤ 5) ∧ Moved k S3 T ∧ PenAt T k)
    (ds := rgD 0 w) (fr := [some (.fz (.ref k)), some (.fz (.int w)), none]) (S := S3) ⟨rfl, [], rfl, (fun x hx => nomatch hx), Moved.refl h3, h3⟩ (by rw [rg_len]; exact Nat.le_trans (by omega) small12) (by
    rintro i d acc fr T hd ⟨rfl, os, rfl, hos, hmv, hpen⟩
    obtain ⟨rfl, hi⟩ := rg_mem hd
    obtain ⟨u1, T1, e1, a1, b1, mm1, hp1⟩ := drawn (gl := gl) hP.toHasDraw (n := m) (by omega) hpen (b := 5) (by omega) (by omega)
    obtain ⟨u2, T2, e2, a2, b2, mm2, hp2⟩ := drawn (gl := gl) hP.toHasDraw (n := m) (by omega) hp1 (b := 2 + u1) (by omega) (by omega)
    refine ⟨[some (.fz (.ref k)), some (.fz (.int w)), some (.fz (.int (0 + i)))], [some (.fz (.ref k)), some (.fz (.int w)), some (.fz (.int (0 + i)))], [some (.fz (.ref k)), some (.fz (.int w)), some (.fz (.int (0 + i)))], .int u2, T, T2, rfl, rfl, ?_, rfl, os ++ [u2], by rw [List.map_append]; rfl, ?_, (hmv.trans mm1).trans mm2, hp2⟩
    · unfold eltX
      clear hr hw d1 d2 d3
      walk_at "eng*"
    · intro x hx
      rcases List.mem_append.mp hx with hx | hx
      · exact hos x hx
      · obtain rfl := List.mem_singleton.mp hx
        omega)
  subst hfr
  rw [kComp_ok (frw := [some (.fz (.ref k)), some (.fz (.int w)), none]) (fr2 := [some (.fz (.ref k)), some (.fz (.int w)), none]) rfl rfl hc rfl]
  walk_at "eng"
  rw [rg_len, List.length_map] at hlen
  exact ⟨os, S', rfl, ⟨by omega, by omega, hos⟩, ((m1.trans m2).trans m3).trans hmv, hpen⟩
/-- what is mixed is the same, in some order -/
theorem mixed {α : Type} (hP : HasDealDraw P) (hn : 2 ≤ n) (h : PenAt S k) (f : α → D) {xs : List α} (hx : xs.length ≤ 1000) :
    ∃ (ys : List α) (S' : Store), callN P gl n "_law_mixed" [.ref k, .lst (xs.map f)] S = .ok (.own (.lst (ys.map f))) S' ∧ ys.Perm xs ∧ Moved k S S' ∧ PenAt S' k := by
  obtain ⟨m, rfl⟩ : ∃ m, n = m + 1 := ⟨n - 1, by omega⟩
  rw [callN_run hP.mixed rfl]
  show ∃ (ys : List α) (S' : Store), RS.done (exs (callN P gl m) gl f_law_mixed.body [some (.fz (.ref k)), some (.fz (.lst (xs.map f))), none, none] S) = _ ∧ _
  unfold f_law_mixed
  have hr : ∀ fr S, kRng1 (.int ((xs.map f).length : Nat)) fr S = .ok (rgD 0 ((xs.map f).length : Nat)) fr S := fun fr S => kRng1_eq (rgOk_nat (by omega) (by rw [List.length_map]; omega))
  walk_at "eng*"
  obtain ⟨acc, fr', S', hc, ⟨as, ls, hfr, rfl, hper, hll, hmv, hpen⟩, hlen⟩ := comp_inv0 (tg := (.nm 3)) (test := evC (callN P gl m) gl .nil) (elt := eltX (callN P gl m) gl (.popv 2 (.call "_law_draw" (.cons (.var 0) (.cons (.bltv .len 2) .nil)))))
    (fun i acc fr T => ∃ as ls : List α, fr = [some (.fz (.ref k)), some (.fz (.lst (xs.map f))), some (.own (.lst (ls.map f))), none] ∧ acc = as.map f ∧ (as ++ ls).Perm xs ∧ ls.length + i = xs.length ∧ Moved k S T ∧ PenAt T k)
    (ds := rgD 0 ((xs.map f).length : Nat)) (fr := [some (.fz (.ref k)), some (.fz (.lst (xs.map f))), some (.own (.lst (xs.map f))), none]) (S := S) ⟨[], xs, rfl, rfl, List.Perm.refl _, rfl, Moved.refl h, h⟩ (by rw [rg_len, List.length_map]; exact Nat.le_trans (m := 1000) (by omega) small1000) (by
    rintro i d acc fr T hd ⟨as, ls, rfl, rfl, hper, hll, hmv, hpen⟩
    obtain ⟨rfl, hi⟩ := rg_mem hd
    rw [List.length_map] at hi
    obtain ⟨u1, T1, e1, a1, b1, mm1, hp1⟩ := drawn (gl := gl) hP.toHasDraw (n := m) (by omega) hpen (b := ((ls.map f).length : Nat)) (by rw [List.length_map]; omega) (by rw [List.length_map]; omega)
    obtain ⟨u, rfl⟩ : ∃ u : Nat, u1 = u := ⟨u1.toNat, by omega⟩
    have hu : u < ls.length := by rw [List.length_map] at b1; omega
    have hpop : popX 2 (.int (u : Nat)) [some (.fz (.ref k)), some (.fz (.lst (xs.map f))), some (.own (.lst (ls.map f))), some (.fz (.int (0 + i)))] T1 = .ok (.fz (f ls[u])) [some (.fz (.ref k)), some (.fz (.lst (xs.map f))), some (.own (.lst ((ls.eraseIdx u).map f))), some (.fz (.int (0 + i)))] T1 := by
      have e1 : ixN (ls.map f).length (u : Int) = some u := ixN_lt (by rw [List.length_map]; exact hu)
      have e2 : (ls.map f)[u]? = some (f ls[u]) := by rw [List.getElem?_map, List.getElem?_eq_getElem hu]; rfl
      have e3 : (ls.map f).length ≤ sizeLine := by rw [List.length_map]; exact Nat.le_trans (m := 1000) (by omega) small1000
      rw [popX_at rfl e1 e2 e3, erase_map]; rfl
    refine ⟨[some (.fz (.ref k)), some (.fz (.lst (xs.map f))), some (.own (.lst (ls.map f))), some (.fz (.int (0 + i)))], [some (.fz (.ref k)), some (.fz (.lst (xs.map f))), some (.own (.lst (ls.map f))), some (.fz (.int (0 + i)))], [some (.fz (.ref k)), some (.fz (.lst (xs.map f))), some (.own (.lst ((ls.eraseIdx u).map f))), some (.fz (.int (0 + i)))], f ls[u], T, T1, rfl, rfl, ?_, as ++ [ls[u]], ls.eraseIdx u, rfl, by rw [List.map_append]; rfl, ?_, ?_, hmv.trans mm1, hp1⟩
    · unfold eltX
      clear hr
      walk_at "eng*"
    · rw [List.append_assoc]
      exact ((erase_cons_perm ls u hu).append_left as).trans hper
    · rw [List.length_eraseIdx_of_lt hu]; omega)
  subst hfr
  rw [kComp_ok (frw := [some (.fz (.ref k)), some (.fz (.lst (xs.map f))), some (.own (.lst (xs.map f))), none]) (fr2 := [some (.fz (.ref k)), some (.fz (.lst (xs.map f))), some (.own (.lst (ls.map f))), none]) rfl rfl hc rfl]
  walk_at "eng"
  rw [rg_len, List.length_map] at hll
  obtain rfl : ls = [] := List.length_eq_zero_iff.mp (by omega)
  rw [List.append_nil] at hper
  exact ⟨as, S', rfl, hper, hmv, hpen⟩
end
end Fn
end

section
/-! Deals: how the law draws them, third part. -/
namespace Fn
open PySem L2 Eng

theorem appX_at {i : Nat} {fr : Eng.Frame} {xs : List D} {d : D} {S : Store} (h : fr[i]? = some (some (.own (.lst xs)))) (hl : xs.length < sizeLine) : appX i d fr S = .nx (fr.set i (some (.own (.lst (xs ++ [d]))))) S := by
  unfold appX; simp only [h, if_pos hl]
theorem small1000' : (1000 : Nat) < sizeLine := by unfold sizeLine; omega
theorem rg0 (L : Nat) : rgD 0 (L : Int) = (List.range L).map fun i : Nat => D.int (i : Int) := by
  unfold rgD
  have e : ((L : Int) - 0).toNat = L := by omega
  rw [e]
  exact List.map_congr_left fun i _ => by rw [Int.zero_add]
section
variable {P : Str → Option Df} {gl : Str → Option D} {S : Store} {n k : Nat} {cf : CF}
theorem deal (hP : HasDealDraw P) (hn : 3 ≤ n) (h : PenAt S k) {o : List Int} (ho : okOwn o) :
    ∃ ms S', callN P gl n "_law_deal" [.ref k, ownD o] S = .ok (.fz (dealD ms)) S' ∧ okDeal o.length ms ∧ ms.all (holds o) = true ∧ Moved k S S' ∧ PenAt S' k := by
  obtain ⟨m, rfl⟩ : ∃ m, n = m + 1 := ⟨n - 1, by omega⟩
  rw [callN_run hP.deal rfl]
  show ∃ ms S', RS.done (exs (callN P gl m) gl f_law_deal.body [some (.fz (.ref k)), some (.fz (.tup (o.map .int))), none, none, none] S) = _ ∧ _
  unfold f_law_deal
  obtain ⟨o1, o2, o3⟩ := ho
  have hrg : ∀ fr S, kListrg (.int ((o.map D.int).length : Nat)) fr S = .ok (.own (.lst ((List.range o.length).map fun i : Nat => D.int (i : Int)))) fr S := by
    intro fr S
    rw [List.length_map, kListrg_eq ⟨rgOk_nat (by omega) (by omega), by omega⟩, rg0]
  obtain ⟨zs, S1, d1, pz, m1, h1⟩ := mixed (gl := gl) hP (n := m) (by omega) h (fun i : Nat => D.int (i : Int)) (xs := List.range o.length) (by rw [List.length_range]; omega)
  obtain ⟨v2, S2, d2, p2, q2, m2, h2⟩ := drawn (gl := gl) hP.toHasDraw (n := m) (by omega) h1 (b := 2) (by omega) (by omega)
  have hb : ∃ b : Int, 2 ≤ b ∧ b ≤ 6 ∧ atD [.int 2, .int 6] v2 = some (.int b) := by
    obtain rfl | rfl : v2 = 0 ∨ v2 = 1 := by omega
    · exact ⟨2, by omega, by omega, rfl⟩
    · exact ⟨6, by omega, by omega, rfl⟩
  obtain ⟨b, b1, b2, hb⟩ := hb
  obtain ⟨v3, S3, d3, p3, q3, m3, h3⟩ := drawn (gl := gl) hP.toHasDraw (n := m) (by omega) h2 (b := b) (by omega) (by omega)
  obtain ⟨c, hc⟩ : ∃ c : Nat, 1 + v3 = c := ⟨(1 + v3).toNat, by omega⟩
  have hcut : cutD (zs.map fun i : Nat => D.int (i : Int)) none (some (c : Int)) = (zs.take c).map fun i : Nat => D.int (i : Int) := by rw [cut_take, List.map_take]
  have hzl : zs.length = o.length := by rw [pz.length_eq, List.length_range]
  have hz : ∀ z ∈ zs.take c, z < o.length := fun z hz => List.mem_range.mp (pz.mem_iff.mp (List.mem_of_mem_take hz))
  have hnd : (zs.take c).Nodup := ((pz.nodup_iff).mpr List.nodup_range).sublist (List.take_sublist c zs)
  have hcl : (zs.take c).length = min c o.length := by rw [List.length_take, hzl]
  clear hzl pz
  walk_at "eng*"
  generalize hzs : zs.take c = st at *
  obtain ⟨fr', S', hlo, ⟨a, ms, rfl, hms, hok, hho, hmv, hpen⟩⟩ := loop_inv0 (tg := .nm 4) (body := exs (callN P gl m) gl (.cons (.appv 3 (.tup (.cons (.var 4) (.cons (.subv 1 (.var 4)) (.cons (.bin .mod (.bin .add (.bin .add (.subv 1 (.var 4)) (.con (.int 1))) (.call "_law_draw" (.cons (.var 0) (.cons (.con (.int 5)) .nil)))) (.con (.int 6))) .nil))))) .nil))
    (fun i fr T => ∃ a ms, fr = [some (.fz (.ref k)), some (.fz (.tup (o.map .int))), some (.fz (.lst (st.map fun i : Nat => D.int (i : Int)))), some (.own (.lst (ms.map mvD))), a] ∧ ms.map (·.1) = st.take i ∧ (∀ m ∈ ms, okMv o.length m) ∧ ms.all (holds o) = true ∧ Moved k S3 T ∧ PenAt T k)
    (ds := st.map fun i : Nat => D.int (i : Int)) (fr := [some (.fz (.ref k)), some (.fz (.tup (o.map .int))), some (.fz (.lst (st.map fun i : Nat => D.int (i : Int)))), some (.own (.lst [])), none]) (S := S3)
    ⟨none, [], rfl, rfl, (fun m hm => nomatch hm), rfl, Moved.refl h3, h3⟩ (by
    rintro i d fr T hd ⟨a, ms, rfl, hms, hok, hho, hmv, hpen⟩
    rw [List.getElem?_map] at hd
    obtain ⟨s, hs, rfl⟩ := Option.map_eq_some_iff.mp hd
    have hs1 : s < o.length := hz s (List.mem_of_getElem? hs)
    have hx := o3 o[s] (List.getElem_mem hs1)
    have e1 := own_at (List.getElem?_eq_getElem hs1)
    obtain ⟨u, T1, e2, a1, c1, mm1, hp1⟩ := drawn (gl := gl) hP.toHasDraw (n := m) (by omega) hpen (b := 5) (by omega) (by omega)
    have e3 : binD .mod (.int (o[s] + 1 + u)) (.int 6) = some (.fz (.int ((o[s] + 1 + u) % 6))) := bin_modI (by omega)
    have hi : i < st.length := (List.getElem?_eq_some_iff.mp hs).1
    have hml : (ms.map mvD).length < sizeLine := by
      have : ms.length = min i st.length := by rw [← List.length_map (f := fun x : Mv => x.1), hms, List.length_take]
      rw [List.length_map]
      exact Nat.lt_of_le_of_lt (m := 1000) (by omega) small1000'
    have e4 : ∀ fr d T, fr[3]? = some (some (.own (.lst (ms.map mvD)))) → appX 3 d fr T = .nx (fr.set 3 (some (.own (.lst (ms.map mvD ++ [d]))))) T := fun fr d T hf => appX_at hf hml
    refine ⟨[some (.fz (.ref k)), some (.fz (.tup (o.map .int))), some (.fz (.lst (st.map fun i : Nat => D.int (i : Int)))), some (.own (.lst (ms.map mvD))), some (.fz (.int s))], [some (.fz (.ref k)), some (.fz (.tup (o.map .int))), some (.fz (.lst (st.map fun i : Nat => D.int (i : Int)))), some (.own (.lst (ms.map mvD ++ [.tup [.int s, .int o[s], .int ((o[s] + 1 + u) % 6)]]))), some (.fz (.int s))], T1, rfl, ?_, some (.fz (.int s)), ms ++ [(s, o[s], (o[s] + 1 + u) % 6)], by rw [List.map_append]; rfl, ?_, ?_, ?_, hmv.trans mm1, hp1⟩
    · clear hd hs hms hho hx hok hrg hcut d1 d2 d3 hb hz hnd hcl o1 o2 o3 p2 q2 p3 q3 a1 c1 hi hml hc hzs b1 b2
      simp -implicitDefEqProofs only [exs_cons, ex_appv, ol3, kApp_t]
      walk_at "eng*"
      rw [e4 _ _ _ rfl]
      walk_at "eng"
    · rw [List.map_append, hms, List.take_succ, hs]; rfl
    · intro m' hm'
      rcases List.mem_append.mp hm' with hm' | hm'
      · exact hok m' hm'
      · obtain rfl := List.mem_singleton.mp hm'
        exact ⟨hs1, hx, ⟨by show 0 ≤ (o[s] + 1 + u) % 6; omega, by show (o[s] + 1 + u) % 6 ≤ 5; omega⟩, by show o[s] ≠ (o[s] + 1 + u) % 6; omega⟩
    · rw [List.all_append, hho]
      show (true && ((o[s]? == some o[s]) && true)) = true
      rw [List.getElem?_eq_getElem hs1]; simp)
  rw [hlo]
  walk_at "eng"
  rw [List.length_map] at hms
  rw [List.take_length] at hms
  have hlen : ms.length = st.length := by rw [← List.length_map (f := fun x : Mv => x.1), hms]
  refine ⟨ms, S', rfl, ⟨by omega, by omega, hok, by rw [hms]; exact hnd⟩, hho, ((m1.trans m2).trans m3).trans hmv, hpen⟩
theorem allDone_add {o o' : List Int} {ds : List (List Mv)} {d : List Mv} (h : allDone o ds = some o') : allDone o (ds ++ [d]) = doneF o' d := by
  induction ds generalizing o with
  | nil =>
    have e : o = o' := Option.some.inj h
    rw [← e]
    show (match doneF o d with | none => none | some o' => some o') = _
    cases doneF o d <;> rfl
  | cons e ds ih =>
    show (match doneF o e with | none => none | some o' => allDone o' (ds ++ [d])) = _
    have h' : (match doneF o e with | none => none | some o' => allDone o' ds) = some o' := h
    cases he : doneF o e with
    | none => rw [he] at h'; cases h'
    | some o2 => rw [he] at h'; exact ih h'
theorem puts_ok {ms : List Mv} {o : List Int} (ho : okOwn o) (hm : ∀ m ∈ ms, okMv o.length m) : okOwn (ms.foldl putM o) := by
  induction ms generalizing o with
  | nil => exact ho
  | cons m ms ih =>
    rw [List.foldl_cons]
    refine ih ⟨by rw [putM_len]; exact ho.1, by rw [putM_len]; exact ho.2.1, fun x hx => ?_⟩ (fun m' hm' => by rw [putM_len]; exact hm m' (List.mem_cons_of_mem _ hm'))
    rcases List.mem_or_eq_of_mem_set hx with hx | hx
    · exact ho.2.2 x hx
    · rw [hx]; exact (hm m (List.mem_cons_self ..)).2.2.1
/-- deals that can be done -/
structure okDeals (o : List Int) (ds : List (List Mv)) : Prop where
  own : okOwn o
  ok : ∀ ms ∈ ds, okDeal o.length ms
  fin : ∃ o', allDone o ds = some o' ∧ okOwn o' ∧ o'.length = o.length
theorem okDeals.mvs {o : List Int} {ds : List (List Mv)} (h : okDeals o ds) : ∀ ms ∈ ds, (∀ m ∈ ms, m.1 < o.length) ∧ ms.length ≤ 6 := fun ms hm => ⟨fun m hm' => ((h.ok ms hm).2.2.1 m hm').1, (h.ok ms hm).2.1⟩
theorem deals (hP : HasDealDraw P) (hn : 4 ≤ n) (h : PenAt S k) {o : List Int} (ho : okOwn o) {q : Int} (hq : 0 ≤ q) (hq2 : q ≤ 100) :
    ∃ ds S', callN P gl n "_law_deals" [.ref k, ownD o, .int q] S = .ok (.fz (dealsD ds)) S' ∧ okDeals o ds ∧ (ds.length : Int) ≤ q ∧ Moved k S S' ∧ PenAt S' k := by
  obtain ⟨m, rfl⟩ : ∃ m, n = m + 1 := ⟨n - 1, by omega⟩
  rw [callN_run hP.deals rfl]
  show ∃ ds S', RS.done (exs (callN P gl m) gl f_law_deals.body [some (.fz (.ref k)), some (.fz (ownD o)), some (.fz (.int q)), none, none] S) = _ ∧ _
  unfold f_law_deals
  obtain ⟨w, S1, d1, p1, q1, m1, h1⟩ := drawn (gl := gl) hP.toHasDraw (n := m) (by omega) h (b := q + 1) (by omega) (by omega)
  have hr : ∀ fr S, kRng1 (.int w) fr S = .ok (rgD 0 w) fr S := fun fr S => kRng1_eq (rgOk_nat (by omega) (by omega))
  walk_at "eng*"
  obtain ⟨fr', S', hlo, ⟨a, ds, rfl, hdl, hok, hmv, hpen⟩⟩ := loop_inv0 (tg := .nm 4) (body := exs (callN P gl m) gl (.cons (.set 3 (.bin .add (.var 3) (.tup (.cons (.call "_law_deal" (.cons (.var 0) (.cons (.call "_law_behind" (.cons (.var 1) (.cons (.var 3) .nil))) .nil))) .nil)))) .nil))
    (fun i fr T => ∃ a ds, fr = [some (.fz (.ref k)), some (.fz (ownD o)), some (.fz (.int q)), some (.fz (.tup (ds.map dealD))), a] ∧ ds.length = i ∧ okDeals o ds ∧ Moved k S1 T ∧ PenAt T k)
    (ds := rgD 0 w) (fr := [some (.fz (.ref k)), some (.fz (ownD o)), some (.fz (.int q)), some (.fz (.tup [])), none]) (S := S1)
    ⟨none, [], rfl, rfl, ⟨ho, (fun m hm => nomatch hm), o, rfl, ho, rfl⟩, Moved.refl h1, h1⟩ (by
    rintro i d fr T hd ⟨a, ds, rfl, hdl, hok, hmv, hpen⟩
    obtain ⟨rfl, hi⟩ := rg_mem hd
    obtain ⟨o', hfin, hoo, hol⟩ := hok.fin
    have eb := behind (gl := gl) (S := T) hP (n := m) (by omega) hok.mvs
    rw [hfin] at eb
    have eb : callN P gl m "_law_behind" [ownD o, .tup (ds.map dealD)] T = .ok (.fz (ownD o')) T := eb
    obtain ⟨ms, T1, ed, od, hd, mm1, hp1⟩ := deal (gl := gl) hP (n := m) (by omega) hpen hoo
    have ea : binD .add (.tup (ds.map dealD)) (.tup [dealD ms]) = some (.fz (.tup (ds.map dealD ++ [dealD ms]))) := by
      have : (ds.map dealD).length + [dealD ms].length ≤ sizeLine := by
        rw [List.length_map]
        show ds.length + 1 ≤ sizeLine
        exact Nat.le_trans (m := 1000) (by omega) small1000
      show (if _ ≤ sizeLine then _ else _) = _
      rw [if_pos this]
    have ed2 : doneF o' ms = some (ms.foldl putM o') := by
      unfold doneF; rw [hd]; rfl
    refine ⟨[some (.fz (.ref k)), some (.fz (ownD o)), some (.fz (.int q)), some (.fz (.tup (ds.map dealD))), some (.fz (.int (0 + i)))], [some (.fz (.ref k)), some (.fz (ownD o)), some (.fz (.int q)), some (.fz (.tup (ds.map dealD ++ [dealD ms]))), some (.fz (.int (0 + i)))], T1, rfl, ?_, some (.fz (.int (0 + i))), ds ++ [ms], by rw [List.map_append]; rfl, by rw [List.length_append, hdl]; rfl, ⟨hok.own, ?_, ?_⟩, hmv.trans mm1, hp1⟩
    · clear hr d1 hfin hdl hd ed2 hol
      walk_at "eng*"
    · intro ms' hm'
      rcases List.mem_append.mp hm' with hm' | hm'
      · exact hok.ok ms' hm'
      · obtain rfl := List.mem_singleton.mp hm'
        rw [← hol]; exact od
    · exact ⟨_, by rw [allDone_add hfin, ed2], puts_ok hoo (fun m hm => od.2.2.1 m hm), by rw [puts_len, hol]⟩)
  rw [hlo]
  walk_at "eng"
  rw [rg_len] at hdl
  exact ⟨ds, S', rfl, hok, by omega, m1.trans hmv, hpen⟩
end
end Fn
end

section
/-! Deals that fall: the plain part. -/
namespace Fn
open PySem L2 Eng
def stAt (ds : List (List Mv)) (k : Nat) : List Nat := ((ds[k]?).getD []).map (·.1)
/-- the last deal ahead of k that moves a stamp -/
def came (ds : List (List Mv)) : Nat → Nat → Option Nat
  | 0, _ => none
  | k + 1, s => if s ∈ stAt ds k then some k else came ds k s
def natD (s : Nat) : D := .int (s : Nat)
def ahd (ds : List (List Mv)) (k : Nat) : List Int := setI ((stAt ds k).filterMap fun s => (came ds k s).map fun j : Nat => (j : Int))
theorem came_lt {ds : List (List Mv)} {s j : Nat} : ∀ {k : Nat}, came ds k s = some j → j < k
  | 0, h => nomatch h
  | k + 1, h => by
    unfold came at h
    split at h
    · cases h; exact Nat.lt_succ_self _
    · exact Nat.lt_succ_of_lt (came_lt h)
theorem ahd_mem {ds : List (List Mv)} {k : Nat} {i : Int} (h : i ∈ ahd ds k) : ∃ j : Nat, i = j ∧ j < k := by
  unfold ahd at h
  rw [setI_mem, List.mem_filterMap] at h
  obtain ⟨s, _, h⟩ := h
  obtain ⟨j, h1, h2⟩ := Option.map_eq_some_iff.mp h
  exact ⟨j, h2.symm, came_lt h1⟩
def rowD (ds : List (List Mv)) (k : Nat) : D := .tup [.lst ((stAt ds k).map natD), .lst ((ahd ds k).map .int)]
/-! ### chains -/
def pairC (c : List Int) : D := .tup [.int c.length, .tup (c.map .int)]
def minC (c : List Int) (cs : List (List Int)) : List Int := cs.foldl (fun a z => if D.ltb (pairC z) (pairC a) then z else a) c
def pick : List (List Int) → Option (List Int)
  | [] => none
  | c :: cs => some (minC c cs)
theorem minL_pair : ∀ (cs : List (List Int)) (c : List Int), minL (pairC c) (cs.map pairC) = pairC (minC c cs)
  | [], c => rfl
  | z :: cs, c => by
    show (cs.map pairC).foldl _ (if D.ltb (pairC z) (pairC c) then pairC z else pairC c) = pairC (cs.foldl _ (if D.ltb (pairC z) (pairC c) then z else c))
    have e : (if D.ltb (pairC z) (pairC c) then pairC z else pairC c) = pairC (if D.ltb (pairC z) (pairC c) then z else c) := by split <;> rfl
    rw [e]; exact minL_pair cs _
theorem minC_mem : ∀ (cs : List (List Int)) (c : List Int), minC c cs ∈ c :: cs
  | [], c => List.mem_cons_self
  | z :: cs, c => by
    have h : minC c (z :: cs) = minC (if D.ltb (pairC z) (pairC c) then z else c) cs := rfl
    rw [h]
    rcases List.mem_cons.mp (minC_mem cs (if D.ltb (pairC z) (pairC c) then z else c)) with e | e
    · rw [e]; split
      · exact List.mem_cons_of_mem _ List.mem_cons_self
      · exact List.mem_cons_self
    · exact List.mem_cons_of_mem _ (List.mem_cons_of_mem _ e)
theorem toPs_ints : ∀ xs : List Int, D.toPs (xs.map D.int) = xs.map PyData.int
  | [] => rfl
  | x :: xs => by show PyData.int x :: D.toPs (xs.map D.int) = _; rw [toPs_ints xs]; rfl
theorem alike_ints : ∀ xs ys : List Int, PySem.W.alikeAll (xs.map PyData.int) (ys.map PyData.int) = true
  | [], _ => by simp [PySem.W.alikeAll]
  | _ :: _, [] => by simp [PySem.W.alikeAll]
  | x :: xs, y :: ys => by
    simp only [List.map_cons, PySem.W.alikeAll, PySem.W.alike, Bool.true_and]
    exact alike_ints xs ys
theorem alike_pair (c c' : List Int) : PySem.W.alike (pairC c).toP (pairC c').toP = true := by
  have e : ∀ c : List Int, (pairC c).toP = .tuple [.int c.length, .tuple (c.map PyData.int)] := fun c => by
    show PyData.tuple [.int c.length, .tuple (D.toPs (c.map D.int))] = _
    rw [toPs_ints]
  rw [e, e]
  simp only [PySem.W.alike, PySem.W.alikeAll, Bool.true_and, Bool.and_true]
  exact alike_ints c c'
theorem pls_pairs : ∀ cs : List (List Int), D.pls (cs.map pairC) = true
  | [] => rfl
  | c :: cs => by
    show (D.pl (pairC c) && D.pls (cs.map pairC)) = true
    rw [pls_pairs cs, Bool.and_true]
    show (true && (D.pls (c.map D.int) && true)) = true
    rw [pls_ints]; rfl
theorem deps_pairs : ∀ cs : List (List Int), D.deps (cs.map pairC) ≤ 2
  | [] => by decide
  | c :: cs => by
    show max (D.dep (pairC c)) (D.deps (cs.map pairC)) ≤ 2
    have h : D.dep (pairC c) = 2 := by
      show max 0 (max (D.deps (c.map D.int) + 1) 0) + 1 = 2
      rw [deps_ints]; rfl
    have := deps_pairs cs
    omega
theorem alk_pairs (cs : List (List Int)) : alkD (cs.map pairC) = true := by
  unfold alkD
  rw [pls_pairs, Bool.true_and, Bool.and_eq_true, List.all_eq_true]
  refine ⟨decide_eq_true (Nat.le_trans (deps_pairs cs) (by decide)), fun x hx => ?_⟩
  obtain ⟨c, _, rfl⟩ := List.mem_map.mp hx
  rw [Bool.and_eq_true, List.all_eq_true]
  refine ⟨rfl, fun y hy => ?_⟩
  obtain ⟨c', _, rfl⟩ := List.mem_map.mp hy
  exact alike_pair c c'
def pickD : Option (List Int) → D
  | none => .tup [.int 0, .non]
  | some c => pairC c
theorem mind_pairs (cs : List (List Int)) : mindD (.lst (cs.map pairC)) (.tup [.int 0, .non]) = some (pickD (pick cs)) := by
  cases cs with
  | nil => rfl
  | cons c cs =>
    show (if alkD ((c :: cs).map pairC) then some (minL (pairC c) (cs.map pairC)) else none) = _
    rw [if_pos (alk_pairs _), minL_pair]; rfl
theorem sub_pick (o : Option (List Int)) : subD (pickD o) (.int 1) = some (optD o) := by cases o <;> rfl
def atC (L : List (Option (List Int))) (j : Int) : Option (List Int) := (L[j.toNat]?).getD none
def cands (ds : List (List Mv)) (f k : Nat) (L : List (Option (List Int))) : List (List Int) :=
  ((ahd ds k).filter fun j => (atC L j).isSome).map (fun j => (atC L j).getD [] ++ [(k : Int)]) ++ if f ∈ stAt ds k then [[(k : Int)]] else []
/-- the chains of the first k deals -/
def chs (ds : List (List Mv)) (f : Nat) : Nat → List (Option (List Int))
  | 0 => []
  | k + 1 => chs ds f k ++ [pick (cands ds f k (chs ds f k))]
theorem chs_len (ds : List (List Mv)) (f : Nat) : ∀ k, (chs ds f k).length = k
  | 0 => rfl
  | k + 1 => by unfold chs; rw [List.length_append, chs_len ds f k]; rfl
def chAt (ds : List (List Mv)) (f k : Nat) : Option (List Int) := pick (cands ds f k (chs ds f k))
theorem chs_at (ds : List (List Mv)) (f : Nat) : ∀ {n k : Nat}, k < n → (chs ds f n)[k]? = some (chAt ds f k)
  | n + 1, k, h => by
    unfold chs
    by_cases e : k < n
    · rw [List.getElem?_append_left (by rw [chs_len]; exact e)]; exact chs_at ds f e
    · obtain rfl : k = n := by omega
      rw [List.getElem?_append_right (by rw [chs_len]; exact Nat.le_refl _), chs_len, Nat.sub_self]; rfl
def fallsB (ds : List (List Mv)) (f k : Nat) : Bool := (chAt ds f k).isSome
theorem fallsB_eq (ds : List (List Mv)) (f k : Nat) : fallsB ds f k = (decide (f ∈ stAt ds k) || (ahd ds k).any fun j => fallsB ds f j.toNat) := by
  have hA : ((ahd ds k).any fun j => fallsB ds f j.toNat) = (ahd ds k).any fun j => (atC (chs ds f k) j).isSome := by
    rw [Bool.eq_iff_iff, List.any_eq_true, List.any_eq_true]
    have h : ∀ j ∈ ahd ds k, fallsB ds f j.toNat = (atC (chs ds f k) j).isSome := fun j hj => by
      obtain ⟨i, rfl, hi⟩ := ahd_mem hj
      unfold atC fallsB
      rw [Int.toNat_natCast, chs_at ds f hi]; rfl
    constructor
    · rintro ⟨j, hj, q⟩; exact ⟨j, hj, by rw [← h j hj]; exact q⟩
    · rintro ⟨j, hj, q⟩; exact ⟨j, hj, by rw [h j hj]; exact q⟩
  rw [hA]
  have hp : ∀ l : List (List Int), (pick l).isSome = !l.isEmpty := fun l => by cases l <;> rfl
  unfold fallsB chAt
  rw [hp]
  unfold cands
  by_cases e : f ∈ stAt ds k
  · rw [if_pos e, decide_eq_true e]; simp
  · rw [if_neg e, decide_eq_false e, List.append_nil, Bool.false_or]
    rw [Bool.eq_iff_iff, List.any_eq_true]
    simp [List.isEmpty_iff, List.filter_eq_nil_iff, Option.isSome_iff_ne_none]
def fallsL (ds : List (List Mv)) (f : Nat) : List Nat := (List.range ds.length).filter fun k => fallsB ds f k
end Fn
end

section
/-! Deals that fall: leans. -/
namespace Fn
open PySem L2 Eng
def f_leans : Df := ⟨"leans", 1, 8, (.cons (.par 1 2 (.lst .nil) (.dic0 false)) (.cons (.loop (.tp (.cons (.nm 3) (.cons (.nm 4) .nil))) (.enm (.var 0)) (.cons (.set 5 (.comp (.subv 7 (.con (.int 0))) (.nm 7) (.seq (.var 4)) .nil)) (.cons (.appv 1 (.tup (.cons (.var 5) (.cons (.sortset (.comp (.subv 2 (.var 6)) (.nm 6) (.seq (.var 5)) (.cons (.cmpv .inn (.var 6) 2) .nil))) .nil)))) (.cons (.loop (.nm 6) (.seq (.var 5)) (.cons (.setd 2 (.var 6) (.var 3)) .nil)) .nil)))) (.cons (.ret (.var 1)) .nil)))⟩
def f_chains_in : Df := ⟨"chains_in", 2, 9, (.cons (.set 2 (.lst .nil)) (.cons (.loop (.tp (.cons (.nm 3) (.cons (.tp (.cons (.nm 5) (.cons (.nm 6) .nil))) .nil))) (.enm (.call "leans" (.cons (.var 0) .nil))) (.cons (.set 4 (.comp (.bin .add (.subv 2 (.var 7)) (.tup (.cons (.var 3) .nil))) (.nm 7) (.seq (.var 6)) (.cons (.cmp .isnN (.subv 2 (.var 7)) (.con .non)) .nil))) (.cons (.cond (.cmpv .inn (.var 1) 5) (.cons (.appv 4 (.tup (.cons (.var 3) .nil))) .nil) .nil) (.cons (.appv 2 (.sub (.mind (.comp (.tup (.cons (.bltv .len 8) (.cons (.var 8) .nil))) (.nm 8) (.seq (.var 4)) .nil) (.tup (.cons (.con (.int 0)) (.cons (.con .non) .nil)))) (.con (.int 1)))) .nil)))) (.cons (.ret (.var 2)) .nil)))⟩
def f_falls_in : Df := ⟨"falls_in", 2, 4, (.cons (.ret (.blt .tuple (.cons (.comp (.var 2) (.tp (.cons (.nm 2) (.cons (.nm 3) .nil))) (.enm (.call "chains_in" (.cons (.var 0) (.cons (.var 1) .nil)))) (.cons (.cmp .isnN (.var 3) (.con .non)) .nil)) .nil))) .nil)⟩
def f_fallen : Df := ⟨"fallen", 3, 3, (.cons (.exp (.call "need_deals" (.cons (.var 0) (.cons (.var 1) .nil)))) (.cons (.exp (.call "need_within" (.cons (.var 2) (.cons (.bin .sub (.bltv .len 0) (.con (.int 1))) .nil)))) (.cons (.ret (.call "falls_in" (.cons (.var 1) (.cons (.var 2) .nil)))) .nil)))⟩
def f_owners_left : Df := ⟨"owners_left", 3, 6, (.cons (.exp (.call "need_deals" (.cons (.var 0) (.cons (.var 1) .nil)))) (.cons (.exp (.call "need_within" (.cons (.var 2) (.cons (.bin .sub (.bltv .len 0) (.con (.int 1))) .nil)))) (.cons (.set 3 (.call "falls_in" (.cons (.var 1) (.cons (.var 2) .nil)))) (.cons (.ret (.call "all_done" (.cons (.var 0) (.cons (.comp (.var 5) (.tp (.cons (.nm 4) (.cons (.nm 5) .nil))) (.enm (.var 1)) (.cons (.cmpv .nin (.var 4) 3) .nil)) .nil)))) .nil))))⟩
def f_law_came : Df := ⟨"_law_came", 3, 5, (.cons (.loop (.nm 3) (.rng3 (.bin .sub (.var 2) (.con (.int 1))) (.neg (.con (.int 1))) (.neg (.con (.int 1)))) (.cons (.cond (.cmp .inn (.var 1) (.comp (.subv 4 (.con (.int 0))) (.nm 4) (.seq (.subv 0 (.var 3))) .nil)) (.cons (.ret (.var 3)) .nil) .nil) .nil)) (.cons (.ret (.con .non)) .nil))⟩
def f_law_falls : Df := ⟨"_law_falls", 3, 10, (.cons (.set 3 (.comp (.subv 6 (.con (.int 0))) (.nm 6) (.seq (.subv 0 (.var 2))) .nil)) (.cons (.cond (.cmpv .inn (.var 1) 3) (.cons (.ret (.con (.bl true))) .nil) .nil) (.cons (.set 4 (.comp (.call "_law_came" (.cons (.var 0) (.cons (.var 7) (.cons (.var 2) .nil)))) (.nm 7) (.seq (.var 3)) .nil)) (.cons (.set 5 (.sortset (.comp (.var 9) (.nm 9) (.seq (.var 4)) (.cons (.cmp .isnN (.var 9) (.con .non)) .nil)))) (.cons (.ret (.cmp .ne (.comp (.var 8) (.nm 8) (.seq (.var 5)) (.cons (.call "_law_falls" (.cons (.var 0) (.cons (.var 1) (.cons (.var 8) .nil)))) .nil)) (.lst .nil))) .nil)))))⟩

structure HasFall (P : Str → Option Df) : Prop where
  leans : P "leans" = some f_leans
  chains : P "chains_in" = some f_chains_in
  falls : P "falls_in" = some f_falls_in
  fallen : P "fallen" = some f_fallen
  left : P "owners_left" = some f_owners_left
structure HasLawFall (P : Str → Option Df) : Prop where
  came : P "_law_came" = some f_law_came
  falls : P "_law_falls" = some f_law_falls
section
variable {P : Str → Option Df} {gl : Str → Option D} {S : Store} {n k : Nat} {cf : CF}
/-- the dict of the last deals -/
structure Lst (ks : List Key) (vs : List D) (m : Nat → Option Nat) : Prop where
  len : ks.length = vs.length
  at_ : ∀ s : Nat, findK ks vs (.inl (s : Int)) = (m s).map natD
theorem Lst.put {ks : List Key} {vs : List D} {m : Nat → Option Nat} (h : Lst ks vs m) (s j : Nat) : Lst (putKs ks (.inl (s : Int))) (putVs ks vs (.inl (s : Int)) (natD j)) (fun r => if r = s then some j else m r) where
  len := (put_len h.len _ _).1
  at_ := fun r => by
    rw [findK_put h.len, h.at_]
    by_cases e : r = s
    · subst e; rw [if_pos rfl, if_pos rfl]; rfl
    · rw [if_neg (fun z => e (by have := Sum.inl.inj z; omega)), if_neg e]
theorem leans_in {x0 x1 x3 x4 x5 x7 : Option Val} {j : Nat} (h3 : x3 = some (.fz (natD j))) : (ss : List Nat) → (ks : List Key) → (vs : List D) → (m : Nat → Option Nat) → (a : Option Val) → Lst ks vs m → ks.length + ss.length < 1000 → nOwn a = true →
    ∃ ks' vs' a', loopGo (.nm 6) (exs cf gl (.cons (.setd 2 (.var 6) (.var 3)) .nil)) (ss.map natD) [x0, x1, some (.own (.dK ks vs)), x3, x4, x5, a, x7] S = .nx [x0, x1, some (.own (.dK ks' vs')), x3, x4, x5, a', x7] S ∧ Lst ks' vs' (fun r => if r ∈ ss then some j else m r) ∧ ks'.length ≤ ks.length + ss.length ∧ nOwn a' = true
  | [], ks, vs, m, a, h, _, ha => ⟨ks, vs, a, rfl, by simpa using h, Nat.le_refl _, ha⟩
  | s :: ss, ks, vs, m, a, h, hl, _ => by
    subst h3
    have hl' : ks.length + (ss.length + 1) < 1000 := hl
    have e : exs cf gl (.cons (.setd 2 (.var 6) (.var 3)) .nil) [x0, x1, some (.own (.dK ks vs)), some (.fz (natD j)), x4, x5, some (.fz (natD s)), x7] S = .nx [x0, x1, some (.own (.dK (putKs ks (.inl (s : Int))) (putVs ks vs (.inl (s : Int)) (natD j)))), some (.fz (natD j)), x4, x5, some (.fz (natD s)), x7] S := by
      have e1 : ∀ fr : Eng.Frame, fr[2]? = some (some (.own (.dK ks vs))) → setdX 2 (natD s) (natD j) fr S = .nx (fr.set 2 (some (.own (.dK (putKs ks (.inl (s : Int))) (putVs ks vs (.inl (s : Int)) (natD j)))))) S := fun fr hf => setdK hf rfl (Nat.lt_trans (by omega) small1000')
      have e2 : ownT 2 [x0, x1, some (.own (.dK ks vs)), some (.fz (natD j)), x4, x5, some (.fz (natD s)), x7] = true := rfl
      walk_at "eng*"
      rw [e1 _ rfl]
      walk_at "eng"
    have pl := put_len h.len (Sum.inl (s : Int) : Key) (natD j)
    obtain ⟨ks', vs', a', q1, q2, q3, q4⟩ := leans_in (x0 := x0) (x1 := x1) (x3 := some (.fz (natD j))) (x4 := x4) (x5 := x5) (x7 := x7) rfl ss _ _ _ (some (.fz (natD s))) (h.put s j) (by omega) rfl
    refine ⟨ks', vs', a', ?_, ⟨q2.len, fun r => ?_⟩, by show ks'.length ≤ ks.length + (ss.length + 1); omega, q4⟩
    · rw [List.map_cons, loop_step (fr1 := [x0, x1, some (.own (.dK ks vs)), some (.fz (natD j)), x4, x5, some (.fz (natD s)), x7]) rfl e]; exact q1
    · rw [q2.at_]
      congr 1
      by_cases z1 : r ∈ ss
      · rw [if_pos z1, if_pos (List.mem_cons_of_mem _ z1)]
      · rw [if_neg z1]
        by_cases z2 : r = s
        · subst z2; rw [if_pos rfl, if_pos List.mem_cons_self]
        · rw [if_neg z2, if_neg (fun z => by rcases List.mem_cons.mp z with z | z <;> contradiction)]
theorem ahd_ints {ds : List (List Mv)} {k : Nat} (hl : (stAt ds k).length ≤ 60) : sortsetD (.lst ((((stAt ds k).filter fun s => (came ds k s).isSome)).map fun s => ((came ds k s).map natD).getD .non)) = some (.own (.lst ((ahd ds k).map .int))) := by
  have e : (((stAt ds k).filter fun s => (came ds k s).isSome)).map (fun s => ((came ds k s).map natD).getD .non) = ((stAt ds k).filterMap fun s => (came ds k s).map fun j : Nat => (j : Int)).map D.int := by
    induction stAt ds k with
    | nil => rfl
    | cons s ss ih =>
      rw [List.filter_cons, List.filterMap_cons]
      cases q : came ds k s with
      | none => simp only [Option.isSome_none, Option.map_none, Bool.false_eq_true, if_false]; exact ih
      | some j => simp only [Option.isSome_some, Option.map_some, if_true, List.map_cons, q, Option.getD_some, ih]; rfl
  rw [e]
  show ((intL _).bind _) = _
  rw [intL_int]
  refine (if_pos ?_).trans rfl
  exact Nat.le_trans (List.length_filterMap_le ..) hl
theorem leans (hP : HasFall P) (hn : 1 ≤ n) {ds : List (List Mv)} (hl : ds.length ≤ 10) (hm : ∀ ms ∈ ds, ms.length ≤ 6) :
    callN P gl n "leans" [dealsD ds] S = .ok (.own (.lst ((List.range ds.length).map (rowD ds)))) S := by
  obtain ⟨m, rfl⟩ : ∃ m, n = m + 1 := ⟨n - 1, by omega⟩
  rw [callN_run hP.leans rfl]
  show RS.done (exs (callN P gl m) gl f_leans.body [some (.fz (.tup (ds.map dealD))), none, none, none, none, none, none, none] S) = _
  unfold f_leans
  walk_at "eng"
  rw [enumD_map dealD ds []]
  obtain ⟨fr', S', hlo, ks, vs, a3, a4, a5, a6, a7, rfl, rfl, _⟩ := loop_inv0 (tg := .tp (.cons (.nm 3) (.cons (.nm 4) .nil))) (body := exs (callN P gl m) gl (.cons (.set 5 (.comp (.subv 7 (.con (.int 0))) (.nm 7) (.seq (.var 4)) .nil)) (.cons (.appv 1 (.tup (.cons (.var 5) (.cons (.sortset (.comp (.subv 2 (.var 6)) (.nm 6) (.seq (.var 5)) (.cons (.cmpv .inn (.var 6) 2) .nil))) .nil)))) (.cons (.loop (.nm 6) (.seq (.var 5)) (.cons (.setd 2 (.var 6) (.var 3)) .nil)) .nil))))
    (fun j fr T => ∃ ks vs a3 a4 a5 a6 a7, fr = [some (.fz (.tup (ds.map dealD))), some (.own (.lst ((List.range j).map (rowD ds)))), some (.own (.dK ks vs)), a3, a4, a5, a6, a7] ∧ T = S ∧ Lst ks vs (came ds j) ∧ ks.length ≤ 6 * j ∧ nOwn a6 = true ∧ nOwn a7 = true)
    (ds := (List.range ds.length).map fun k => .tup [.int (k : Nat), dealD (ds.getD k [])]) (fr := [some (.fz (.tup (ds.map dealD))), some (.own (.lst [])), some (.own (.dK [] [])), none, none, none, none, none]) (S := S)
    ⟨[], [], _, _, _, _, _, rfl, rfl, ⟨rfl, fun _ => rfl⟩, Nat.zero_le _, rfl, rfl⟩ (by
    rintro j d fr T hd ⟨ks, vs, a3, a4, a5, a6, a7, rfl, rfl, hL, hk, h6, h7⟩
    rw [List.getElem?_map] at hd
    obtain ⟨j', hj', rfl⟩ := Option.map_eq_some_iff.mp hd
    have hj : j < ds.length := by have := (List.getElem?_eq_some_iff.mp hj').1; rwa [List.length_range] at this
    rw [List.getElem?_range hj] at hj'
    cases hj'
    have eg : ds.getD j [] = ds[j] := by rw [List.getD_eq_getElem?_getD, List.getElem?_eq_getElem hj]; rfl
    have es : stAt ds j = (ds[j]).map (·.1) := by unfold stAt; rw [List.getElem?_eq_getElem hj]; rfl
    have h6l : (ds[j]).length ≤ 6 := hm _ (List.getElem_mem hj)
    have sl : (stAt ds j).length ≤ 6 := by rw [es, List.length_map]; exact h6l
    rw [eg]
    generalize hms : ds[j] = ms at *
    have k1 : kComp (callN P gl m) gl (.subv 7 (.con (.int 0))) (.nm 7) .nil (ms.map mvD) [some (.fz (.tup (ds.map dealD))), some (.own (.lst ((List.range j).map (rowD ds)))), some (.own (.dK ks vs)), some (.fz (natD j)), some (.fz (dealD ms)), a5, a6, a7] T
        = .ok (.own (.lst ((stAt ds j).map natD))) [some (.fz (.tup (ds.map dealD))), some (.own (.lst ((List.range j).map (rowD ds)))), some (.own (.dK ks vs)), some (.fz (natD j)), some (.fz (dealD ms)), a5, a6, a7] T := by
      rw [es, List.map_map]
      refine kComp_all (frw := [some (.fz (.tup (ds.map dealD))), some (.own (.lst ((List.range j).map (rowD ds)))), some (.own (.dK ks vs)), some (.fz (natD j)), some (.fz (dealD ms)), a5, a6, none]) mvD _ ms ?_ rfl rfl (Nat.le_trans (by omega) small12) fun x hx => ?_
      · show (nOwn a7 && true) = true
        rw [h7]; rfl
      · exact ⟨_, rfl, rfl, rfl, rfl⟩
    have k2 : kComp (callN P gl m) gl (.subv 2 (.var 6)) (.nm 6) (.cons (.cmpv .inn (.var 6) 2) .nil) ((stAt ds j).map natD) [some (.fz (.tup (ds.map dealD))), some (.own (.lst ((List.range j).map (rowD ds)))), some (.own (.dK ks vs)), some (.fz (natD j)), some (.fz (dealD ms)), some (.fz (.lst ((stAt ds j).map natD))), a6, a7] T
        = .ok (.own (.lst (((stAt ds j).filter fun s => (came ds j s).isSome).map fun s => ((came ds j s).map natD).getD .non))) [some (.fz (.tup (ds.map dealD))), some (.own (.lst ((List.range j).map (rowD ds)))), some (.own (.dK ks vs)), some (.fz (natD j)), some (.fz (dealD ms)), some (.fz (.lst ((stAt ds j).map natD))), a6, a7] T := by
      refine kComp_typed (frw := [some (.fz (.tup (ds.map dealD))), some (.own (.lst ((List.range j).map (rowD ds)))), some (.own (.dK ks vs)), some (.fz (natD j)), some (.fz (dealD ms)), some (.fz (.lst ((stAt ds j).map natD))), none, a7]) natD _ _ (stAt ds j) ?_ rfl rfl (Nat.le_trans (by omega) small12) fun s hs => ?_
      · show (nOwn a6 && true) = true
        rw [h6]; rfl
      · have f1 := hL.at_ s
        have f2 : cmpD .inn (natD s) (.dic ks vs) = some (came ds j s).isSome := by
          show ((some (Sum.inl (s : Int) : Key)).map fun k => (findK ks vs k).isSome) = _
          rw [Option.map_some, f1]
          cases came ds j s <;> rfl
        have f3 : (came ds j s).isSome = true → subD (.dic ks vs) (natD s) = some (((came ds j s).map natD).getD .non) := fun q => by
          show findK ks vs (.inl (s : Int)) = _
          rw [f1]
          cases hc : came ds j s with
          | none => rw [hc] at q; cases q
          | some i => rfl
        refine ⟨[some (.fz (.tup (ds.map dealD))), some (.own (.lst ((List.range j).map (rowD ds)))), some (.own (.dK ks vs)), some (.fz (natD j)), some (.fz (dealD ms)), some (.fz (.lst ((stAt ds j).map natD))), some (.fz (natD s)), a7], rfl, ?_, fun q => ?_, rfl⟩
        · have lk : look T (natD s) = natD s := rfl
          clear f1 f3 k1 hm hd es
          walk_at "eng*"
        · have f3 := f3 q
          unfold eltX
          clear f1 f2 k1 q hm hd es
          walk_at "eng*"
    have k3 := ahd_ints (ds := ds) (k := j) (by omega)
    obtain ⟨ks', vs', a6', q1, q2, q3, q4⟩ := leans_in (cf := callN P gl m) (gl := gl) (S := T) (x0 := some (.fz (.tup (ds.map dealD)))) (x1 := some (.own (.lst (((List.range j).map (rowD ds)) ++ [rowD ds j])))) (x3 := some (.fz (natD j))) (x4 := some (.fz (dealD ms))) (x5 := some (.fz (.lst ((stAt ds j).map natD)))) (x7 := a7) rfl (stAt ds j) ks vs (came ds j) a6 hL (by omega) h6
    have k4 : ∀ fr : Eng.Frame, fr[1]? = some (some (.own (.lst ((List.range j).map (rowD ds))))) → appX 1 (.tup [.lst ((stAt ds j).map natD), .lst ((ahd ds j).map .int)]) fr T = .nx (fr.set 1 (some (.own (.lst (((List.range j).map (rowD ds)) ++ [rowD ds j]))))) T := fun fr hf => appX_at hf (by rw [List.length_map, List.length_range]; exact Nat.lt_of_lt_of_le (m := 12) (by omega) small12)
    refine ⟨[some (.fz (.tup (ds.map dealD))), some (.own (.lst ((List.range j).map (rowD ds)))), some (.own (.dK ks vs)), some (.fz (natD j)), some (.fz (dealD ms)), a5, a6, a7], _, T, rfl, ?_, ks', vs', some (.fz (natD j)), some (.fz (dealD ms)), some (.fz (.lst ((stAt ds j).map natD))), a6', a7, rfl, rfl, ⟨q2.len, fun s => ?_⟩, by omega, q4, h7⟩
    · rw [List.range_succ, List.map_append]
      have dm : dealD ms = .tup (ms.map mvD) := rfl
      have o1 : ownL 1 [some (.fz (.tup (ds.map dealD))), some (.own (.lst ((List.range j).map (rowD ds)))), some (.own (.dK ks vs)), some (.fz (natD j)), some (.fz (dealD ms)), some (.own (.lst ((stAt ds j).map natD))), a6, a7] = true := rfl
      rw [dm] at k1 k2 q1 o1
      rw [dm]
      clear hL hk h6 h7 hd eg es h6l sl hms hm q2 q3 q4 dm
      walk_at "eng*"
      rw [k4 _ rfl]
      walk_at "eng*"
      rfl
    · rw [q2.at_]; rfl)
  rw [hlo]
  walk_at "eng"
  rw [List.length_map, List.length_range]
end
end Fn
end

section
/-! Deals that fall: chains, the deals that fall, the owners that are left. -/
namespace Fn
open PySem L2 Eng

section
variable {P : Str → Option Df} {gl : Str → Option D} {S : Store} {n k : Nat} {cf : CF}
theorem in_nats (f : Nat) (ss : List Nat) : cmpD .inn (natD f) (.lst (ss.map natD)) = some (decide (f ∈ ss)) := by
  have h1 : D.pls (ss.map natD) = true := by
    have : ss.map natD = (ss.map fun s : Nat => (s : Int)).map D.int := by rw [List.map_map]; rfl
    rw [this]; exact pls_ints _
  show (if (natD f).pl && D.pls (ss.map natD) && decide (min (D.deps (ss.map natD)) (natD f).dep ≤ 64) then some ((ss.map natD).any fun y => D.eqv y (natD f)) else none) = _
  have h2 : decide (min (D.deps (ss.map natD)) (natD f).dep ≤ 64) = true := decide_eq_true (Nat.le_trans (Nat.min_le_right _ _) (by show 0 ≤ 64; omega))
  rw [h1, h2]
  show some ((ss.map natD).any fun y => D.eqv y (natD f)) = _
  congr 1
  rw [Bool.eq_iff_iff, List.any_eq_true, decide_eq_true_iff]
  constructor
  · rintro ⟨y, hy, e⟩
    obtain ⟨s, hs, rfl⟩ := List.mem_map.mp hy
    have e : ((s : Int) == (f : Int)) = true := e
    have : s = f := by have := eq_of_beq e; omega
    rw [← this]; exact hs
  · intro h
    exact ⟨natD f, List.mem_map.mpr ⟨f, h, rfl⟩, by show ((f : Int) == (f : Int)) = true; simp⟩
theorem in_natsT (f : Nat) (ss : List Nat) : cmpD .inn (natD f) (.tup (ss.map natD)) = some (decide (f ∈ ss)) := in_nats f ss
theorem nin_natsT (f : Nat) (ss : List Nat) : cmpD .nin (natD f) (.tup (ss.map natD)) = some (!decide (f ∈ ss)) := by
  show (inD _ _).map _ = _
  have h : inD (natD f) (.tup (ss.map natD)) = some (decide (f ∈ ss)) := in_natsT f ss
  rw [h]; rfl
theorem optD_isn (o : Option (List Int)) : cmpD .isnN (optD o) .non = some o.isSome := by cases o <;> rfl
theorem look_optD (T : Store) (o : Option (List Int)) : look T (optD o) = optD o := by cases o <;> rfl
theorem chs_get (ds : List (List Mv)) (f : Nat) {j k : Nat} (h : j < k) : atD ((chs ds f k).map optD) (Int.ofNat j) = some (optD (atC (chs ds f k) (Int.ofNat j))) := by
  refine atD_nat (i := j) rfl ?_
  rw [List.getElem?_map, chs_at ds f h]
  unfold atC
  show _ = some (optD (((chs ds f k)[(Int.ofNat j).toNat]?).getD none))
  have : (Int.ofNat j).toNat = j := Int.toNat_natCast j
  rw [this, chs_at ds f h]; rfl
theorem ahd_len (ds : List (List Mv)) (k : Nat) (h : (stAt ds k).length ≤ 6) : (ahd ds k).length ≤ 6 := by
  have hs : ∀ l : List Int, (setI l).length ≤ l.length := fun l => by
    induction l with
    | nil => exact Nat.le_refl _
    | cons x xs ih =>
      have hi : ∀ (k : Int) (l : List Int), (insU k l).length ≤ l.length + 1 := fun k l => by
        induction l with
        | nil => exact Nat.le_refl _
        | cons y ys ih2 =>
          unfold insU
          split
          · exact Nat.le_refl _
          · split
            · exact Nat.le_succ _
            · exact Nat.succ_le_succ ih2
      exact Nat.le_trans (hi x (setI xs)) (Nat.succ_le_succ ih)
  unfold ahd
  exact Nat.le_trans (hs _) (Nat.le_trans (List.length_filterMap_le ..) h)
theorem cands_len {ds : List (List Mv)} {f k : Nat} (L : List (Option (List Int))) (h : (stAt ds k).length ≤ 6) : (cands ds f k L).length ≤ 7 := by
  unfold cands
  rw [List.length_append, List.length_map]
  have h1 := ahd_len ds k h
  have h2 := List.length_filter_le (fun j => (atC L j).isSome) (ahd ds k)
  split
  · simp only [List.length_cons, List.length_nil]; omega
  · simp only [List.length_nil]; omega
theorem chs_opt_len (ds : List (List Mv)) (f : Nat) : ∀ (k : Nat) (c : List Int), some c ∈ chs ds f k → c.length ≤ k
  | 0, c, h => nomatch h
  | k + 1, c, h => by
    unfold chs at h
    rcases List.mem_append.mp h with h | h
    · exact Nat.le_succ_of_le (chs_opt_len ds f k c h)
    · have h := List.mem_singleton.mp h
      cases q : cands ds f k (chs ds f k) with
      | nil => rw [q] at h; cases h
      | cons c0 cs =>
        rw [q] at h
        have h := Option.some.inj h
        have hm : c ∈ cands ds f k (chs ds f k) := by rw [q, h]; exact minC_mem cs c0
        unfold cands at hm
        rcases List.mem_append.mp hm with hm | hm
        · obtain ⟨j, hj, rfl⟩ := List.mem_map.mp hm
          obtain ⟨hj1, hj2⟩ := List.mem_filter.mp hj
          rw [List.length_append]
          cases q2 : atC (chs ds f k) j with
          | none => rw [q2] at hj2; cases hj2
          | some c2 =>
            have : some c2 ∈ chs ds f k := by
              unfold atC at q2
              cases q3 : (chs ds f k)[j.toNat]? with
              | none => rw [q3] at q2; cases q2
              | some o => rw [q3] at q2; rw [← q2]; exact List.mem_of_getElem? q3
            have := chs_opt_len ds f k c2 this
            show c2.length + 1 ≤ k + 1
            omega
        · split at hm
          · rw [List.mem_singleton.mp hm]; simp
          · cases hm
theorem atC_len {ds : List (List Mv)} {f k : Nat} {j : Int} {c : List Int} (h : atC (chs ds f k) j = some c) : c.length ≤ k := by
  unfold atC at h
  cases q3 : (chs ds f k)[j.toNat]? with
  | none => rw [q3] at h; cases h
  | some o => rw [q3] at h; exact chs_opt_len ds f k c (by rw [← h]; exact List.mem_of_getElem? q3)
theorem add_chain {c : List Int} {k : Nat} (h : c.length ≤ 100) : binD .add (.tup (c.map .int)) (.tup [natD k]) = some (.fz (.tup ((c ++ [(k : Int)]).map .int))) := by
  show (if (c.map D.int).length + 1 ≤ sizeLine then some (Val.fz (.tup (c.map D.int ++ [natD k]))) else none) = _
  rw [if_pos (by rw [List.length_map]; exact Nat.le_trans (by omega) (Nat.le_of_lt small1000')), List.map_append]; rfl
theorem chains_in (hP : HasFall P) (hn : 2 ≤ n) {ds : List (List Mv)} (hl : ds.length ≤ 10) (hm : ∀ ms ∈ ds, ms.length ≤ 6) (f : Nat) :
    callN P gl n "chains_in" [dealsD ds, natD f] S = .ok (.own (.lst ((chs ds f ds.length).map optD))) S := by
  obtain ⟨m, rfl⟩ : ∃ m, n = m + 1 := ⟨n - 1, by omega⟩
  rw [callN_run hP.chains rfl]
  show RS.done (exs (callN P gl m) gl f_chains_in.body [some (.fz (dealsD ds)), some (.fz (natD f)), none, none, none, none, none, none, none] S) = _
  unfold f_chains_in
  have hle := leans (P := P) (gl := gl) (S := S) hP (n := m) (by omega) hl hm
  walk_at "eng*"
  rw [enumD_range]
  obtain ⟨fr', S', hlo, a3, a4, a5, a6, a7, a8, rfl, rfl, _⟩ := loop_inv0 (tg := (.tp (.cons (.nm 3) (.cons (.tp (.cons (.nm 5) (.cons (.nm 6) .nil))) .nil)))) (body := exs (callN P gl m) gl (.cons (.set 4 (.comp (.bin .add (.subv 2 (.var 7)) (.tup (.cons (.var 3) .nil))) (.nm 7) (.seq (.var 6)) (.cons (.cmp .isnN (.subv 2 (.var 7)) (.con .non)) .nil))) (.cons (.cond (.cmpv .inn (.var 1) 5) (.cons (.appv 4 (.tup (.cons (.var 3) .nil))) .nil) .nil) (.cons (.appv 2 (.sub (.mind (.comp (.tup (.cons (.bltv .len 8) (.cons (.var 8) .nil))) (.nm 8) (.seq (.var 4)) .nil) (.tup (.cons (.con (.int 0)) (.cons (.con .non) .nil)))) (.con (.int 1)))) .nil))))
    (fun j fr T => ∃ a3 a4 a5 a6 a7 a8, fr = [some (.fz (dealsD ds)), some (.fz (natD f)), some (.own (.lst ((chs ds f j).map optD))), a3, a4, a5, a6, a7, a8] ∧ T = S ∧ nOwn a7 = true ∧ nOwn a8 = true)
    (ds := (List.range ds.length).map fun k => .tup [.int (k : Nat), rowD ds k]) (fr := [some (.fz (dealsD ds)), some (.fz (natD f)), some (.own (.lst [])), none, none, none, none, none, none]) (S := S)
    ⟨_, _, _, _, _, _, rfl, rfl, rfl, rfl⟩ (by
    clear hle
    rintro j d fr T hd ⟨a3, a4, a5, a6, a7, a8, rfl, rfl, h7, h8⟩
    rw [List.getElem?_map] at hd
    obtain ⟨j', hj', rfl⟩ := Option.map_eq_some_iff.mp hd
    have hj : j < ds.length := by have := (List.getElem?_eq_some_iff.mp hj').1; rwa [List.length_range] at this
    rw [List.getElem?_range hj] at hj'
    cases hj'
    have es : stAt ds j = (ds[j]).map (·.1) := by unfold stAt; rw [List.getElem?_eq_getElem hj]; rfl
    have sl : (stAt ds j).length ≤ 6 := by rw [es, List.length_map]; exact hm _ (List.getElem_mem hj)
    clear es hd
    have al := ahd_len ds j sl
    have k1 : kComp (callN P gl m) gl (.bin .add (.subv 2 (.var 7)) (.tup (.cons (.var 3) .nil))) (.nm 7) (.cons (.cmp .isnN (.subv 2 (.var 7)) (.con .non)) .nil) ((ahd ds j).map D.int) [some (.fz (dealsD ds)), some (.fz (natD f)), some (.own (.lst ((chs ds f j).map optD))), some (.fz (natD j)), a4, some (.fz (.lst ((stAt ds j).map natD))), some (.fz (.lst ((ahd ds j).map .int))), a7, a8] T
        = .ok (.own (.lst (((ahd ds j).filter fun i => (atC (chs ds f j) i).isSome).map fun i => D.tup (((atC (chs ds f j) i).getD [] ++ [(j : Int)]).map .int)))) [some (.fz (dealsD ds)), some (.fz (natD f)), some (.own (.lst ((chs ds f j).map optD))), some (.fz (natD j)), a4, some (.fz (.lst ((stAt ds j).map natD))), some (.fz (.lst ((ahd ds j).map .int))), a7, a8] T := by
      refine kComp_typed (frw := [some (.fz (dealsD ds)), some (.fz (natD f)), some (.own (.lst ((chs ds f j).map optD))), some (.fz (natD j)), a4, some (.fz (.lst ((stAt ds j).map natD))), some (.fz (.lst ((ahd ds j).map .int))), none, a8]) D.int _ _ (ahd ds j) ?_ rfl rfl (Nat.le_trans (by omega) small12) fun i hi => ?_
      · show (nOwn a7 && true) = true
        rw [h7]; rfl
      · obtain ⟨i', rfl, hi'⟩ := ahd_mem hi
        have f1 := chs_get ds f hi'
        have f2 := optD_isn (atC (chs ds f j) (Int.ofNat i'))
        have lk := look_optD T (atC (chs ds f j) (Int.ofNat i'))
        refine ⟨[some (.fz (dealsD ds)), some (.fz (natD f)), some (.own (.lst ((chs ds f j).map optD))), some (.fz (natD j)), a4, some (.fz (.lst ((stAt ds j).map natD))), some (.fz (.lst ((ahd ds j).map .int))), some (.fz (.int (Int.ofNat i'))), a8], rfl, ?_, fun q => ?_, rfl⟩
        · clear hm hl h7 h8 al sl hi hi'
          show evC _ _ _ _ _ = .ok (atC (chs ds f j) (Int.ofNat i')).isSome _ _
          walk_at "eng*"
        · have q : (atC (chs ds f j) (Int.ofNat i')).isSome = true := q
          cases hc : atC (chs ds f j) (Int.ofNat i') with
          | none => rw [hc] at q; cases q
          | some c =>
            have f3 : binD .add (.tup (c.map .int)) (.tup [natD j]) = some (.fz (.tup ((c ++ [(j : Int)]).map .int))) := add_chain (by have := atC_len hc; omega)
            rw [hc] at f1 lk
            have od : optD (some c) = .tup (c.map .int) := rfl
            rw [od] at f1 lk
            have gd : (some c).getD [] = c := rfl
            rw [gd]
            clear hm hl h7 h8 al sl hi hi' f2 q hc od gd
            unfold eltX
            walk_at "eng*"
    have k2 := in_nats f (stAt ds j)
    have cl := cands_len (ds := ds) (f := f) (k := j) (chs ds f j) sl
    have fm : ∀ x4 : Option Val, x4 = some (.own (.lst ((cands ds f j (chs ds f j)).map fun c => D.tup (c.map .int)))) → exs (callN P gl m) gl (.cons (.appv 2 (.sub (.mind (.comp (.tup (.cons (.bltv .len 8) (.cons (.var 8) .nil))) (.nm 8) (.seq (.var 4)) .nil) (.tup (.cons (.con (.int 0)) (.cons (.con .non) .nil)))) (.con (.int 1)))) .nil) [some (.fz (dealsD ds)), some (.fz (natD f)), some (.own (.lst ((chs ds f j).map optD))), some (.fz (natD j)), x4, some (.fz (.lst ((stAt ds j).map natD))), some (.fz (.lst ((ahd ds j).map .int))), a7, a8] T
        = .nx [some (.fz (dealsD ds)), some (.fz (natD f)), some (.own (.lst ((chs ds f (j + 1)).map optD))), some (.fz (natD j)), some (.fz (.lst ((cands ds f j (chs ds f j)).map fun c => D.tup (c.map .int)))), some (.fz (.lst ((stAt ds j).map natD))), some (.fz (.lst ((ahd ds j).map .int))), a7, a8] T := by
      rintro _ rfl
      have g1 : kComp (callN P gl m) gl (.tup (.cons (.bltv .len 8) (.cons (.var 8) .nil))) (.nm 8) .nil ((cands ds f j (chs ds f j)).map fun c => D.tup (c.map .int)) [some (.fz (dealsD ds)), some (.fz (natD f)), some (.own (.lst ((chs ds f j).map optD))), some (.fz (natD j)), some (.fz (.lst ((cands ds f j (chs ds f j)).map fun c => D.tup (c.map .int)))), some (.fz (.lst ((stAt ds j).map natD))), some (.fz (.lst ((ahd ds j).map .int))), a7, a8] T
          = .ok (.own (.lst ((cands ds f j (chs ds f j)).map pairC))) [some (.fz (dealsD ds)), some (.fz (natD f)), some (.own (.lst ((chs ds f j).map optD))), some (.fz (natD j)), some (.fz (.lst ((cands ds f j (chs ds f j)).map fun c => D.tup (c.map .int)))), some (.fz (.lst ((stAt ds j).map natD))), some (.fz (.lst ((ahd ds j).map .int))), a7, a8] T := by
        refine kComp_all (frw := [some (.fz (dealsD ds)), some (.fz (natD f)), some (.own (.lst ((chs ds f j).map optD))), some (.fz (natD j)), some (.fz (.lst ((cands ds f j (chs ds f j)).map fun c => D.tup (c.map .int)))), some (.fz (.lst ((stAt ds j).map natD))), some (.fz (.lst ((ahd ds j).map .int))), a7, none]) (fun c : List Int => D.tup (c.map .int)) _ (cands ds f j (chs ds f j)) ?_ rfl rfl (Nat.le_trans (by omega) small12) fun c hc => ?_
        · show (nOwn a8 && true) = true
          rw [h8]; rfl
        · refine ⟨_, rfl, rfl, ?_, rfl⟩
          have e1 : bltD .len [.tup (c.map D.int)] = some (.fz (.int c.length)) := by
            show some (Val.fz (.int ((c.map D.int).length : Nat))) = _
            rw [List.length_map]
          unfold eltX pairC
          clear hm hl h7 h8 al sl k1 k2 cl hc
          walk_at "eng*"
      have g2 := mind_pairs (cands ds f j (chs ds f j))
      have g3 := sub_pick (pick (cands ds f j (chs ds f j)))
      have lk : look T (pickD (pick (cands ds f j (chs ds f j)))) = pickD (pick (cands ds f j (chs ds f j))) := by cases pick (cands ds f j (chs ds f j)) <;> rfl
      have g4 : ∀ fr : Eng.Frame, fr[2]? = some (some (.own (.lst ((chs ds f j).map optD)))) → appX 2 (optD (pick (cands ds f j (chs ds f j)))) fr T = .nx (fr.set 2 (some (.own (.lst ((chs ds f j).map optD ++ [optD (pick (cands ds f j (chs ds f j)))]))))) T := fun fr hf => appX_at hf (by rw [List.length_map, chs_len]; exact Nat.lt_of_lt_of_le (m := 12) (by omega) small12)
      have g5 : (chs ds f (j + 1)).map optD = (chs ds f j).map optD ++ [optD (pick (cands ds f j (chs ds f j)))] := by
        show (chs ds f j ++ [pick (cands ds f j (chs ds f j))]).map optD = _
        rw [List.map_append]; rfl
      rw [g5]
      clear hm hl h7 h8 al sl k1 k2 cl g5
      walk_at "eng*"
      rw [g4 _ rfl]
      walk_at "eng"
    have ap : ∀ (xs : List D) (fr : Eng.Frame), xs.length < 12 → fr[4]? = some (some (.own (.lst xs))) → appX 4 (.tup [natD j]) fr T = .nx (fr.set 4 (some (.own (.lst (xs ++ [.tup [natD j]]))))) T := fun xs fr hx hf => appX_at hf (Nat.lt_of_lt_of_le hx small12)
    refine ⟨[some (.fz (dealsD ds)), some (.fz (natD f)), some (.own (.lst ((chs ds f j).map optD))), some (.fz (natD j)), a4, some (.fz (.lst ((stAt ds j).map natD))), some (.fz (.lst ((ahd ds j).map .int))), a7, a8], _, T, rfl, ?_, some (.fz (natD j)), some (.fz (.lst ((cands ds f j (chs ds f j)).map fun c => D.tup (c.map .int)))), some (.fz (.lst ((stAt ds j).map natD))), some (.fz (.lst ((ahd ds j).map .int))), a7, a8, rfl, rfl, h7, h8⟩
    have lkn : look T (natD f) = natD f := rfl
    by_cases e : f ∈ stAt ds j
    · rw [decide_eq_true e] at k2
      have ec : (cands ds f j (chs ds f j)).map (fun c => D.tup (c.map .int)) = ((((ahd ds j).filter fun i => (atC (chs ds f j) i).isSome).map fun i => D.tup (((atC (chs ds f j) i).getD [] ++ [(j : Int)]).map .int))) ++ [.tup [natD j]] := by
        unfold cands
        rw [if_pos e, List.map_append, List.map_map]; rfl
      have fm' := fm _ (by rw [ec])
      have ap' := fun fr => ap ((((ahd ds j).filter fun i => (atC (chs ds f j) i).isSome).map fun i => D.tup (((atC (chs ds f j) i).getD [] ++ [(j : Int)]).map .int))) fr (by rw [List.length_map]; have := List.length_filter_le (fun i => (atC (chs ds f j) i).isSome) (ahd ds j); omega)
      clear hm hl h7 h8 al sl cl fm ap e ec
      walk_at "eng*"
      rw [ap' _ rfl]
      walk_at "eng"
      all_goals exact fm'
    · rw [decide_eq_false e] at k2
      have ec : (cands ds f j (chs ds f j)).map (fun c => D.tup (c.map .int)) = ((((ahd ds j).filter fun i => (atC (chs ds f j) i).isSome).map fun i => D.tup (((atC (chs ds f j) i).getD [] ++ [(j : Int)]).map .int))) := by
        unfold cands
        rw [if_neg e, List.append_nil, List.map_map]; rfl
      have fm' := fm _ (by rw [ec])
      clear hm hl h7 h8 al sl cl fm ap e ec
      walk_at "eng*"
      all_goals exact fm')
  rw [hlo]
  walk_at "eng"
  rw [List.length_map, List.length_range]
theorem falls_in (hP : HasFall P) (hn : 3 ≤ n) {ds : List (List Mv)} (hl : ds.length ≤ 10) (hm : ∀ ms ∈ ds, ms.length ≤ 6) (f : Nat) :
    callN P gl n "falls_in" [dealsD ds, natD f] S = .ok (.fz (.tup ((fallsL ds f).map natD))) S := by
  obtain ⟨m, rfl⟩ : ∃ m, n = m + 1 := ⟨n - 1, by omega⟩
  rw [callN_run hP.falls rfl]
  show RS.done (exs (callN P gl m) gl f_falls_in.body [some (.fz (dealsD ds)), some (.fz (natD f)), none, none] S) = _
  unfold f_falls_in
  have h1 := chains_in (P := P) (gl := gl) (S := S) hP (n := m) (by omega) hl hm f
  have h2 : (chs ds f ds.length).map optD = (List.range ds.length).map fun k => optD (chAt ds f k) := by
    refine List.ext_getElem? fun i => ?_
    rw [List.getElem?_map, List.getElem?_map]
    by_cases hi : i < ds.length
    · rw [chs_at ds f hi, List.getElem?_range hi]; rfl
    · rw [List.getElem?_eq_none (by rw [chs_len]; omega), List.getElem?_eq_none (by rw [List.length_range]; omega)]; rfl
  rw [h2] at h1
  have h3 : kComp (callN P gl m) gl (.var 2) (.tp (.cons (.nm 2) (.cons (.nm 3) .nil))) (.cons (.cmp .isnN (.var 3) (.con .non)) .nil) ((List.range ds.length).map fun k => D.tup [.int (k : Nat), optD (chAt ds f k)]) [some (.fz (dealsD ds)), some (.fz (natD f)), none, none] S = .ok (.own (.lst ((fallsL ds f).map natD))) [some (.fz (dealsD ds)), some (.fz (natD f)), none, none] S := by
    refine kComp_typed (frw := [some (.fz (dealsD ds)), some (.fz (natD f)), none, none]) (fun k : Nat => D.tup [.int (k : Nat), optD (chAt ds f k)]) natD (fun k => fallsB ds f k) (List.range ds.length) rfl rfl rfl (by rw [List.length_range]; exact Nat.le_trans (by omega) small12) fun k hk => ?_
    have f2 := optD_isn (chAt ds f k)
    have lk := look_optD S (chAt ds f k)
    refine ⟨[some (.fz (dealsD ds)), some (.fz (natD f)), some (.fz (natD k)), some (.fz (optD (chAt ds f k)))], rfl, ?_, fun q => rfl, rfl⟩
    unfold fallsB
    clear h1 h2 hm hl hk
    walk_at "eng*"
  clear hm hl h2
  walk_at "eng*"
  rw [enumD_range, h3]
  walk_at "eng"
theorem all_doneL (hP : HasDeals P gl) (hn : 2 ≤ n) {o : List Int} {ds : List (List Mv)} (h : ∀ ms ∈ ds, (∀ m ∈ ms, m.1 < o.length) ∧ ms.length ≤ 6) : callN P gl n "all_done" [ownD o, .lst (ds.map dealD)] S = .ok (.fz (optD (allDone o ds))) S := by
  obtain ⟨k, rfl⟩ : ∃ k, n = k + 1 := ⟨n - 1, by omega⟩
  rw [callN_run hP.all_done rfl]
  show RS.done (exs (callN P gl k) gl f_all_done.body [some (.fz (ownD o)), some (.fz (.lst (ds.map dealD))), none] S) = _
  unfold f_all_done
  walk_at "eng"
  rcases all_done_loop (S := S) (x1 := some (.fz (.lst (ds.map dealD)))) hP (n := k) (by omega) ds o none h with ⟨a', o2, h1, h2⟩ | ⟨fr', h1, h2⟩
  · rw [h1, h2]
    walk_at "eng"; rfl
  · rw [h1, h2]
    walk_at "eng"; rfl
theorem fallen (hD : HasDeals P gl) (hP : HasFall P) (hn : 6 ≤ n) {o : List Int} {ds : List (List Mv)} (ho : okOwn o) (hl : ds.length ≤ 10) (h : ∀ ms ∈ ds, okDeal o.length ms) {o' : List Int} (hd : allDone o ds = some o') {f : Nat} (hf : f < o.length) :
    callN P gl n "fallen" [ownD o, dealsD ds, natD f] S = .ok (.fz (.tup ((fallsL ds f).map natD))) S := by
  obtain ⟨m, rfl⟩ : ∃ m, n = m + 1 := ⟨n - 1, by omega⟩
  rw [callN_run hP.fallen rfl]
  show RS.done (exs (callN P gl m) gl f_fallen.body [some (.fz (ownD o)), some (.fz (dealsD ds)), some (.fz (natD f))] S) = _
  unfold f_fallen
  have h1 := need_deals (S := S) hD (n := m) (by omega) ho hl h hd
  have h2 := need_within (P := P) (gl := gl) (S := S) hD (n := m) (by omega) (i := (f : Int)) (m := (o.length : Int) - 1) (by omega) (by omega)
  have h3 := falls_in (P := P) (gl := gl) (S := S) hP (n := m) (by omega) hl (fun ms hm => (h ms hm).2.1) f
  have h4 : bltD .len [ownD o] = some (.fz (.int o.length)) := by
    show some (Val.fz (.int ((o.map D.int).length : Nat))) = _
    rw [List.length_map]
  have lk : look S (ownD o) = ownD o := rfl
  have nf : natD f = .int (f : Int) := rfl
  rw [nf] at h3 ⊢
  clear ho hl h hd hf nf
  walk_at "eng*"
def leftL (ds : List (List Mv)) (f : Nat) : List (List Mv) := ((List.range ds.length).filter fun k => !decide (k ∈ fallsL ds f)).map fun k => ds.getD k []
theorem leftL_mem {ds : List (List Mv)} {f : Nat} {ms : List Mv} (h : ms ∈ leftL ds f) : ms ∈ ds := by
  obtain ⟨k, hk, rfl⟩ := List.mem_map.mp h
  have hk := List.mem_range.mp (List.mem_filter.mp hk).1
  rw [List.getD_eq_getElem?_getD, List.getElem?_eq_getElem hk]
  exact List.getElem_mem hk
theorem owners_left (hD : HasDeals P gl) (hP : HasFall P) (hn : 6 ≤ n) {o : List Int} {ds : List (List Mv)} (ho : okOwn o) (hl : ds.length ≤ 10) (h : ∀ ms ∈ ds, okDeal o.length ms) {o' : List Int} (hd : allDone o ds = some o') {f : Nat} (hf : f < o.length) :
    callN P gl n "owners_left" [ownD o, dealsD ds, natD f] S = .ok (.fz (optD (allDone o (leftL ds f)))) S := by
  obtain ⟨m, rfl⟩ : ∃ m, n = m + 1 := ⟨n - 1, by omega⟩
  rw [callN_run hP.left rfl]
  show RS.done (exs (callN P gl m) gl f_owners_left.body [some (.fz (ownD o)), some (.fz (dealsD ds)), some (.fz (natD f)), none, none, none] S) = _
  unfold f_owners_left
  have h1 := need_deals (S := S) hD (n := m) (by omega) ho hl h hd
  have h2 := need_within (P := P) (gl := gl) (S := S) hD (n := m) (by omega) (i := (f : Int)) (m := (o.length : Int) - 1) (by omega) (by omega)
  have h3 := falls_in (P := P) (gl := gl) (S := S) hP (n := m) (by omega) hl (fun ms hm => (h ms hm).2.1) f
  have h4 : bltD .len [ownD o] = some (.fz (.int o.length)) := by
    show some (Val.fz (.int ((o.map D.int).length : Nat))) = _
    rw [List.length_map]
  have lk : look S (ownD o) = ownD o := rfl
  have nf : natD f = .int (f : Int) := rfl
  have h5 := all_doneL (S := S) hD (n := m) (by omega) (o := o) (ds := leftL ds f) (fun ms hm => ⟨fun x hx => ((h ms (leftL_mem hm)).2.2.1 x hx).1, (h ms (leftL_mem hm)).2.1⟩)
  have dm : dealsD ds = .tup (ds.map dealD) := rfl
  have h6 : kComp (callN P gl m) gl (.var 5) (.tp (.cons (.nm 4) (.cons (.nm 5) .nil))) (.cons (.cmpv .nin (.var 4) 3) .nil) (enumD (ds.map dealD)) [some (.fz (ownD o)), some (.fz (.tup (ds.map dealD))), some (.fz (.int (f : Int))), some (.fz (.tup ((fallsL ds f).map natD))), none, none] S
      = .ok (.own (.lst ((leftL ds f).map dealD))) [some (.fz (ownD o)), some (.fz (.tup (ds.map dealD))), some (.fz (.int (f : Int))), some (.fz (.tup ((fallsL ds f).map natD))), none, none] S := by
    unfold leftL
    rw [enumD_map dealD ds [], List.map_map]
    refine kComp_typed (frw := [some (.fz (ownD o)), some (.fz (.tup (ds.map dealD))), some (.fz (.int (f : Int))), some (.fz (.tup ((fallsL ds f).map natD))), none, none]) (fun k : Nat => D.tup [.int (k : Nat), dealD (ds.getD k [])]) _ _ (List.range ds.length) rfl rfl rfl (by rw [List.length_range]; exact Nat.le_trans (by omega) small12) fun k hk => ?_
    refine ⟨[some (.fz (ownD o)), some (.fz (.tup (ds.map dealD))), some (.fz (.int (f : Int))), some (.fz (.tup ((fallsL ds f).map natD))), some (.fz (natD k)), some (.fz (dealD (ds.getD k [])))], rfl, ?_, fun q => rfl, rfl⟩
    have f1 := nin_natsT k (fallsL ds f)
    have lk2 : look S (natD k) = natD k := rfl
    clear ho hl h hd hf nf h1 h2 h3 h4 h5 dm hk lk
    walk_at "eng*"
  rw [nf] at h3 ⊢
  rw [dm] at h1 h3 ⊢
  clear ho hl h hd hf nf dm
  walk_at "eng*"
end
end Fn
end

section
/-! Chains: what those told are (plain). -/
namespace Fn
open PySem L2 Eng
theorem pick_mem {l : List (List Int)} {c : List Int} (h : pick l = some c) : c ∈ l := by
  cases l with
  | nil => cases h
  | cons x xs => have h := Option.some.inj h; rw [← h]; exact minC_mem xs x
theorem chAt_cases {ds : List (List Mv)} {f k : Nat} {c : List Int} (h : chAt ds f k = some c) :
    (c = [(k : Int)] ∧ f ∈ stAt ds k) ∨ ∃ (j : Nat) (c' : List Int), j < k ∧ (j : Int) ∈ ahd ds k ∧ chAt ds f j = some c' ∧ c = c' ++ [(k : Int)] := by
  have hm := pick_mem h
  unfold cands at hm
  rcases List.mem_append.mp hm with hm | hm
  · obtain ⟨i, hi, rfl⟩ := List.mem_map.mp hm
    obtain ⟨h1, h2⟩ := List.mem_filter.mp hi
    obtain ⟨j, rfl, hj⟩ := ahd_mem h1
    have e : atC (chs ds f k) (j : Int) = chAt ds f j := by
      unfold atC
      rw [Int.toNat_natCast, chs_at ds f hj]; rfl
    rw [e] at h2
    cases q : chAt ds f j with
    | none => rw [q] at h2; cases h2
    | some c' => exact .inr ⟨j, c', hj, h1, q, by rw [e, q]; rfl⟩
  · split at hm
    · rename_i hf; exact .inl ⟨List.mem_singleton.mp hm, hf⟩
    · cases hm
/-- a chain, plainly: its places, its links -/
inductive Chn (ds : List (List Mv)) (f : Nat) : List Nat → Nat → Prop
  | one {k : Nat} : f ∈ stAt ds k → Chn ds f [k] k
  | add {c : List Nat} {j k : Nat} : Chn ds f c j → (j : Int) ∈ ahd ds k → j < k → Chn ds f (c ++ [k]) k
theorem chAt_chn {ds : List (List Mv)} {f : Nat} : ∀ (k : Nat) (c : List Int), chAt ds f k = some c → ∃ cs : List Nat, c = cs.map (fun i : Nat => (i : Int)) ∧ Chn ds f cs k ∧ ∀ i ∈ cs, fallsB ds f i = true := by
  intro k
  induction k using Nat.strongRecOn with
  | ind k ih =>
    intro c h
    have hk : fallsB ds f k = true := by unfold fallsB; rw [h]; rfl
    rcases chAt_cases h with ⟨rfl, hf⟩ | ⟨j, c', hj, ha, hc, rfl⟩
    · exact ⟨[k], rfl, .one hf, fun i hi => by rw [List.mem_singleton.mp hi]; exact hk⟩
    · obtain ⟨cs, rfl, h1, h2⟩ := ih j hj c' hc
      refine ⟨cs ++ [k], by rw [List.map_append]; rfl, .add h1 ha hj, fun i hi => ?_⟩
      rcases List.mem_append.mp hi with hi | hi
      · exact h2 i hi
      · rw [List.mem_singleton.mp hi]; exact hk
theorem Chn.le {ds : List (List Mv)} {f : Nat} {c : List Nat} {k : Nat} (h : Chn ds f c k) : ∀ i ∈ c, i ≤ k := by
  induction h with
  | one _ => intro i hi; rw [List.mem_singleton.mp hi]; exact Nat.le_refl _
  | add _ _ hj ih =>
    intro i hi
    rcases List.mem_append.mp hi with hi | hi
    · have := ih i hi; omega
    · rw [List.mem_singleton.mp hi]; exact Nat.le_refl _
theorem Chn.pw {ds : List (List Mv)} {f : Nat} {c : List Nat} {k : Nat} (h : Chn ds f c k) : c.Pairwise (· < ·) := by
  induction h with
  | one _ => exact List.pairwise_singleton _ _
  | add h1 _ hj ih =>
    rw [List.pairwise_append]
    refine ⟨ih, List.pairwise_singleton _ _, fun a ha b hb => ?_⟩
    rw [List.mem_singleton.mp hb]
    have := h1.le a ha; omega
theorem Chn.last {ds : List (List Mv)} {f : Nat} {c : List Nat} {k : Nat} (h : Chn ds f c k) : c.getLast? = some k := by
  cases h with
  | one _ => rfl
  | add _ _ _ => simp
theorem Chn.head {ds : List (List Mv)} {f : Nat} {c : List Nat} {k : Nat} (h : Chn ds f c k) : ∃ i, c.head? = some i ∧ f ∈ stAt ds i := by
  induction h with
  | one hf => exact ⟨_, rfl, hf⟩
  | add _ _ _ ih =>
    obtain ⟨i, h1, h2⟩ := ih
    exact ⟨i, by rw [List.head?_append, h1]; rfl, h2⟩
theorem Chn.links {ds : List (List Mv)} {f : Nat} {c : List Nat} {k : Nat} (h : Chn ds f c k) : ∀ p ∈ c.zip (c.drop 1), ((p.1 : Nat) : Int) ∈ ahd ds p.2 := by
  induction h with
  | one _ => intro p hp; simp at hp
  | @add c j k h1 ha hj ih =>
    intro p hp
    obtain ⟨c0, rfl⟩ : ∃ c0, c = c0 ++ [j] := by
      have := h1.last
      obtain ⟨ys, hy⟩ := List.getLast?_eq_some_iff.mp this
      exact ⟨ys, hy⟩
    obtain ⟨i, hi⟩ := List.mem_iff_getElem?.mp hp
    rw [List.getElem?_zip_eq_some] at hi
    obtain ⟨h2, h3⟩ := hi
    rw [List.getElem?_drop] at h3
    have hl : i + 1 < (c0 ++ [j] ++ [k]).length := by have := (List.getElem?_eq_some_iff.mp h3).1; omega
    rw [List.length_append, List.length_append] at hl
    simp only [List.length_singleton] at hl
    by_cases e : i + 1 = c0.length + 1
    · have e' : i = c0.length := by omega
      subst e'
      rw [List.getElem?_append_left (by simp), List.getElem?_append_right (Nat.le_refl _), Nat.sub_self] at h2
      rw [Nat.add_comm, List.getElem?_append_right (by simp)] at h3
      simp at h2 h3
      rw [← h2, ← h3]; exact ha
    · refine ih p (List.mem_iff_getElem?.mpr ⟨i, ?_⟩)
      rw [List.getElem?_zip_eq_some]
      rw [List.getElem?_append_left (by simp; omega)] at h2
      rw [List.getElem?_append_left (by simp; omega)] at h3
      exact ⟨h2, by rw [List.getElem?_drop]; exact h3⟩
/-! ### what stands can be done -/
/-- what a standing deal moves no fallen one ahead moves -/
theorem came_none {ds : List (List Mv)} {s : Nat} : ∀ {k : Nat}, came ds k s = none → ∀ j < k, s ∉ stAt ds j
  | k + 1, h, j, hj => by
    unfold came at h
    split at h
    · cases h
    · rename_i hn
      by_cases e : j = k
      · subst e; exact hn
      · exact came_none h j (by omega)
theorem came_some {ds : List (List Mv)} {s i : Nat} : ∀ {k : Nat}, came ds k s = some i → s ∈ stAt ds i ∧ ∀ j, i < j → j < k → s ∉ stAt ds j
  | k + 1, h => by
    unfold came at h
    split at h
    · rename_i hm
      cases h
      exact ⟨hm, fun j h1 h2 => by omega⟩
    · rename_i hn
      obtain ⟨h1, h2⟩ := came_some h
      refine ⟨h1, fun j h3 h4 => ?_⟩
      by_cases e : j = k
      · subst e; exact hn
      · exact h2 j h3 (by omega)
theorem stands {ds : List (List Mv)} {f : Nat} : ∀ (k s : Nat), fallsB ds f k = false → s ∈ stAt ds k → ∀ j < k, fallsB ds f j = true → s ∉ stAt ds j := by
  intro k
  induction k using Nat.strongRecOn with
  | ind k ih =>
    intro s hk hs j hj hf
    cases q : came ds k s with
    | none => exact came_none q j hj
    | some i =>
      obtain ⟨h1, h2⟩ := came_some q
      have hi := came_lt q
      have fi : fallsB ds f i = false := by
        rw [fallsB_eq, Bool.or_eq_false_iff] at hk
        have hm : (i : Int) ∈ ahd ds k := by
          unfold ahd
          rw [setI_mem, List.mem_filterMap]
          exact ⟨s, hs, by rw [q]; rfl⟩
        have := hk.2
        rw [List.any_eq_false] at this
        have := this _ hm
        rw [Int.toNat_natCast] at this
        simpa using this
      by_cases e : j = i
      · subst e; rw [fi] at hf; cases hf
      · by_cases e2 : j < i
        · exact ih i hi s fi h1 j e2 hf
        · exact h2 j (by omega) hj
end Fn
end

section
/-! What stands can be done; whose each stamp is then (plain). -/
namespace Fn
open PySem L2 Eng
theorem put_same {a b : List Int} {s : Nat} (hl : a.length = b.length) (h : a[s]? = b[s]?) (m : Mv) : (putM a m)[s]? = (putM b m)[s]? := by
  unfold putM
  rw [List.getElem?_set, List.getElem?_set, hl, h]
theorem puts_same {s : Nat} : ∀ (ms : List Mv) {a b : List Int}, a.length = b.length → a[s]? = b[s]? → (ms.foldl putM a)[s]? = (ms.foldl putM b)[s]?
  | [], _, _, _, h => h
  | m :: ms, a, b, hl, h => puts_same ms (by rw [putM_len, putM_len]; exact hl) (put_same hl h m)
theorem puts_not {s : Nat} : ∀ (ms : List Mv) {a : List Int}, s ∉ ms.map (·.1) → (ms.foldl putM a)[s]? = a[s]?
  | [], _, _ => rfl
  | m :: ms, a, h => by
    rw [List.map_cons, List.mem_cons, not_or] at h
    show (ms.foldl putM (putM a m))[s]? = _
    rw [puts_not ms h.2]
    unfold putM
    rw [List.getElem?_set_ne (fun z => h.1 z.symm)]
theorem doneF_some {o o' : List Int} {ms : List Mv} (h : doneF o ms = some o') : ms.all (holds o) = true ∧ o' = ms.foldl putM o := by
  unfold doneF at h
  split at h
  · rename_i q; cases h; exact ⟨q, rfl⟩
  · cases h
theorem holds_same {a b : List Int} {ms : List Mv} (h : ∀ m ∈ ms, a[m.1]? = b[m.1]?) (ha : ms.all (holds a) = true) : ms.all (holds b) = true := by
  rw [List.all_eq_true] at ha ⊢
  intro m hm
  have := ha m hm
  unfold holds at this ⊢
  rw [← h m hm]; exact this
/-- the first fallen deal ahead of k that moves s -/
def ffirst (ds : List (List Mv)) (f : Nat) : Nat → Nat → Option Nat
  | 0, _ => none
  | k + 1, s => match ffirst ds f k s with
    | some j => some j
    | none => if fallsB ds f k = true ∧ s ∈ stAt ds k then some k else none
theorem ffirst_none {ds : List (List Mv)} {f s : Nat} : ∀ {k : Nat}, (∀ j < k, fallsB ds f j = true → s ∉ stAt ds j) → ffirst ds f k s = none
  | 0, _ => rfl
  | k + 1, h => by
    unfold ffirst
    rw [ffirst_none fun j hj => h j (by omega)]
    show (if _ then _ else _) = _
    rw [if_neg]
    rintro ⟨h1, h2⟩
    exact h k (by omega) h1 h2
theorem ffirst_lt {ds : List (List Mv)} {f s j : Nat} : ∀ {k : Nat}, ffirst ds f k s = some j → j < k
  | k + 1, h => by
    unfold ffirst at h
    split at h
    · rename_i i q; cases h; exact Nat.lt_succ_of_lt (ffirst_lt q)
    · split at h
      · cases h; exact Nat.lt_succ_self _
      · cases h
def leftP (ds : List (List Mv)) (f k : Nat) : List (List Mv) := ((List.range k).filter fun j => !fallsB ds f j).map fun j => ds.getD j []
theorem leftP_succ (ds : List (List Mv)) (f k : Nat) : leftP ds f (k + 1) = leftP ds f k ++ if fallsB ds f k = true then [] else [ds.getD k []] := by
  unfold leftP
  rw [List.range_succ, List.filter_append, List.map_append]
  congr 1
  rw [List.filter_cons]
  cases fallsB ds f k <;> rfl
theorem leftL_eq (ds : List (List Mv)) (f : Nat) : leftL ds f = leftP ds f ds.length := by
  unfold leftL leftP
  congr 1
  refine List.filter_congr fun k hk => ?_
  congr 1
  unfold fallsL
  rw [Bool.eq_iff_iff, decide_eq_true_iff, List.mem_filter]
  exact ⟨fun h => h.2, fun h => ⟨hk, h⟩⟩
theorem take_succ' {ds : List (List Mv)} {k : Nat} (h : k < ds.length) : ds.take (k + 1) = ds.take k ++ [ds[k]] := by
  rw [List.take_succ, List.getElem?_eq_getElem h]; rfl
theorem allDone_pre {o : List Int} : ∀ {ds : List (List Mv)} {o' : List Int} (k : Nat), allDone o ds = some o' → ∃ a, allDone o (ds.take k) = some a := by
  intro ds
  induction ds generalizing o with
  | nil => intro o' k h; exact ⟨o, by rw [List.take_nil]; rfl⟩
  | cons ms ds ih =>
    intro o' k h
    cases k with
    | zero => exact ⟨o, rfl⟩
    | succ k =>
      have h' : (match doneF o ms with | none => none | some o1 => allDone o1 ds) = some o' := h
      cases q : doneF o ms with
      | none => rw [q] at h'; cases h'
      | some o1 =>
        rw [q] at h'
        obtain ⟨a, ha⟩ := ih k h'
        refine ⟨a, ?_⟩
        show (match doneF o ms with | none => none | some o1 => allDone o1 (ds.take k)) = _
        rw [q]; exact ha
/-- the state behind each number of deals, and behind those that stand -/
theorem both {o : List Int} {ds : List (List Mv)} {f : Nat} {o' : List Int} (h : allDone o ds = some o') : ∀ k, k ≤ ds.length →
    ∃ a b, allDone o (ds.take k) = some a ∧ allDone o (leftP ds f k) = some b ∧ a.length = o.length ∧ b.length = o.length ∧
      ∀ s, ∃ am, allDone o (ds.take ((ffirst ds f k s).getD k)) = some am ∧ b[s]? = am[s]?
  | 0, _ => ⟨o, o, rfl, rfl, rfl, rfl, fun s => ⟨o, rfl, rfl⟩⟩
  | k + 1, hk => by
    have hk' : k < ds.length := hk
    obtain ⟨a, b, ha, hb, la, lb, hs⟩ := both h k (Nat.le_of_lt hk')
    obtain ⟨a', ha'⟩ := allDone_pre (k + 1) h
    have hd : doneF a ds[k] = some a' := by
      rw [take_succ' hk', allDone_add ha] at ha'; exact ha'
    obtain ⟨hh, ea⟩ := doneF_some hd
    have la' : a'.length = o.length := by rw [ea, puts_len, la]
    have es : stAt ds k = ds[k].map (·.1) := by unfold stAt; rw [List.getElem?_eq_getElem hk']; rfl
    have gd : ds.getD k [] = ds[k] := by rw [List.getD_eq_getElem?_getD, List.getElem?_eq_getElem hk']; rfl
    have atk : ∀ s, ffirst ds f k s = none → b[s]? = a[s]? := fun s q => by
      obtain ⟨am, h1, h2⟩ := hs s
      rw [q] at h1
      have h1 : allDone o (ds.take k) = some am := h1
      rw [ha] at h1
      cases h1; exact h2
    cases q : fallsB ds f k with
    | true =>
      refine ⟨a', b, ha', by rw [leftP_succ, q, if_pos rfl, List.append_nil]; exact hb, la', lb, fun s => ?_⟩
      unfold ffirst
      cases q2 : ffirst ds f k s with
      | some j =>
        obtain ⟨am, h1, h2⟩ := hs s
        rw [q2] at h1
        exact ⟨am, h1, h2⟩
      | none =>
        by_cases e : s ∈ stAt ds k
        · refine ⟨a, ?_, atk s q2⟩
          show allDone o (ds.take (Option.getD (if fallsB ds f k = true ∧ s ∈ stAt ds k then some k else none) (k + 1))) = _
          rw [if_pos ⟨q, e⟩]; exact ha
        · refine ⟨a', ?_, ?_⟩
          · show allDone o (ds.take (Option.getD (if fallsB ds f k = true ∧ s ∈ stAt ds k then some k else none) (k + 1))) = _
            rw [if_neg (fun z => e z.2)]; exact ha'
          · rw [atk s q2, ea, puts_not _ (by rw [← es]; exact e)]
    | false =>
      have no : ∀ m ∈ ds[k], ffirst ds f k m.1 = none := fun m hm => ffirst_none fun j hj hf => stands k m.1 q (by rw [es]; exact List.mem_map.mpr ⟨m, hm, rfl⟩) j hj hf
      have hb2 : doneF b ds[k] = some (ds[k].foldl putM b) := by
        unfold doneF
        rw [if_pos (holds_same (fun m hm => (atk m.1 (no m hm)).symm) hh)]
      refine ⟨a', ds[k].foldl putM b, ha', ?_, la', by rw [puts_len, lb], fun s => ?_⟩
      · rw [leftP_succ, q, gd]
        show allDone o (leftP ds f k ++ [ds[k]]) = _
        rw [allDone_add hb]; exact hb2
      · unfold ffirst
        cases q2 : ffirst ds f k s with
        | some j =>
          obtain ⟨am, h1, h2⟩ := hs s
          rw [q2] at h1
          refine ⟨am, h1, ?_⟩
          rw [puts_not, h2]
          intro z
          obtain ⟨m, hm, e⟩ := List.mem_map.mp z
          have := no m hm
          rw [e, q2] at this; cases this
        | none =>
          refine ⟨a', ?_, ?_⟩
          · show allDone o (ds.take (Option.getD (if fallsB ds f k = true ∧ s ∈ stAt ds k then some k else none) (k + 1))) = _
            rw [if_neg (fun z => by rw [q] at z; cases z.1)]; exact ha'
          · rw [ea]; exact puts_same _ (by rw [la, lb]) (atk s q2)
theorem ffirst_head (ds : List (List Mv)) (f s : Nat) : ∀ k, (((List.range k).filter fun j => fallsB ds f j).filter fun j => decide (s ∈ stAt ds j)).head? = ffirst ds f k s
  | 0 => rfl
  | k + 1 => by
    unfold ffirst
    rw [List.range_succ, List.filter_append, List.filter_append, List.head?_append, ffirst_head ds f s k]
    cases ffirst ds f k s with
    | some j => rfl
    | none =>
      show (List.filter _ (List.filter _ [k])).head? = _
      rw [List.filter_cons]
      cases q : fallsB ds f k with
      | false => simp
      | true =>
        simp only [if_true, List.filter_nil, List.filter_cons]
        by_cases e : s ∈ stAt ds k
        · simp [e]
        · simp [e]
/-! ### nothing falls any more -/
theorem none_falls {ds : List (List Mv)} {f : Nat} (h : ∀ k, f ∉ stAt ds k) : ∀ k, fallsB ds f k = false := by
  intro k
  induction k using Nat.strongRecOn with
  | ind k ih =>
    rw [fallsB_eq, decide_eq_false (h k), Bool.false_or, List.any_eq_false]
    intro j hj
    obtain ⟨i, rfl, hi⟩ := ahd_mem hj
    rw [Int.toNat_natCast, ih i hi]; simp
theorem left_not {ds : List (List Mv)} {f : Nat} : ∀ k, f ∉ stAt (leftL ds f) k := by
  intro k hk
  unfold stAt at hk
  cases q : (leftL ds f)[k]? with
  | none => rw [q] at hk; cases hk
  | some ms =>
    rw [q] at hk
    have hm := List.mem_of_getElem? q
    rw [leftL_eq] at hm
    obtain ⟨j, hj, e⟩ := List.mem_map.mp hm
    obtain ⟨h1, h2⟩ := List.mem_filter.mp hj
    have hf : f ∈ stAt ds j := by
      unfold stAt
      rw [← List.getD_eq_getElem?_getD, e]; exact hk
    rw [fallsB_eq, decide_eq_true hf] at h2
    simp at h2
theorem falls_nil {ds : List (List Mv)} {f : Nat} (h : ∀ k, f ∉ stAt ds k) : fallsL ds f = [] := by
  unfold fallsL
  rw [List.filter_eq_nil_iff]
  intro k _
  rw [none_falls h k]; simp
theorem left_all {ds : List (List Mv)} {f : Nat} (h : ∀ k, f ∉ stAt ds k) : leftL ds f = ds := by
  rw [leftL_eq]
  unfold leftP
  rw [List.filter_eq_self.mpr (fun k _ => by rw [none_falls h k]; rfl)]
  refine List.ext_getElem? fun i => ?_
  rw [List.getElem?_map]
  by_cases hi : i < ds.length
  · rw [List.getElem?_range hi, List.getElem?_eq_getElem hi]
    show some (ds.getD i []) = _
    rw [List.getD_eq_getElem?_getD, List.getElem?_eq_getElem hi]; rfl
  · rw [List.getElem?_eq_none (by rw [List.length_range]; omega), List.getElem?_eq_none (by omega)]; rfl
theorem unmoved {s : Nat} : ∀ {ds : List (List Mv)} {o b : List Int}, (∀ ms ∈ ds, s ∉ ms.map (·.1)) → allDone o ds = some b → b[s]? = o[s]? := by
  intro ds
  induction ds with
  | nil => intro o b _ h; cases h; rfl
  | cons ms ds ih =>
    intro o b hm h
    have h' : (match doneF o ms with | none => none | some o1 => allDone o1 ds) = some b := h
    cases q : doneF o ms with
    | none => rw [q] at h'; cases h'
    | some o1 =>
      rw [q] at h'
      rw [ih (fun x hx => hm x (List.mem_cons_of_mem _ hx)) h', (doneF_some q).2, puts_not _ (hm ms List.mem_cons_self)]
/-! ### the deals but the last one -/
theorem st_take {ds : List (List Mv)} {m k : Nat} (h : k < m) : stAt (ds.take m) k = stAt ds k := by
  unfold stAt; rw [List.getElem?_take_of_lt h]
theorem came_take {ds : List (List Mv)} {m s : Nat} : ∀ {k : Nat}, k ≤ m → came (ds.take m) k s = came ds k s
  | 0, _ => rfl
  | k + 1, h => by unfold came; rw [st_take (by omega), came_take (by omega)]
theorem ahd_take {ds : List (List Mv)} {m k : Nat} (h : k < m) : ahd (ds.take m) k = ahd ds k := by
  unfold ahd
  rw [st_take h]
  have e : came (ds.take m) k = came ds k := funext fun s => came_take (Nat.le_of_lt h)
  rw [e]
theorem falls_take {ds : List (List Mv)} {f m : Nat} : ∀ k, k < m → fallsB (ds.take m) f k = fallsB ds f k := by
  intro k
  induction k using Nat.strongRecOn with
  | ind k ih =>
    intro h
    rw [fallsB_eq, fallsB_eq, st_take h, ahd_take h]
    congr 1
    rw [Bool.eq_iff_iff, List.any_eq_true, List.any_eq_true]
    constructor
    · rintro ⟨j, hj, q⟩
      obtain ⟨i, rfl, hi⟩ := ahd_mem hj
      rw [Int.toNat_natCast, ih i hi (by omega)] at q
      exact ⟨_, hj, by rw [Int.toNat_natCast]; exact q⟩
    · rintro ⟨j, hj, q⟩
      obtain ⟨i, rfl, hi⟩ := ahd_mem hj
      rw [Int.toNat_natCast] at q
      exact ⟨_, hj, by rw [Int.toNat_natCast, ih i hi (by omega)]; exact q⟩
theorem fallsL_take (ds : List (List Mv)) (f m : Nat) (h : m ≤ ds.length) : fallsL (ds.take m) f = (fallsL ds f).filter fun k => decide (k < m) := by
  unfold fallsL
  rw [List.length_take, Nat.min_eq_left h, List.filter_filter]
  have e : List.range ds.length = List.range m ++ (List.range (ds.length - m)).map (m + ·) := by
    rw [← List.range_add]; congr 1; omega
  rw [e, List.filter_append]
  have e2 : ((List.range (ds.length - m)).map (m + ·)).filter (fun k => decide (k < m) && fallsB ds f k) = [] := by
    rw [List.filter_eq_nil_iff]
    intro k hk
    obtain ⟨i, _, rfl⟩ := List.mem_map.mp hk
    rw [decide_eq_false (by omega), Bool.false_and]; simp
  rw [e2, List.append_nil]
  refine List.filter_congr fun k hk => ?_
  have hk := List.mem_range.mp hk
  rw [falls_take k hk, decide_eq_true hk, Bool.true_and]
end Fn
end

section
/-! chain_of, is_chain. -/
namespace Fn
open PySem L2 Eng
def f_chain_of : Df := ⟨"chain_of", 4, 4, (.cons (.exp (.call "need_deals" (.cons (.var 0) (.cons (.var 1) .nil)))) (.cons (.exp (.call "need_within" (.cons (.var 2) (.cons (.bin .sub (.bltv .len 0) (.con (.int 1))) .nil)))) (.cons (.exp (.call "need_within" (.cons (.var 3) (.cons (.bin .sub (.bltv .len 1) (.con (.int 1))) .nil)))) (.cons (.ret (.sub (.call "chains_in" (.cons (.var 1) (.cons (.var 2) .nil))) (.var 3))) .nil))))⟩
def f_is_chain : Df := ⟨"is_chain", 5, 8, (.cons (.exp (.call "need_deals" (.cons (.var 0) (.cons (.var 1) .nil)))) (.cons (.exp (.call "need_within" (.cons (.var 2) (.cons (.bin .sub (.bltv .len 0) (.con (.int 1))) .nil)))) (.cons (.exp (.call "need_within" (.cons (.var 3) (.cons (.bin .sub (.bltv .len 1) (.con (.int 1))) .nil)))) (.cons (.cond (.or (.not (.isi .tuple (.var 4))) (.or (.cmp .eq (.var 4) (.tup .nil)) (.not (.blt .all (.cons (.comp (.call "is_whole" (.cons (.var 6) .nil)) (.nm 6) (.seq (.var 4)) .nil) .nil))))) (.cons (.ret (.con (.bl false))) .nil) .nil) (.cons (.cond (.or (.not (.blt .all (.cons (.comp (.chain .le .lt (.con (.int 0)) (.var 6) (.bltv .len 1)) (.nm 6) (.seq (.var 4)) .nil) .nil))) (.cmpv .ne (.subv 4 (.neg (.con (.int 1)))) 3)) (.cons (.ret (.con (.bl false))) .nil) .nil) (.cons (.set 5 (.call "leans" (.cons (.var 1) .nil))) (.cons (.cond (.cmp .nin (.var 2) (.sub (.subv 5 (.subv 4 (.con (.int 0)))) (.con (.int 0)))) (.cons (.ret (.con (.bl false))) .nil) .nil) (.cons (.ret (.blt .all (.cons (.comp (.cmp .inn (.var 6) (.sub (.subv 5 (.var 7)) (.con (.int 1)))) (.tp (.cons (.nm 6) (.cons (.nm 7) .nil))) (.zip (.var 4) (.slice (.var 4) (.con (.int 1)) .omit)) .nil) .nil))) .nil))))))))⟩

structure HasChain (P : Str → Option Df) : Prop extends HasFall P where
  chain_of : P "chain_of" = some f_chain_of
  is_chain : P "is_chain" = some f_is_chain
section
variable {P : Str → Option Df} {gl : Str → Option D} {S : Store} {n k : Nat} {cf : CF}
theorem len_deals (ds : List (List Mv)) : bltD .len [dealsD ds] = some (.fz (.int ds.length)) := by
  show some (Val.fz (.int ((ds.map dealD).length : Nat))) = _
  rw [List.length_map]
theorem len_own (o : List Int) : bltD .len [ownD o] = some (.fz (.int o.length)) := by
  show some (Val.fz (.int ((o.map D.int).length : Nat))) = _
  rw [List.length_map]
theorem chain_of (hD : HasDeals P gl) (hP : HasChain P) (hn : 6 ≤ n) {o : List Int} {ds : List (List Mv)} (ho : okOwn o) (hl : ds.length ≤ 10) (h : ∀ ms ∈ ds, okDeal o.length ms) {o' : List Int} (hd : allDone o ds = some o') {f : Nat} (hf : f < o.length) (hk : k < ds.length) :
    callN P gl n "chain_of" [ownD o, dealsD ds, natD f, natD k] S = .ok (.fz (optD (chAt ds f k))) S := by
  obtain ⟨m, rfl⟩ : ∃ m, n = m + 1 := ⟨n - 1, by omega⟩
  rw [callN_run hP.chain_of rfl]
  show RS.done (exs (callN P gl m) gl f_chain_of.body [some (.fz (ownD o)), some (.fz (dealsD ds)), some (.fz (natD f)), some (.fz (natD k))] S) = _
  unfold f_chain_of
  have h1 := need_deals (S := S) hD (n := m) (by omega) ho hl h hd
  have h2 := need_within (P := P) (gl := gl) (S := S) hD (n := m) (by omega) (i := (f : Int)) (m := (o.length : Int) - 1) (by omega) (by omega)
  have h2' := need_within (P := P) (gl := gl) (S := S) hD (n := m) (by omega) (i := (k : Int)) (m := (ds.length : Int) - 1) (by omega) (by omega)
  have h3 := chains_in (P := P) (gl := gl) (S := S) hP.toHasFall (n := m) (by omega) hl (fun ms hm => (h ms hm).2.1) f
  have h4 := len_own o
  have h5 := len_deals ds
  have lk : look S (ownD o) = ownD o := rfl
  have lk2 : look S (dealsD ds) = dealsD ds := rfl
  have nf : natD f = .int (f : Int) := rfl
  have nk : natD k = .int (k : Int) := rfl
  have h6 : atD ((chs ds f ds.length).map optD) (k : Int) = some (optD (chAt ds f k)) := atD_nat rfl (by rw [List.getElem?_map, chs_at ds f hk]; rfl)
  rw [nf] at h3 ⊢
  rw [nk]
  clear ho hl h hd hf nf nk hk
  walk_at "eng*"
def natsD (cs : List Nat) : D := .tup (cs.map natD)
def isChB (ds : List (List Mv)) (f k : Nat) : List Nat → Bool
  | [] => false
  | c :: cs => decide ((c :: cs).getLast? = some k) && (decide (f ∈ stAt ds c) && ((c :: cs).zip cs).all fun p => decide ((p.1 : Int) ∈ ahd ds p.2))
theorem eq_nil (cs : List Nat) : cmpD .eq (natsD cs) (.tup []) = some cs.isEmpty := by
  have h : D.fit (natsD cs) (.tup []) = true := by
    unfold D.fit
    have h1 : D.pl (natsD cs) = true := by
      show D.pls (cs.map natD) = true
      have : cs.map natD = (cs.map fun s : Nat => (s : Int)).map D.int := by rw [List.map_map]; rfl
      rw [this]; exact pls_ints _
    have h2 : D.pl (.tup []) = true := rfl
    have h3 : D.dep (.tup []) = 1 := rfl
    rw [h1, h2, h3]
    simp only [Bool.true_and, decide_eq_true_eq]
    exact Nat.le_trans (Nat.min_le_right _ _) (by omega)
  show (if D.fit _ _ then some (D.eqv _ _) else none) = _
  rw [if_pos h]
  cases cs <;> rfl
theorem at_last (cs : List Nat) (j : Nat) (h : cs.getLast? = some j) : atD (cs.map natD) (-1) = some (natD j) := by
  obtain ⟨ys, rfl⟩ := List.getLast?_eq_some_iff.mp h
  rw [List.map_append]
  exact atI_last _ _
theorem in_ints (f : Nat) (ss : List Int) : cmpD .inn (natD f) (.lst (ss.map D.int)) = some (decide ((f : Int) ∈ ss)) := by
  show (if (natD f).pl && D.pls (ss.map D.int) && decide (min (D.deps (ss.map D.int)) (natD f).dep ≤ 64) then some ((ss.map D.int).any fun y => D.eqv y (natD f)) else none) = _
  have h2 : decide (min (D.deps (ss.map D.int)) (natD f).dep ≤ 64) = true := decide_eq_true (Nat.le_trans (Nat.min_le_right _ _) (by show 0 ≤ 64; omega))
  rw [pls_ints, h2]
  show some ((ss.map D.int).any fun y => D.eqv y (natD f)) = _
  congr 1
  rw [Bool.eq_iff_iff, List.any_eq_true, decide_eq_true_iff]
  constructor
  · rintro ⟨y, hy, e⟩
    obtain ⟨s, hs, rfl⟩ := List.mem_map.mp hy
    have e : (s == (f : Int)) = true := e
    rw [← eq_of_beq e]; exact hs
  · intro h
    exact ⟨.int f, List.mem_map.mpr ⟨f, h, rfl⟩, by show ((f : Int) == (f : Int)) = true; simp⟩
theorem nin_nats (f : Nat) (ss : List Nat) : cmpD .nin (natD f) (.lst (ss.map natD)) = some (!decide (f ∈ ss)) := by
  show (inD _ _).map _ = _
  have h : inD (natD f) (.lst (ss.map natD)) = some (decide (f ∈ ss)) := in_nats f ss
  rw [h]; rfl
theorem row_at (ds : List (List Mv)) {j : Nat} (h : j < ds.length) : atD ((List.range ds.length).map (rowD ds)) (j : Int) = some (.tup [.lst ((stAt ds j).map natD), .lst ((ahd ds j).map .int)]) := atD_nat rfl (by rw [List.getElem?_map, List.getElem?_range h]; rfl)
theorem cut1 (x : D) (xs : List D) : cutD (x :: xs) (some 1) none = xs := by
  unfold cutD
  have e1 : HT.sIx (x :: xs).length 0 (some 1) = 1 := by
    show HT.sIx (xs.length + 1) 0 (some 1) = 1
    unfold HT.sIx
    simp
  have e2 : HT.sIx (x :: xs).length (x :: xs).length none = (x :: xs).length := rfl
  rw [e1, e2]
  simp
theorem is_chain (hD : HasDeals P gl) (hP : HasChain P) (hn : 6 ≤ n) {o : List Int} {ds : List (List Mv)} (ho : okOwn o) (hl : ds.length ≤ 10) (h : ∀ ms ∈ ds, okDeal o.length ms) {o' : List Int} (hd : allDone o ds = some o') {f : Nat} (hf : f < o.length) (hk : k < ds.length) {cs : List Nat} (hc : ∀ c ∈ cs, c < ds.length) (hcl : cs.length ≤ 12) :
    callN P gl n "is_chain" [ownD o, dealsD ds, natD f, natD k, natsD cs] S = .ok (.fz (.bl (isChB ds f k cs))) S := by
  obtain ⟨m, rfl⟩ : ∃ m, n = m + 1 := ⟨n - 1, by omega⟩
  rw [callN_run hP.is_chain rfl]
  show RS.done (exs (callN P gl m) gl f_is_chain.body [some (.fz (ownD o)), some (.fz (dealsD ds)), some (.fz (natD f)), some (.fz (natD k)), some (.fz (.tup (cs.map natD))), none, none, none] S) = _
  unfold f_is_chain
  have h1 := need_deals (S := S) hD (n := m) (by omega) ho hl h hd
  have h2 := need_within (P := P) (gl := gl) (S := S) hD (n := m) (by omega) (i := (f : Int)) (m := (o.length : Int) - 1) (by omega) (by omega)
  have h2' := need_within (P := P) (gl := gl) (S := S) hD (n := m) (by omega) (i := (k : Int)) (m := (ds.length : Int) - 1) (by omega) (by omega)
  have h3 := leans (P := P) (gl := gl) (S := S) hP.toHasFall (n := m) (by omega) hl (fun ms hm => (h ms hm).2.1)
  have h4 := len_own o
  have h5 := len_deals ds
  have lk : look S (ownD o) = ownD o := rfl
  have lk2 : look S (dealsD ds) = dealsD ds := rfl
  have nf : natD f = .int (f : Int) := rfl
  have nk : natD k = .int (k : Int) := rfl
  have h7 := eq_nil cs
  have h7' : natsD cs = .tup (cs.map natD) := rfl
  rw [h7'] at h7
  have sl : cs.length ≤ sizeLine := Nat.le_trans hcl small12
  cases cs with
  | nil =>
    replace h7 : cmpD .eq (.tup []) (.tup []) = some true := h7
    rw [nf, nk]
    show RS.done (exs (callN P gl m) gl _ [some (.fz (ownD o)), some (.fz (dealsD ds)), some (.fz (.int (f : Int))), some (.fz (.int (k : Int))), some (.fz (.tup [])), none, none, none] S) = .ok (.fz (.bl false)) S
    clear ho hl h hd hf nf nk hk hc hcl sl h7'
    walk_at "eng*"
  | cons c0 cr =>
    obtain ⟨j, hj⟩ : ∃ j, (c0 :: cr).getLast? = some j := by
      cases q : (c0 :: cr).getLast? with
      | none => simp at q
      | some j => exact ⟨j, rfl⟩
    replace h7 : cmpD .eq (.tup ((c0 :: cr).map natD)) (.tup []) = some false := h7
    have k1 : kComp (callN P gl m) gl (.call "is_whole" (.cons (.var 6) .nil)) (.nm 6) .nil ((c0 :: cr).map natD) [some (.fz (ownD o)), some (.fz (dealsD ds)), some (.fz (.int (f : Int))), some (.fz (.int (k : Int))), some (.fz (.tup ((c0 :: cr).map natD))), none, none, none] S
        = .ok (.own (.lst ((c0 :: cr).map fun _ => D.bl true))) [some (.fz (ownD o)), some (.fz (dealsD ds)), some (.fz (.int (f : Int))), some (.fz (.int (k : Int))), some (.fz (.tup ((c0 :: cr).map natD))), none, none, none] S := by
      refine kComp_all (frw := [some (.fz (ownD o)), some (.fz (dealsD ds)), some (.fz (.int (f : Int))), some (.fz (.int (k : Int))), some (.fz (.tup ((c0 :: cr).map natD))), none, none, none]) natD _ (c0 :: cr) rfl rfl rfl sl fun x hx => ?_
      refine ⟨[some (.fz (ownD o)), some (.fz (dealsD ds)), some (.fz (.int (f : Int))), some (.fz (.int (k : Int))), some (.fz (.tup ((c0 :: cr).map natD))), none, some (.fz (natD x)), none], rfl, rfl, ?_, rfl⟩
      have g1 := is_whole (P := P) (gl := gl) (S := S) hD.toHasFrom (n := m) (by omega) (d := natD x) (fun _ z => nomatch z)
      have g2 : wholeD (natD x) = true := rfl
      rw [g2] at g1
      unfold eltX
      clear ho hl h hd hf nf nk hk hc hcl sl h7' h1 h2 h2' h3 h4 h5 h7 hj lk lk2 hx g2
      walk_at "eng*"
    have k2 : kComp (callN P gl m) gl (.chain .le .lt (.con (.int 0)) (.var 6) (.bltv .len 1)) (.nm 6) .nil ((c0 :: cr).map natD) [some (.fz (ownD o)), some (.fz (dealsD ds)), some (.fz (.int (f : Int))), some (.fz (.int (k : Int))), some (.fz (.tup ((c0 :: cr).map natD))), none, none, none] S
        = .ok (.own (.lst ((c0 :: cr).map fun _ => D.bl true))) [some (.fz (ownD o)), some (.fz (dealsD ds)), some (.fz (.int (f : Int))), some (.fz (.int (k : Int))), some (.fz (.tup ((c0 :: cr).map natD))), none, none, none] S := by
      refine kComp_all (frw := [some (.fz (ownD o)), some (.fz (dealsD ds)), some (.fz (.int (f : Int))), some (.fz (.int (k : Int))), some (.fz (.tup ((c0 :: cr).map natD))), none, none, none]) natD _ (c0 :: cr) rfl rfl rfl sl fun x hx => ?_
      refine ⟨[some (.fz (ownD o)), some (.fz (dealsD ds)), some (.fz (.int (f : Int))), some (.fz (.int (k : Int))), some (.fz (.tup ((c0 :: cr).map natD))), none, some (.fz (.int (x : Int))), none], rfl, rfl, ?_, rfl⟩
      have hx' := hc x hx
      have g1 : cmpD .le (.int 0) (.int (x : Int)) = some true := by rw [c_leI, decide_eq_true (by omega)]
      have g2 : cmpD .lt (.int (x : Int)) (.int (ds.length : Nat)) = some true := by rw [c_ltI, decide_eq_true (by omega)]
      unfold eltX
      clear ho hl h hd hf nf nk hk hc hcl sl h7' h1 h2 h2' h3 h4 h7 hj lk hx hx' k1
      walk_at "eng*"
    have a1 : bltD .all [.lst ((c0 :: cr).map fun _ => D.bl true)] = some (.fz (.bl true)) := by
      have := all_bl ((c0 :: cr).map fun _ => true)
      rw [List.map_map] at this
      have e : ((c0 :: cr).map fun _ => true).all id = true := by simp
      rw [e] at this; exact this
    have l1 := at_last (c0 :: cr) j hj
    have l2 : cmpD .ne (natD j) (.int (k : Int)) = some (!decide (j = k)) := by
      show some (!((j : Int) == (k : Int))) = _
      by_cases e : j = k
      · subst e; simp
      · have : ((j : Int) == (k : Int)) = false := by rw [beq_eq_false_iff_ne]; omega
        rw [this, decide_eq_false e]
    have lkj : look S (natD j) = natD j := rfl
    have hc0 : c0 < ds.length := hc c0 List.mem_cons_self
    have r0 := row_at ds hc0
    have z0 : atD ((c0 :: cr).map natD) 0 = some (.int (c0 : Int)) := atD_nat (i := 0) rfl rfl
    have i0 := nin_nats f (stAt ds c0)
    rw [nf] at i0
    have e1 : isChB ds f k (c0 :: cr) = (decide (j = k) && (decide (f ∈ stAt ds c0) && ((c0 :: cr).zip cr).all fun p => decide ((p.1 : Int) ∈ ahd ds p.2))) := by
      show (decide ((c0 :: cr).getLast? = some k) && _) = _
      rw [hj]
      congr 1
      rw [Bool.eq_iff_iff, decide_eq_true_iff, decide_eq_true_iff]
      exact ⟨fun z => Option.some.inj z, fun z => by rw [z]⟩
    rw [e1, nf, nk]
    by_cases q1 : j = k
    · rw [decide_eq_true q1] at l2 ⊢
      have tr : ∀ b : Bool, (true && b) = b := fun b => rfl
      rw [tr]
      by_cases q2 : f ∈ stAt ds c0
      · rw [decide_eq_true q2] at i0 ⊢
        rw [tr]
        have k3 : kComp (callN P gl m) gl (.cmp .inn (.var 6) (.sub (.subv 5 (.var 7)) (.con (.int 1)))) (.tp (.cons (.nm 6) (.cons (.nm 7) .nil))) .nil (((c0 :: cr).zip cr).map fun p => D.tup [natD p.1, natD p.2]) [some (.fz (ownD o)), some (.fz (dealsD ds)), some (.fz (.int (f : Int))), some (.fz (.int (k : Int))), some (.fz (.tup ((c0 :: cr).map natD))), some (.own (.lst ((List.range ds.length).map (rowD ds)))), none, none] S
            = .ok (.own (.lst (((c0 :: cr).zip cr).map fun p => D.bl (decide ((p.1 : Int) ∈ ahd ds p.2))))) [some (.fz (ownD o)), some (.fz (dealsD ds)), some (.fz (.int (f : Int))), some (.fz (.int (k : Int))), some (.fz (.tup ((c0 :: cr).map natD))), some (.own (.lst ((List.range ds.length).map (rowD ds)))), none, none] S := by
          refine kComp_all (frw := [some (.fz (ownD o)), some (.fz (dealsD ds)), some (.fz (.int (f : Int))), some (.fz (.int (k : Int))), some (.fz (.tup ((c0 :: cr).map natD))), some (.own (.lst ((List.range ds.length).map (rowD ds)))), none, none]) (fun p : Nat × Nat => D.tup [natD p.1, natD p.2]) _ ((c0 :: cr).zip cr) rfl rfl rfl (by rw [List.length_zip]; exact Nat.le_trans (Nat.min_le_left _ _) sl) fun p hp => ?_
          refine ⟨[some (.fz (ownD o)), some (.fz (dealsD ds)), some (.fz (.int (f : Int))), some (.fz (.int (k : Int))), some (.fz (.tup ((c0 :: cr).map natD))), some (.own (.lst ((List.range ds.length).map (rowD ds)))), some (.fz (natD p.1)), some (.fz (.int (p.2 : Int)))], rfl, rfl, ?_, rfl⟩
          have hp2 : p.2 < ds.length := hc p.2 (List.mem_cons_of_mem _ (List.of_mem_zip hp).2)
          have g1 := row_at ds hp2
          have g2 := in_ints p.1 (ahd ds p.2)
          have g3 : look S (natD p.1) = natD p.1 := rfl
          unfold eltX
          clear ho hl h hd hf nf nk hk hc hcl sl h7' h1 h2 h2' h3 h4 h5 h7 hj lk lk2 hp k1 k2 a1 l1 l2 lkj hc0 r0 z0 i0 e1 q1 q2 tr hp2
          walk_at "eng*"
        have a2 : bltD .all [.lst (((c0 :: cr).zip cr).map fun p => D.bl (decide ((p.1 : Int) ∈ ahd ds p.2)))] = some (.fz (.bl (((c0 :: cr).zip cr).all fun p => decide ((p.1 : Int) ∈ ahd ds p.2)))) := by
          have := all_bl (((c0 :: cr).zip cr).map fun p => decide ((p.1 : Int) ∈ ahd ds p.2))
          rw [List.map_map, List.all_map] at this; exact this
        have z1 : sliceD (some 1) none (.tup ((c0 :: cr).map natD)) = some (.fz (.tup (cr.map natD))) := by
          show some (Val.fz (.tup (cutD (natD c0 :: cr.map natD) (some 1) none))) = _
          rw [cut1]
        have z2 : zipD ((c0 :: cr).map natD) (cr.map natD) = ((c0 :: cr).zip cr).map fun p => D.tup [natD p.1, natD p.2] := by
          unfold zipD
          rw [List.zipWith_map, List.zip, List.map_zipWith]
        clear ho hl h hd hf nf nk hk hc hcl sl h7' hj hc0 e1 q1 q2 tr
        walk_at "eng*"
      · rw [decide_eq_false q2] at i0 ⊢
        have fa : ∀ b : Bool, (false && b) = false := fun b => rfl
        rw [fa]
        clear ho hl h hd hf nf nk hk hc hcl sl h7' hj hc0 e1 q1 q2 tr fa
        walk_at "eng*"
    · rw [decide_eq_false q1] at l2 ⊢
      have fa : ∀ b : Bool, (false && b) = false := fun b => rfl
      rw [fa]
      clear ho hl h hd hf nf nk hk hc hcl sl h7' hj hc0 e1 q1 fa
      walk_at "eng*"
end
end Fn
end

section
namespace K45
open PySem L2 Eng
def top (i : Nat) : Stmt := PySem.Challenge.pw_hingemount_k45_whole_a_false_stamp_takes.main.body.getD i (.Pass ⟨0, 0, 0, 0⟩)
def f_is_whole : Df := ⟨"is_whole", 1, 1, (.cons (.ret (.and (.isi .int (.var 0)) (.not (.isi .bool (.var 0))))) .nil)⟩
def f_is_from : Df := ⟨"is_from", 3, 3, (.cons (.ret (.and (.call "is_whole" (.cons (.var 0) .nil)) (.chain .le .le (.var 1) (.var 0) (.var 2)))) .nil)⟩
def f_are_owners : Df := ⟨"are_owners", 1, 2, (.cons (.cond (.or (.not (.isi .tuple (.var 0))) (.not (.chain .le .le (.con (.int 1)) (.bltv .len 0) (.glo "MOST_STAMPS")))) (.cons (.ret (.con (.bl false))) .nil) .nil) (.cons (.ret (.blt .all (.cons (.comp (.call "is_from" (.cons (.var 1) (.cons (.con (.int 0)) (.cons (.glo "MOST_OWNER") .nil)))) (.nm 1) (.seq (.var 0)) .nil) .nil))) .nil))⟩
def f_is_move : Df := ⟨"is_move", 2, 2, (.cons (.cond (.or (.not (.isi .tuple (.var 1))) (.or (.cmp .ne (.bltv .len 1) (.con (.int 3))) (.not (.call "is_from" (.cons (.subv 1 (.con (.int 0))) (.cons (.con (.int 0)) (.cons (.bin .sub (.var 0) (.con (.int 1))) .nil))))))) (.cons (.ret (.con (.bl false))) .nil) .nil) (.cons (.ret (.and (.call "is_from" (.cons (.subv 1 (.con (.int 1))) (.cons (.con (.int 0)) (.cons (.glo "MOST_OWNER") .nil)))) (.and (.call "is_from" (.cons (.subv 1 (.con (.int 2))) (.cons (.con (.int 0)) (.cons (.glo "MOST_OWNER") .nil)))) (.cmp .ne (.subv 1 (.con (.int 1))) (.subv 1 (.con (.int 2))))))) .nil))⟩
def f_is_deal : Df := ⟨"is_deal", 2, 3, (.cons (.cond (.or (.not (.isi .tuple (.var 1))) (.not (.chain .le .le (.con (.int 1)) (.bltv .len 1) (.glo "MOST_MOVES")))) (.cons (.ret (.con (.bl false))) .nil) .nil) (.cons (.cond (.not (.blt .all (.cons (.comp (.call "is_move" (.cons (.var 0) (.cons (.var 2) .nil))) (.nm 2) (.seq (.var 1)) .nil) .nil))) (.cons (.ret (.con (.bl false))) .nil) .nil) (.cons (.ret (.cmp .eq (.lenset (.comp (.subv 2 (.con (.int 0))) (.nm 2) (.seq (.var 1)) .nil)) (.bltv .len 1))) .nil)))⟩
def f_done : Df := ⟨"done", 2, 6, (.cons (.cond (.not (.blt .all (.cons (.comp (.cmpv .eq (.subv 0 (.var 3)) 4) (.tp (.cons (.nm 3) (.cons (.nm 4) (.cons (.nm 5) .nil)))) (.seq (.var 1)) .nil) .nil))) (.cons (.ret (.con .non)) .nil) .nil) (.cons (.set 2 (.bltv .list 0)) (.cons (.loop (.tp (.cons (.nm 3) (.cons (.nm 4) (.cons (.nm 5) .nil)))) (.seq (.var 1)) (.cons (.setv 2 (.var 3) (.var 5)) .nil)) (.cons (.ret (.bltv .tuple 2)) .nil))))⟩
def f_all_done : Df := ⟨"all_done", 2, 3, (.cons (.loop (.nm 2) (.seq (.var 1)) (.cons (.set 0 (.call "done" (.cons (.var 0) (.cons (.var 2) .nil)))) (.cons (.cond (.cmp .isN (.var 0) (.con .non)) (.cons (.ret (.con .non)) .nil) .nil) .nil))) (.cons (.ret (.var 0)) .nil))⟩
def f_need_deals : Df := ⟨"need_deals", 2, 3, (.cons (.cond (.not (.call "are_owners" (.cons (.var 0) .nil))) (.cons (.raise "NoOwners") .nil) .nil) (.cons (.cond (.or (.not (.isi .tuple (.var 1))) (.cmp .gt (.bltv .len 1) (.glo "MOST_DEALS"))) (.cons (.raise "NoDeals") .nil) .nil) (.cons (.cond (.or (.not (.blt .all (.cons (.comp (.call "is_deal" (.cons (.bltv .len 0) (.cons (.var 2) .nil))) (.nm 2) (.seq (.var 1)) .nil) .nil))) (.cmp .isN (.call "all_done" (.cons (.var 0) (.cons (.var 1) .nil))) (.con .non))) (.cons (.raise "NoDeals") .nil) .nil) .nil)))⟩
def f_need_within : Df := ⟨"need_within", 2, 2, (.cons (.cond (.not (.call "is_from" (.cons (.var 0) (.cons (.con (.int 0)) (.cons (.var 1) .nil))))) (.cons (.raise "NoNumber") .nil) .nil) .nil)⟩
def f_owners_behind : Df := ⟨"owners_behind", 3, 3, (.cons (.exp (.call "need_deals" (.cons (.var 0) (.cons (.var 1) .nil)))) (.cons (.exp (.call "need_within" (.cons (.var 2) (.cons (.bltv .len 1) .nil)))) (.cons (.ret (.call "all_done" (.cons (.var 0) (.cons (.slice (.var 1) .omit (.var 2)) .nil)))) .nil)))⟩
def f_leans : Df := ⟨"leans", 1, 8, (.cons (.par 1 2 (.lst .nil) (.dic0 false)) (.cons (.loop (.tp (.cons (.nm 3) (.cons (.nm 4) .nil))) (.enm (.var 0)) (.cons (.set 5 (.comp (.subv 7 (.con (.int 0))) (.nm 7) (.seq (.var 4)) .nil)) (.cons (.appv 1 (.tup (.cons (.var 5) (.cons (.sortset (.comp (.subv 2 (.var 6)) (.nm 6) (.seq (.var 5)) (.cons (.cmpv .inn (.var 6) 2) .nil))) .nil)))) (.cons (.loop (.nm 6) (.seq (.var 5)) (.cons (.setd 2 (.var 6) (.var 3)) .nil)) .nil)))) (.cons (.ret (.var 1)) .nil)))⟩
def f_chains_in : Df := ⟨"chains_in", 2, 9, (.cons (.set 2 (.lst .nil)) (.cons (.loop (.tp (.cons (.nm 3) (.cons (.tp (.cons (.nm 5) (.cons (.nm 6) .nil))) .nil))) (.enm (.call "leans" (.cons (.var 0) .nil))) (.cons (.set 4 (.comp (.bin .add (.subv 2 (.var 7)) (.tup (.cons (.var 3) .nil))) (.nm 7) (.seq (.var 6)) (.cons (.cmp .isnN (.subv 2 (.var 7)) (.con .non)) .nil))) (.cons (.cond (.cmpv .inn (.var 1) 5) (.cons (.appv 4 (.tup (.cons (.var 3) .nil))) .nil) .nil) (.cons (.appv 2 (.sub (.mind (.comp (.tup (.cons (.bltv .len 8) (.cons (.var 8) .nil))) (.nm 8) (.seq (.var 4)) .nil) (.tup (.cons (.con (.int 0)) (.cons (.con .non) .nil)))) (.con (.int 1)))) .nil)))) (.cons (.ret (.var 2)) .nil)))⟩
def f_falls_in : Df := ⟨"falls_in", 2, 4, (.cons (.ret (.blt .tuple (.cons (.comp (.var 2) (.tp (.cons (.nm 2) (.cons (.nm 3) .nil))) (.enm (.call "chains_in" (.cons (.var 0) (.cons (.var 1) .nil)))) (.cons (.cmp .isnN (.var 3) (.con .non)) .nil)) .nil))) .nil)⟩
def f_fallen : Df := ⟨"fallen", 3, 3, (.cons (.exp (.call "need_deals" (.cons (.var 0) (.cons (.var 1) .nil)))) (.cons (.exp (.call "need_within" (.cons (.var 2) (.cons (.bin .sub (.bltv .len 0) (.con (.int 1))) .nil)))) (.cons (.ret (.call "falls_in" (.cons (.var 1) (.cons (.var 2) .nil)))) .nil)))⟩
def f_owners_left : Df := ⟨"owners_left", 3, 6, (.cons (.exp (.call "need_deals" (.cons (.var 0) (.cons (.var 1) .nil)))) (.cons (.exp (.call "need_within" (.cons (.var 2) (.cons (.bin .sub (.bltv .len 0) (.con (.int 1))) .nil)))) (.cons (.set 3 (.call "falls_in" (.cons (.var 1) (.cons (.var 2) .nil)))) (.cons (.ret (.call "all_done" (.cons (.var 0) (.cons (.comp (.var 5) (.tp (.cons (.nm 4) (.cons (.nm 5) .nil))) (.enm (.var 1)) (.cons (.cmpv .nin (.var 4) 3) .nil)) .nil)))) .nil))))⟩
def f_chain_of : Df := ⟨"chain_of", 4, 4, (.cons (.exp (.call "need_deals" (.cons (.var 0) (.cons (.var 1) .nil)))) (.cons (.exp (.call "need_within" (.cons (.var 2) (.cons (.bin .sub (.bltv .len 0) (.con (.int 1))) .nil)))) (.cons (.exp (.call "need_within" (.cons (.var 3) (.cons (.bin .sub (.bltv .len 1) (.con (.int 1))) .nil)))) (.cons (.ret (.sub (.call "chains_in" (.cons (.var 1) (.cons (.var 2) .nil))) (.var 3))) .nil))))⟩
def f_is_chain : Df := ⟨"is_chain", 5, 8, (.cons (.exp (.call "need_deals" (.cons (.var 0) (.cons (.var 1) .nil)))) (.cons (.exp (.call "need_within" (.cons (.var 2) (.cons (.bin .sub (.bltv .len 0) (.con (.int 1))) .nil)))) (.cons (.exp (.call "need_within" (.cons (.var 3) (.cons (.bin .sub (.bltv .len 1) (.con (.int 1))) .nil)))) (.cons (.cond (.or (.not (.isi .tuple (.var 4))) (.or (.cmp .eq (.var 4) (.tup .nil)) (.not (.blt .all (.cons (.comp (.call "is_whole" (.cons (.var 6) .nil)) (.nm 6) (.seq (.var 4)) .nil) .nil))))) (.cons (.ret (.con (.bl false))) .nil) .nil) (.cons (.cond (.or (.not (.blt .all (.cons (.comp (.chain .le .lt (.con (.int 0)) (.var 6) (.bltv .len 1)) (.nm 6) (.seq (.var 4)) .nil) .nil))) (.cmpv .ne (.subv 4 (.neg (.con (.int 1)))) 3)) (.cons (.ret (.con (.bl false))) .nil) .nil) (.cons (.set 5 (.call "leans" (.cons (.var 1) .nil))) (.cons (.cond (.cmp .nin (.var 2) (.sub (.subv 5 (.subv 4 (.con (.int 0)))) (.con (.int 0)))) (.cons (.ret (.con (.bl false))) .nil) .nil) (.cons (.ret (.blt .all (.cons (.comp (.cmp .inn (.var 6) (.sub (.subv 5 (.var 7)) (.con (.int 1)))) (.tp (.cons (.nm 6) (.cons (.nm 7) .nil))) (.zip (.var 4) (.slice (.var 4) (.con (.int 1)) .omit)) .nil) .nil))) .nil))))))))⟩
def f_law_pen : Df := ⟨"_law_pen", 1, 1, (.cons (.ret (.share (.lst (.cons (.var 0) (.cons (.blt .int (.cons (.cmp .ge (.var 0) (.bin .pow (.con (.int 10)) (.con (.int 18)))) .nil)) (.cons (.con (.int 0)) (.cons (.bin .mod (.var 0) (.con (.int 1000000007))) .nil))))))) .nil)⟩
def f_law_cell_at : Df := ⟨"_law_cell_at", 2, 2, (.cons (.cond (.cmp .lt (.var 1) (.bltv .len 0)) (.cons (.ret (.subv 0 (.var 1))) .nil) .nil) (.cons (.ret (.con (.int 0))) .nil))⟩
def f_law_draw : Df := ⟨"_law_draw", 2, 4, (.cons (.cond (.and (.cmp .eq (.subv 0 (.con (.int 1))) (.con (.int 1))) (.cmp .gt (.subv 0 (.con (.int 0))) (.con (.int 0)))) (.cons (.set 3 (.bin .mod (.subv 0 (.con (.int 0))) (.var 1))) (.cons (.setr (.var 0) (.con (.int 0)) (.bin .fdiv (.subv 0 (.con (.int 0))) (.var 1))) (.cons (.ret (.var 3)) .nil))) .nil) (.cons (.setr (.var 0) (.con (.int 2)) (.bin .add (.subv 0 (.con (.int 2))) (.con (.int 1)))) (.cons (.set 2 (.bin .mod (.bin .mul (.bin .add (.subv 0 (.con (.int 3))) (.con (.int 17))) (.bin .add (.con (.int 69621)) (.bin .mul (.con (.int 2)) (.subv 0 (.con (.int 2)))))) (.con (.int 2147483647)))) (.cons (.set 2 (.bin .mod (.bin .add (.bin .add (.bin .mul (.var 2) (.var 2)) (.bin .mul (.con (.int 40503)) (.subv 0 (.con (.int 2))))) (.con (.int 5))) (.con (.int 2147483629)))) (.cons (.ret (.bin .mod (.bin .fdiv (.bin .mod (.bin .mul (.var 2) (.con (.int 48271))) (.con (.int 2147483647))) (.con (.int 32))) (.var 1))) .nil)))))⟩
def f_law_owners : Df := ⟨"_law_owners", 1, 3, (.cons (.set 1 (.sub (.lst (.cons (.bin .add (.con (.int 1)) (.call "_law_draw" (.cons (.var 0) (.cons (.con (.int 3)) .nil)))) (.cons (.bin .add (.con (.int 1)) (.call "_law_draw" (.cons (.var 0) (.cons (.con (.int 12)) .nil)))) .nil))) (.call "_law_draw" (.cons (.var 0) (.cons (.con (.int 2)) .nil))))) (.cons (.ret (.blt .tuple (.cons (.comp (.call "_law_draw" (.cons (.var 0) (.cons (.bin .add (.con (.int 2)) (.call "_law_draw" (.cons (.var 0) (.cons (.con (.int 5)) .nil)))) .nil))) (.nm 2) (.rng1 (.var 1)) .nil) .nil))) .nil))⟩
def f_law_mixed : Df := ⟨"_law_mixed", 2, 4, (.cons (.set 2 (.bltv .list 1)) (.cons (.ret (.comp (.popv 2 (.call "_law_draw" (.cons (.var 0) (.cons (.bltv .len 2) .nil)))) (.nm 3) (.rng1 (.bltv .len 2)) .nil)) .nil))⟩
def f_law_deal : Df := ⟨"_law_deal", 2, 5, (.cons (.set 2 (.slice (.call "_law_mixed" (.cons (.var 0) (.cons (.listrg (.bltv .len 1)) .nil))) .omit (.bin .add (.con (.int 1)) (.call "_law_draw" (.cons (.var 0) (.cons (.sub (.lst (.cons (.con (.int 2)) (.cons (.con (.int 6)) .nil))) (.call "_law_draw" (.cons (.var 0) (.cons (.con (.int 2)) .nil)))) .nil)))))) (.cons (.set 3 (.lst .nil)) (.cons (.loop (.nm 4) (.seq (.var 2)) (.cons (.appv 3 (.tup (.cons (.var 4) (.cons (.subv 1 (.var 4)) (.cons (.bin .mod (.bin .add (.bin .add (.subv 1 (.var 4)) (.con (.int 1))) (.call "_law_draw" (.cons (.var 0) (.cons (.con (.int 5)) .nil)))) (.con (.int 6))) .nil))))) .nil)) (.cons (.ret (.bltv .tuple 3)) .nil))))⟩
def f_law_behind : Df := ⟨"_law_behind", 2, 7, (.cons (.set 2 (.bltv .list 0)) (.cons (.loop (.nm 3) (.seq (.var 1)) (.cons (.cond (.cmp .ne (.comp (.con (.int 1)) (.tp (.cons (.nm 4) (.cons (.nm 5) (.cons (.nm 6) .nil)))) (.seq (.var 3)) (.cons (.cmpv .ne (.subv 2 (.var 4)) 5) .nil)) (.lst .nil)) (.cons (.ret (.con .non)) .nil) .nil) (.cons (.loop (.tp (.cons (.nm 4) (.cons (.nm 5) (.cons (.nm 6) .nil)))) (.seq (.var 3)) (.cons (.setv 2 (.var 4) (.var 6)) .nil)) .nil))) (.cons (.ret (.bltv .tuple 2)) .nil)))⟩
def f_law_deals : Df := ⟨"_law_deals", 3, 5, (.cons (.set 3 (.tup .nil)) (.cons (.loop (.nm 4) (.rng1 (.call "_law_draw" (.cons (.var 0) (.cons (.bin .add (.var 2) (.con (.int 1))) .nil)))) (.cons (.set 3 (.bin .add (.var 3) (.tup (.cons (.call "_law_deal" (.cons (.var 0) (.cons (.call "_law_behind" (.cons (.var 1) (.cons (.var 3) .nil))) .nil))) .nil)))) .nil)) (.cons (.ret (.var 3)) .nil)))⟩
def f_law_shown : Df := ⟨"_law_shown", 3, 7, (.cons (.set 3 (.call "fallen" (.cons (.var 0) (.cons (.var 1) (.cons (.var 2) .nil))))) (.cons (.loop (.nm 4) (.rng1 (.bltv .len 1)) (.cons (.set 5 (.call "chain_of" (.cons (.var 0) (.cons (.var 1) (.cons (.var 2) (.cons (.var 4) .nil)))))) (.cons (.cond (.cmp .eq (.cmp .isN (.var 5) (.con .non)) (.cmpv .inn (.var 4) 3)) (.cons (.ret (.con (.bl false))) .nil) .nil) (.cons (.cond (.cmp .isnN (.var 5) (.con .non)) (.cons (.cond (.not (.call "is_chain" (.cons (.var 0) (.cons (.var 1) (.cons (.var 2) (.cons (.var 4) (.cons (.var 5) .nil))))))) (.cons (.ret (.con (.bl false))) .nil) .nil) (.cons (.cond (.cmp .ne (.comp (.var 6) (.nm 6) (.seq (.var 5)) (.cons (.cmpv .nin (.var 6) 3) .nil)) (.lst .nil)) (.cons (.ret (.con (.bl false))) .nil) .nil) (.cons (.cond (.or (.cmp .ne (.bltv .list 5) (.sortset (.var 5))) (.call "is_chain" (.cons (.var 0) (.cons (.var 1) (.cons (.var 2) (.cons (.var 4) (.cons (.slice (.var 5) .omit (.neg (.con (.int 1)))) .nil))))))) (.cons (.ret (.con (.bl false))) .nil) .nil) .nil))) .nil) .nil)))) (.cons (.ret (.con (.bl true))) .nil)))⟩
def f_law_left_right : Df := ⟨"_law_left_right", 3, 12, (.cons (.par 5 6 (.call "fallen" (.cons (.var 0) (.cons (.var 1) (.cons (.var 2) .nil)))) (.call "owners_left" (.cons (.var 0) (.cons (.var 1) (.cons (.var 2) .nil))))) (.cons (.set 3 (.blt .tuple (.cons (.comp (.var 10) (.tp (.cons (.nm 9) (.cons (.nm 10) .nil))) (.enm (.var 1)) (.cons (.cmpv .nin (.var 9) 5) .nil)) .nil))) (.cons (.cond (.or (.cmpv .ne (.call "owners_behind" (.cons (.var 0) (.cons (.var 3) (.cons (.bltv .len 3) .nil)))) 6) (.cmp .ne (.call "fallen" (.cons (.var 0) (.cons (.var 3) (.cons (.var 2) .nil)))) (.tup .nil))) (.cons (.ret (.con (.bl false))) .nil) .nil) (.cons (.cond (.or (.cmpv .ne (.call "owners_left" (.cons (.var 0) (.cons (.var 3) (.cons (.var 2) .nil)))) 6) (.cmp .ne (.subv 6 (.var 2)) (.subv 0 (.var 2)))) (.cons (.ret (.con (.bl false))) .nil) .nil) (.cons (.loop (.nm 4) (.rng1 (.bltv .len 0)) (.cons (.set 7 (.comp (.var 9) (.nm 9) (.seq (.var 5)) (.cons (.cmp .inn (.var 4) (.comp (.subv 11 (.con (.int 0))) (.nm 11) (.seq (.subv 1 (.var 9))) .nil)) .nil))) (.cons (.set 8 (.sub (.call "owners_behind" (.cons (.var 0) (.cons (.var 1) (.cons (.sub (.bin .add (.var 7) (.lst (.cons (.bltv .len 1) .nil))) (.con (.int 0))) .nil)))) (.var 4))) (.cons (.cond (.cmpv .ne (.subv 6 (.var 4)) 8) (.cons (.ret (.con (.bl false))) .nil) .nil) .nil)))) (.cons (.ret (.con (.bl true))) .nil))))))⟩
def f_law : Df := ⟨"law", 1, 8, (.cons (.loop (.nm 1) (.rng1 (.blt .max2 (.cons (.con (.int 1)) (.cons (.blt .min2 (.cons (.bltv .len 0) (.cons (.con (.int 3)) .nil))) .nil)))) (.cons (.set 2 (.call "_law_pen" (.cons (.call "_law_cell_at" (.cons (.var 0) (.cons (.var 1) .nil))) .nil))) (.cons (.set 3 (.call "_law_owners" (.cons (.var 2) .nil))) (.cons (.set 4 (.call "_law_deals" (.cons (.var 2) (.cons (.var 3) (.cons (.con (.int 10)) .nil))))) (.cons (.loop (.nm 5) (.rng1 (.bltv .len 3)) (.cons (.cond (.or (.not (.call "_law_shown" (.cons (.var 3) (.cons (.var 4) (.cons (.var 5) .nil))))) (.not (.call "_law_left_right" (.cons (.var 3) (.cons (.var 4) (.cons (.var 5) .nil)))))) (.cons (.ret (.con (.bl false))) .nil) .nil) (.cons (.set 6 (.call "fallen" (.cons (.var 3) (.cons (.var 4) (.cons (.var 5) .nil))))) (.cons (.cond (.cmp .ne (.call "fallen" (.cons (.var 3) (.cons (.slice (.var 4) .omit (.neg (.con (.int 1)))) (.cons (.var 5) .nil)))) (.blt .tuple (.cons (.comp (.var 7) (.nm 7) (.seq (.var 6)) (.cons (.cmp .lt (.var 7) (.bin .sub (.bltv .len 4) (.con (.int 1)))) .nil)) .nil))) (.cons (.ret (.con (.bl false))) .nil) .nil) .nil)))) .nil))))) (.cons (.ret (.con (.bl true))) .nil))⟩
def r_is_whole : Rw := ⟨⟨("is_whole", none), "is_whole", "is_whole", defArgs (top 7), defBody (top 7), defScope (top 7), [], []⟩, f_is_whole, ["thing"]⟩
def r_is_from : Rw := ⟨⟨("is_from", none), "is_from", "is_from", defArgs (top 8), defBody (top 8), defScope (top 8), [], []⟩, f_is_from, ["thing", "low", "high"]⟩
def r_are_owners : Rw := ⟨⟨("are_owners", none), "are_owners", "are_owners", defArgs (top 14), defBody (top 14), defScope (top 14), [], []⟩, f_are_owners, ["thing", "one"]⟩
def r_is_move : Rw := ⟨⟨("is_move", none), "is_move", "is_move", defArgs (top 15), defBody (top 15), defScope (top 15), [], []⟩, f_is_move, ["many", "thing"]⟩
def r_is_deal : Rw := ⟨⟨("is_deal", none), "is_deal", "is_deal", defArgs (top 16), defBody (top 16), defScope (top 16), [], []⟩, f_is_deal, ["many", "thing", "move"]⟩
def r_done : Rw := ⟨⟨("done", none), "done", "done", defArgs (top 17), defBody (top 17), defScope (top 17), [], []⟩, f_done, ["owners", "deal", "found", "stamp", "giver", "taker"]⟩
def r_all_done : Rw := ⟨⟨("all_done", none), "all_done", "all_done", defArgs (top 18), defBody (top 18), defScope (top 18), [], []⟩, f_all_done, ["owners", "deals", "deal"]⟩
def r_need_deals : Rw := ⟨⟨("need_deals", none), "need_deals", "need_deals", defArgs (top 19), defBody (top 19), defScope (top 19), [], []⟩, f_need_deals, ["owners", "deals", "deal"]⟩
def r_need_within : Rw := ⟨⟨("need_within", none), "need_within", "need_within", defArgs (top 20), defBody (top 20), defScope (top 20), [], []⟩, f_need_within, ["thing", "most"]⟩
def r_owners_behind : Rw := ⟨⟨("owners_behind", none), "owners_behind", "owners_behind", defArgs (top 21), defBody (top 21), defScope (top 21), [], []⟩, f_owners_behind, ["owners", "deals", "many"]⟩
def r_leans : Rw := ⟨⟨("leans", none), "leans", "leans", defArgs (top 22), defBody (top 22), defScope (top 22), [], []⟩, f_leans, ["deals", "found", "last", "place", "deal", "stamps", "stamp", "move"]⟩
def r_chains_in : Rw := ⟨⟨("chains_in", none), "chains_in", "chains_in", defArgs (top 23), defBody (top 23), defScope (top 23), [], []⟩, f_chains_in, ["deals", "false", "found", "place", "some", "stamps", "ahead", "one", "chain"]⟩
def r_falls_in : Rw := ⟨⟨("falls_in", none), "falls_in", "falls_in", defArgs (top 24), defBody (top 24), defScope (top 24), [], []⟩, f_falls_in, ["deals", "false", "place", "chain"]⟩
def r_fallen : Rw := ⟨⟨("fallen", none), "fallen", "fallen", defArgs (top 25), defBody (top 25), defScope (top 25), [], []⟩, f_fallen, ["owners", "deals", "stamp"]⟩
def r_owners_left : Rw := ⟨⟨("owners_left", none), "owners_left", "owners_left", defArgs (top 26), defBody (top 26), defScope (top 26), [], []⟩, f_owners_left, ["owners", "deals", "stamp", "gone", "place", "deal"]⟩
def r_chain_of : Rw := ⟨⟨("chain_of", none), "chain_of", "chain_of", defArgs (top 27), defBody (top 27), defScope (top 27), [], []⟩, f_chain_of, ["owners", "deals", "stamp", "place"]⟩
def r_is_chain : Rw := ⟨⟨("is_chain", none), "is_chain", "is_chain", defArgs (top 28), defBody (top 28), defScope (top 28), [], []⟩, f_is_chain, ["owners", "deals", "stamp", "place", "thing", "rows", "one", "other"]⟩
def r_law_pen : Rw := ⟨⟨("_law_pen", none), "_law_pen", "_law_pen", defArgs (top 30), defBody (top 30), defScope (top 30), [], []⟩, f_law_pen, ["_law_cell"]⟩
def r_law_cell_at : Rw := ⟨⟨("_law_cell_at", none), "_law_cell_at", "_law_cell_at", defArgs (top 31), defBody (top 31), defScope (top 31), [], []⟩, f_law_cell_at, ["_law_script", "_law_k"]⟩
def r_law_draw : Rw := ⟨⟨("_law_draw", none), "_law_draw", "_law_draw", defArgs (top 32), defBody (top 32), defScope (top 32), [], []⟩, f_law_draw, ["_law_pen_here", "_law_bound", "_law_stir", "_law_found"]⟩
def r_law_owners : Rw := ⟨⟨("_law_owners", none), "_law_owners", "_law_owners", defArgs (top 33), defBody (top 33), defScope (top 33), [], []⟩, f_law_owners, ["_law_pen_here", "_law_many", "_law_k"]⟩
def r_law_mixed : Rw := ⟨⟨("_law_mixed", none), "_law_mixed", "_law_mixed", defArgs (top 34), defBody (top 34), defScope (top 34), [], []⟩, f_law_mixed, ["_law_pen_here", "_law_some", "_law_left", "_law_k"]⟩
def r_law_deal : Rw := ⟨⟨("_law_deal", none), "_law_deal", "_law_deal", defArgs (top 35), defBody (top 35), defScope (top 35), [], []⟩, f_law_deal, ["_law_pen_here", "_law_owners_here", "_law_stamps", "_law_found", "_law_stamp"]⟩
def r_law_behind : Rw := ⟨⟨("_law_behind", none), "_law_behind", "_law_behind", defArgs (top 36), defBody (top 36), defScope (top 36), [], []⟩, f_law_behind, ["_law_owners_here", "_law_deals_here", "_law_found", "_law_deal_here", "_law_stamp", "_law_giver", "_law_taker"]⟩
def r_law_deals : Rw := ⟨⟨("_law_deals", none), "_law_deals", "_law_deals", defArgs (top 37), defBody (top 37), defScope (top 37), [], []⟩, f_law_deals, ["_law_pen_here", "_law_owners_here", "_law_most", "_law_found", "_law_k"]⟩
def r_law_shown : Rw := ⟨⟨("_law_shown", none), "_law_shown", "_law_shown", defArgs (top 38), defBody (top 38), defScope (top 38), [], []⟩, f_law_shown, ["_law_owners_here", "_law_deals_here", "_law_false", "_law_gone", "_law_place", "_law_chain", "_law_one"]⟩
def r_law_left_right : Rw := ⟨⟨("_law_left_right", none), "_law_left_right", "_law_left_right", defArgs (top 39), defBody (top 39), defScope (top 39), [], []⟩, f_law_left_right, ["_law_owners_here", "_law_deals_here", "_law_false", "_law_rest", "_law_stamp", "_law_gone", "_law_last", "_law_moved", "_law_due", "_law_place", "_law_deal_here", "_law_move"]⟩
def r_law : Rw := ⟨⟨("law", none), "law", "law", defArgs (top 40), defBody (top 40), defScope (top 40), [], []⟩, f_law, ["_law_script", "_law_k", "_law_pen_here", "_law_owners_here", "_law_deals_here", "_law_stamp", "_law_gone", "_law_one"]⟩
def rows : List Rw := [r_is_whole, r_is_from, r_are_owners, r_is_move, r_is_deal, r_done, r_all_done, r_need_deals, r_need_within, r_owners_behind, r_leans, r_chains_in, r_falls_in, r_fallen, r_owners_left, r_chain_of, r_is_chain, r_law_pen, r_law_cell_at, r_law_draw, r_law_owners, r_law_mixed, r_law_deal, r_law_behind, r_law_deals, r_law_shown, r_law_left_right, r_law]
def pr : Pr := ⟨rows, ["NoOwners", "NoDeals", "NoNumber"], [("MOST_STAMPS", 12), ("MOST_OWNER", 5), ("MOST_DEALS", 10), ("MOST_MOVES", 6)], []⟩
theorem ok_is_whole : Rw.ok pr r_is_whole = true := by decide +kernel
theorem bp_is_whole : BP r_is_whole.d := fun _ _ _ _ _ _ us hl => match us, hl with | [_], _ => rfl
theorem ok_is_from : Rw.ok pr r_is_from = true := by decide +kernel
theorem bp_is_from : BP r_is_from.d := fun _ _ _ _ _ _ us hl => match us, hl with | [_, _, _], _ => rfl
theorem ok_are_owners : Rw.ok pr r_are_owners = true := by decide +kernel
theorem bp_are_owners : BP r_are_owners.d := fun _ _ _ _ _ _ us hl => match us, hl with | [_], _ => rfl
theorem ok_is_move : Rw.ok pr r_is_move = true := by decide +kernel
theorem bp_is_move : BP r_is_move.d := fun _ _ _ _ _ _ us hl => match us, hl with | [_, _], _ => rfl
theorem ok_is_deal : Rw.ok pr r_is_deal = true := by decide +kernel
theorem bp_is_deal : BP r_is_deal.d := fun _ _ _ _ _ _ us hl => match us, hl with | [_, _], _ => rfl
theorem ok_done : Rw.ok pr r_done = true := by decide +kernel
theorem bp_done : BP r_done.d := fun _ _ _ _ _ _ us hl => match us, hl with | [_, _], _ => rfl
theorem ok_all_done : Rw.ok pr r_all_done = true := by decide +kernel
theorem bp_all_done : BP r_all_done.d := fun _ _ _ _ _ _ us hl => match us, hl with | [_, _], _ => rfl
theorem ok_need_deals : Rw.ok pr r_need_deals = true := by decide +kernel
theorem bp_need_deals : BP r_need_deals.d := fun _ _ _ _ _ _ us hl => match us, hl with | [_, _], _ => rfl
theorem ok_need_within : Rw.ok pr r_need_within = true := by decide +kernel
theorem bp_need_within : BP r_need_within.d := fun _ _ _ _ _ _ us hl => match us, hl with | [_, _], _ => rfl
theorem ok_owners_behind : Rw.ok pr r_owners_behind = true := by decide +kernel
theorem bp_owners_behind : BP r_owners_behind.d := fun _ _ _ _ _ _ us hl => match us, hl with | [_, _, _], _ => rfl
theorem ok_leans : Rw.ok pr r_leans = true := by decide +kernel
theorem bp_leans : BP r_leans.d := fun _ _ _ _ _ _ us hl => match us, hl with | [_], _ => rfl
theorem ok_chains_in : Rw.ok pr r_chains_in = true := by decide +kernel
theorem bp_chains_in : BP r_chains_in.d := fun _ _ _ _ _ _ us hl => match us, hl with | [_, _], _ => rfl
theorem ok_falls_in : Rw.ok pr r_falls_in = true := by decide +kernel
theorem bp_falls_in : BP r_falls_in.d := fun _ _ _ _ _ _ us hl => match us, hl with | [_, _], _ => rfl
theorem ok_fallen : Rw.ok pr r_fallen = true := by decide +kernel
theorem bp_fallen : BP r_fallen.d := fun _ _ _ _ _ _ us hl => match us, hl with | [_, _, _], _ => rfl
theorem ok_owners_left : Rw.ok pr r_owners_left = true := by decide +kernel
theorem bp_owners_left : BP r_owners_left.d := fun _ _ _ _ _ _ us hl => match us, hl with | [_, _, _], _ => rfl
theorem ok_chain_of : Rw.ok pr r_chain_of = true := by decide +kernel
theorem bp_chain_of : BP r_chain_of.d := fun _ _ _ _ _ _ us hl => match us, hl with | [_, _, _, _], _ => rfl
theorem ok_is_chain : Rw.ok pr r_is_chain = true := by decide +kernel
theorem bp_is_chain : BP r_is_chain.d := fun _ _ _ _ _ _ us hl => match us, hl with | [_, _, _, _, _], _ => rfl
theorem ok_law_pen : Rw.ok pr r_law_pen = true := by decide +kernel
theorem bp_law_pen : BP r_law_pen.d := fun _ _ _ _ _ _ us hl => match us, hl with | [_], _ => rfl
theorem ok_law_cell_at : Rw.ok pr r_law_cell_at = true := by decide +kernel
theorem bp_law_cell_at : BP r_law_cell_at.d := fun _ _ _ _ _ _ us hl => match us, hl with | [_, _], _ => rfl
theorem ok_law_draw : Rw.ok pr r_law_draw = true := by decide +kernel
theorem bp_law_draw : BP r_law_draw.d := fun _ _ _ _ _ _ us hl => match us, hl with | [_, _], _ => rfl
theorem ok_law_owners : Rw.ok pr r_law_owners = true := by decide +kernel
theorem bp_law_owners : BP r_law_owners.d := fun _ _ _ _ _ _ us hl => match us, hl with | [_], _ => rfl
theorem ok_law_mixed : Rw.ok pr r_law_mixed = true := by decide +kernel
theorem bp_law_mixed : BP r_law_mixed.d := fun _ _ _ _ _ _ us hl => match us, hl with | [_, _], _ => rfl
theorem ok_law_deal : Rw.ok pr r_law_deal = true := by decide +kernel
theorem bp_law_deal : BP r_law_deal.d := fun _ _ _ _ _ _ us hl => match us, hl with | [_, _], _ => rfl
theorem ok_law_behind : Rw.ok pr r_law_behind = true := by decide +kernel
theorem bp_law_behind : BP r_law_behind.d := fun _ _ _ _ _ _ us hl => match us, hl with | [_, _], _ => rfl
theorem ok_law_deals : Rw.ok pr r_law_deals = true := by decide +kernel
theorem bp_law_deals : BP r_law_deals.d := fun _ _ _ _ _ _ us hl => match us, hl with | [_, _, _], _ => rfl
theorem ok_law_shown : Rw.ok pr r_law_shown = true := by decide +kernel
theorem bp_law_shown : BP r_law_shown.d := fun _ _ _ _ _ _ us hl => match us, hl with | [_, _, _], _ => rfl
theorem ok_law_left_right : Rw.ok pr r_law_left_right = true := by decide +kernel
theorem bp_law_left_right : BP r_law_left_right.d := fun _ _ _ _ _ _ us hl => match us, hl with | [_, _, _], _ => rfl
theorem ok_law : Rw.ok pr r_law = true := by decide +kernel
theorem bp_law : BP r_law.d := fun _ _ _ _ _ _ us hl => match us, hl with | [_], _ => rfl
theorem ok : pr.ok = true := by
  show rows.all (Rw.ok pr) = true
  simp only [rows, List.all_cons, List.all_nil, ok_is_whole, ok_is_from, ok_are_owners, ok_is_move, ok_is_deal, ok_done, ok_all_done, ok_need_deals, ok_need_within, ok_owners_behind, ok_leans, ok_chains_in, ok_falls_in, ok_fallen, ok_owners_left, ok_chain_of, ok_is_chain, ok_law_pen, ok_law_cell_at, ok_law_draw, ok_law_owners, ok_law_mixed, ok_law_deal, ok_law_behind, ok_law_deals, ok_law_shown, ok_law_left_right, ok_law, Bool.and_true]
theorem bp : ∀ r ∈ pr.defs, BP r.d := by
  intro r hr
  have hr' : r ∈ rows := hr
  simp only [rows, List.mem_cons, List.not_mem_nil, or_false] at hr'
  rcases hr' with rfl | rfl | rfl | rfl | rfl | rfl | rfl | rfl | rfl | rfl | rfl | rfl | rfl | rfl | rfl | rfl | rfl | rfl | rfl | rfl | rfl | rfl | rfl | rfl | rfl | rfl | rfl | rfl
  · exact bp_is_whole
  · exact bp_is_from
  · exact bp_are_owners
  · exact bp_is_move
  · exact bp_is_deal
  · exact bp_done
  · exact bp_all_done
  · exact bp_need_deals
  · exact bp_need_within
  · exact bp_owners_behind
  · exact bp_leans
  · exact bp_chains_in
  · exact bp_falls_in
  · exact bp_fallen
  · exact bp_owners_left
  · exact bp_chain_of
  · exact bp_is_chain
  · exact bp_law_pen
  · exact bp_law_cell_at
  · exact bp_law_draw
  · exact bp_law_owners
  · exact bp_law_mixed
  · exact bp_law_deal
  · exact bp_law_behind
  · exact bp_law_deals
  · exact bp_law_shown
  · exact bp_law_left_right
  · exact bp_law
end K45
end

section
/-! The law itself. -/
namespace K45
open PySem L2 Eng Fn

theorem hasFrom : HasFrom pr.P := ⟨rfl, rfl⟩
theorem hasDeals : HasDeals pr.P pr.gl := ⟨hasFrom, rfl, rfl, rfl, rfl, rfl, rfl, rfl, rfl, rfl, rfl, rfl⟩
theorem hasDraw : HasDraw pr.P := ⟨rfl, rfl, rfl⟩
theorem hasDealDraw : HasDealDraw pr.P := ⟨hasDraw, rfl, rfl, rfl, rfl, rfl⟩
theorem hasFall : HasFall pr.P := ⟨rfl, rfl, rfl, rfl, rfl⟩
theorem hasChain : HasChain pr.P := ⟨hasFall, rfl, rfl⟩
theorem has_behind : pr.P "owners_behind" = some Fn.f_owners_behind := rfl
theorem ne_ints (o : List Int) : cmpD .ne (ownD o) (ownD o) = some false := by
  have h : D.fit (ownD o) (ownD o) = true := by
    unfold D.fit
    have h1 : D.pl (ownD o) = true := pls_ints o
    have h3 : D.dep (ownD o) = 1 := by show D.deps (o.map D.int) + 1 = 1; rw [deps_ints]
    rw [h1, h3]; rfl
  show (if D.fit (ownD o) (ownD o) then some (!D.eqv (ownD o) (ownD o)) else none) = _
  rw [if_pos h]
  have : D.eqv (ownD o) (ownD o) = true := by show D.eqvs (o.map D.int) (o.map D.int) = true; rw [eqvs_ints]; simp
  rw [this]; rfl
theorem ne_intsL (o : List Int) : cmpD .ne (.lst (o.map .int)) (.lst (o.map .int)) = some false := by
  have h : D.fit (.lst (o.map .int)) (.lst (o.map .int)) = true := by
    unfold D.fit
    have h1 : D.pl (.lst (o.map .int)) = true := pls_ints o
    have h3 : D.dep (.lst (o.map .int)) = 1 := by show D.deps (o.map D.int) + 1 = 1; rw [deps_ints]
    rw [h1, h3]; rfl
  show (if D.fit (.lst (o.map .int)) (.lst (o.map .int)) then some (!D.eqv (.lst (o.map .int)) (.lst (o.map .int))) else none) = _
  rw [if_pos h]
  have : D.eqv (.lst (o.map .int)) (.lst (o.map .int)) = true := by show D.eqvs (o.map D.int) (o.map D.int) = true; rw [eqvs_ints]; simp
  rw [this]; rfl
theorem ne_nats (ss : List Nat) : cmpD .ne (.tup (ss.map natD)) (.tup (ss.map natD)) = some false := by
  have : (D.tup (ss.map natD)) = ownD (ss.map fun s : Nat => (s : Int)) := by unfold ownD; rw [List.map_map]; rfl
  rw [this]; exact ne_ints _
theorem nats_own (cs : List Nat) : natsD cs = .tup ((cs.map fun i : Nat => (i : Int)).map .int) := by unfold natsD; rw [List.map_map]; rfl
theorem cut_m1 (xs : List D) : cutD xs none (some (-1)) = xs.dropLast := by
  unfold cutD
  have e1 : HT.sIx xs.length 0 none = 0 := rfl
  have e2 : HT.sIx xs.length xs.length (some (-1)) = xs.length - 1 := by
    show (if (-1 : Int) < 0 then (-1 + (xs.length : Int)).toNat else min (-1 : Int).toNat xs.length) = _
    rw [if_pos (by omega)]; omega
  rw [e1, e2, List.dropLast_eq_take]; rfl
theorem mem_falls {ds : List (List Mv)} {f k : Nat} (hk : k < ds.length) : decide (k ∈ fallsL ds f) = fallsB ds f k := by
  unfold fallsL
  rw [Bool.eq_iff_iff, decide_eq_true_iff, List.mem_filter]
  exact ⟨fun h => h.2, fun h => ⟨List.mem_range.mpr hk, h⟩⟩
theorem isn_opt (o : Option (List Int)) : cmpD .isN (optD o) .non = some (!o.isSome) := by cases o <;> rfl
theorem eq_bl (a b : Bool) : cmpD .eq (.bl a) (.bl b) = some (a == b) := rfl
section
variable {S : Store} {o : List Int} {ds : List (List Mv)} {f : Nat} {n : Nat}
theorem chn_true {cs : List Nat} {k : Nat} (h : Chn ds f cs k) : isChB ds f k cs = true := by
  obtain ⟨i, h1, h2⟩ := h.head
  have h3 := h.last
  have h4 := h.links
  cases cs with
  | nil => cases h1
  | cons c cr =>
    obtain rfl := Option.some.inj (show some c = some i from h1)
    show (decide ((c :: cr).getLast? = some k) && (decide (f ∈ stAt ds c) && ((c :: cr).zip cr).all fun p => decide ((p.1 : Int) ∈ ahd ds p.2))) = true
    rw [h3, decide_eq_true h2, Bool.true_and, Bool.and_eq_true, List.all_eq_true]
    exact ⟨decide_eq_true rfl, fun p hp => decide_eq_true (h4 p hp)⟩
theorem chn_cut {cs : List Nat} {k : Nat} (h : Chn ds f cs k) : isChB ds f k cs.dropLast = false := by
  have hp := h.pw
  obtain ⟨ys, rfl⟩ := List.getLast?_eq_some_iff.mp h.last
  rw [List.dropLast_concat]
  cases ys with
  | nil => rfl
  | cons c cr =>
    show (decide ((c :: cr).getLast? = some k) && _) = false
    have : (c :: cr).getLast? ≠ some k := fun z => by
      have hm := List.mem_of_getLast? z
      rw [List.pairwise_append] at hp
      exact Nat.lt_irrefl k (hp.2.2 k hm k (List.mem_singleton.mpr rfl))
    rw [decide_eq_false this]; rfl
theorem shown_turn (hd : okDeals o ds) (hl : ds.length ≤ 10) (hf : f < o.length) {k : Nat} (hk : k < ds.length) {a5 a6 : Option Val} (h6 : nOwn a6 = true) :
    ∃ b5, exs (callN pr.P pr.gl 18) pr.gl (.cons (.set 5 (.call "chain_of" (.cons (.var 0) (.cons (.var 1) (.cons (.var 2) (.cons (.var 4) .nil)))))) (.cons (.cond (.cmp .eq (.cmp .isN (.var 5) (.con .non)) (.cmpv .inn (.var 4) 3)) (.cons (.ret (.con (.bl false))) .nil) .nil) (.cons (.cond (.cmp .isnN (.var 5) (.con .non)) (.cons (.cond (.not (.call "is_chain" (.cons (.var 0) (.cons (.var 1) (.cons (.var 2) (.cons (.var 4) (.cons (.var 5) .nil))))))) (.cons (.ret (.con (.bl false))) .nil) .nil) (.cons (.cond (.cmp .ne (.comp (.var 6) (.nm 6) (.seq (.var 5)) (.cons (.cmpv .nin (.var 6) 3) .nil)) (.lst .nil)) (.cons (.ret (.con (.bl false))) .nil) .nil) (.cons (.cond (.or (.cmp .ne (.bltv .list 5) (.sortset (.var 5))) (.call "is_chain" (.cons (.var 0) (.cons (.var 1) (.cons (.var 2) (.cons (.var 4) (.cons (.slice (.var 5) .omit (.neg (.con (.int 1)))) .nil))))))) (.cons (.ret (.con (.bl false))) .nil) .nil) .nil))) .nil) .nil))) [some (.fz (ownD o)), some (.fz (dealsD ds)), some (.fz (natD f)), some (.fz (.tup ((fallsL ds f).map natD))), some (.fz (natD k)), a5, a6] S = .nx [some (.fz (ownD o)), some (.fz (dealsD ds)), some (.fz (natD f)), some (.fz (.tup ((fallsL ds f).map natD))), some (.fz (natD k)), b5, a6] S := by
  obtain ⟨o', hfin, _⟩ := hd.fin
  have e1 := chain_of (gl := pr.gl) (S := S) hasDeals hasChain (n := 18) (by omega) hd.own hl hd.ok hfin hf hk
  have e2 := isn_opt (chAt ds f k)
  have e2' := optD_isn (chAt ds f k)
  have e3 := in_natsT k (fallsL ds f)
  rw [mem_falls hk] at e3
  have e4 := eq_bl (!(chAt ds f k).isSome) (fallsB ds f k)
  have e5 : ((!(chAt ds f k).isSome) == fallsB ds f k) = false := by unfold fallsB; cases (chAt ds f k).isSome <;> rfl
  rw [e5] at e4
  have lk1 := look_optD S (chAt ds f k)
  have lk2 : look S (natD k) = natD k := rfl
  have lk3 : look S (.tup ((fallsL ds f).map natD)) = .tup ((fallsL ds f).map natD) := rfl
  cases q : chAt ds f k with
  | none =>
    rw [q] at e1 e2 e2' e4 lk1
    refine ⟨some (.fz .non), ?_⟩
    have od : optD none = .non := rfl
    rw [od] at e1 e2 e2' lk1
    replace e2 : cmpD .isN .non .non = some true := e2
    replace e2' : cmpD .isnN .non .non = some false := e2'
    replace e4 : cmpD .eq (.bl true) (.bl (fallsB ds f k)) = some false := e4
    clear hd hl hf hk h6 hfin e5 q od
    walk_at "eng*"
  | some c =>
    obtain ⟨cs, rfl, hch, hfa⟩ := chAt_chn k c q
    have ec : optD (some (cs.map fun i : Nat => (i : Int))) = .tup (cs.map natD) := by
      show D.tup ((cs.map fun i : Nat => (i : Int)).map D.int) = _
      rw [List.map_map]; rfl
    rw [q] at e1 e2 e2' e4 lk1
    rw [ec] at e1 e2 e2' lk1
    replace e2 : cmpD .isN (.tup (cs.map natD)) .non = some false := e2
    replace e2' : cmpD .isnN (.tup (cs.map natD)) .non = some true := e2'
    replace e4 : cmpD .eq (.bl false) (.bl (fallsB ds f k)) = some false := e4
    have hc : ∀ c ∈ cs, c < ds.length := fun c hc => Nat.lt_of_le_of_lt (hch.le c hc) hk
    have hcl : cs.length ≤ 12 := by
      have : cs.length ≤ ds.length := by
        have h1 : (cs.map fun i : Nat => (i : Int)).length ≤ k + 1 := chs_opt_len ds f (k + 1) _ (by
          unfold chs
          refine List.mem_append.mpr (.inr (List.mem_singleton.mpr ?_))
          exact q.symm)
        rw [List.length_map] at h1; omega
      omega
    have g1 := is_chain (gl := pr.gl) (S := S) hasDeals hasChain (n := 18) (by omega) hd.own hl hd.ok hfin hf hk hc hcl
    rw [chn_true hch] at g1
    have g2 := is_chain (gl := pr.gl) (S := S) hasDeals hasChain (n := 18) (by omega) hd.own hl hd.ok hfin hf hk (cs := cs.dropLast) (fun c h => hc c ((List.dropLast_sublist cs).subset h)) (by rw [List.length_dropLast]; omega)
    rw [chn_cut hch] at g2
    have nd1 : natsD cs = .tup (cs.map natD) := rfl
    have nd2 : natsD cs.dropLast = .tup (cs.map natD).dropLast := by unfold natsD; rw [List.map_dropLast]
    rw [nd1] at g1
    rw [nd2] at g2
    have g3 : sliceD none (some (-1)) (.tup (cs.map natD)) = some (.fz (.tup (cs.map natD).dropLast)) := by
      show some (Val.fz (.tup (cutD (cs.map natD) none (some (-1))))) = _
      rw [cut_m1]
    have em : cs.map natD = (cs.map fun i : Nat => (i : Int)).map D.int := by rw [List.map_map]; rfl
    have g4 : sortsetD (.tup (cs.map natD)) = some (.own (.lst (cs.map natD))) := by
      rw [em]
      show ((intL _).bind _) = _
      rw [intL_int]
      refine (if_pos (by rw [List.length_map]; omega)).trans ?_
      rw [← setI_one (a := cs.map fun i : Nat => (i : Int)) (b := cs.map fun i : Nat => (i : Int)) ?_ (fun _ => Iff.rfl)]
      rw [List.pairwise_map]
      exact hch.pw.imp fun h => by omega
    have g5 : cmpD .ne (.lst (cs.map natD)) (.lst (cs.map natD)) = some false := by rw [em]; exact ne_intsL _
    have g6 : kComp (callN pr.P pr.gl 18) pr.gl (.var 6) (.nm 6) (.cons (.cmpv .nin (.var 6) 3) .nil) (cs.map natD) [some (.fz (ownD o)), some (.fz (dealsD ds)), some (.fz (natD f)), some (.fz (.tup ((fallsL ds f).map natD))), some (.fz (natD k)), some (.fz (.tup (cs.map natD))), a6] S
        = .ok (.own (.lst [])) [some (.fz (ownD o)), some (.fz (dealsD ds)), some (.fz (natD f)), some (.fz (.tup ((fallsL ds f).map natD))), some (.fz (natD k)), some (.fz (.tup (cs.map natD))), a6] S := by
      have := kComp_typed (cf := callN pr.P pr.gl 18) (gl := pr.gl) (a := (.var 6)) (tg := (.nm 6)) (es := (.cons (.cmpv .nin (.var 6) 3) .nil)) (S := S) (fr := [some (.fz (ownD o)), some (.fz (dealsD ds)), some (.fz (natD f)), some (.fz (.tup ((fallsL ds f).map natD))), some (.fz (natD k)), some (.fz (.tup (cs.map natD))), a6]) (frw := [some (.fz (ownD o)), some (.fz (dealsD ds)), some (.fz (natD f)), some (.fz (.tup ((fallsL ds f).map natD))), some (.fz (natD k)), some (.fz (.tup (cs.map natD))), none]) natD natD (fun i => !decide (i ∈ fallsL ds f)) cs (by
          show (nOwn a6 && true) = true
          rw [h6]; rfl) rfl rfl (Nat.le_trans hcl small12) fun i hi => ?_
      · rw [this]
        have : cs.filter (fun i => !decide (i ∈ fallsL ds f)) = [] := by
          rw [List.filter_eq_nil_iff]
          intro i hi
          rw [mem_falls (hc i hi), hfa i hi]; simp
        rw [this]; rfl
      · refine ⟨[some (.fz (ownD o)), some (.fz (dealsD ds)), some (.fz (natD f)), some (.fz (.tup ((fallsL ds f).map natD))), some (.fz (natD k)), some (.fz (.tup (cs.map natD))), some (.fz (natD i))], rfl, ?_, fun q => rfl, rfl⟩
        have u1 := nin_natsT i (fallsL ds f)
        have u2 : look S (natD i) = natD i := rfl
        clear hd hl hf hk h6 hfin e5 q ec hch hfa hc hcl g1 g2 g3 g4 g5 nd1 nd2 em e1 e2 e2' e3 e4 lk1 lk2 hi
        walk_at "eng*"
    have g7 : cmpD .ne (.lst []) (.lst []) = some false := rfl
    have eo : ∀ fr T, evO (.neg (.con (.int 1))) (ev (callN pr.P pr.gl 18) pr.gl (.neg (.con (.int 1)))) fr T = .ok (some (-1)) fr T := fun _ _ => rfl
    have g8 : bltD .list [.tup (cs.map natD)] = some (.own (.lst (cs.map natD))) := rfl
    refine ⟨some (.fz (.tup (cs.map natD))), ?_⟩
    clear hd hl hf hk h6 hfin e5 q ec hch hfa hc hcl nd1 nd2 em
    walk_at "eng*"
end

theorem shown {S : Store} {o : List Int} {ds : List (List Mv)} {f : Nat} (hd : okDeals o ds) (hl : ds.length ≤ 10) (hf : f < o.length) : callN pr.P pr.gl 19 "_law_shown" [ownD o, dealsD ds, natD f] S = .ok (.fz (.bl true)) S := by
  rw [callN_run (d := f_law_shown) rfl rfl]
  show RS.done (exs (callN pr.P pr.gl 18) pr.gl f_law_shown.body [some (.fz (ownD o)), some (.fz (dealsD ds)), some (.fz (natD f)), none, none, none, none] S) = _
  unfold f_law_shown
  obtain ⟨o', hfin, _⟩ := hd.fin
  have e1 := fallen (P := pr.P) (gl := pr.gl) (S := S) hasDeals hasFall (n := 18) (by omega) hd.own hl hd.ok hfin hf
  have e2 := len_deals ds
  have lk : look S (dealsD ds) = dealsD ds := rfl
  have hr : ∀ fr T, kRng1 (.int (ds.length : Nat)) fr T = .ok (rgD 0 (ds.length : Nat)) fr T := fun fr T => kRng1_eq (rgOk_nat (by omega) (by omega))
  obtain ⟨fr', S', hlo, b4, b5, b6, rfl, rfl, _⟩ := loop_inv0 (tg := .nm 4) (body := exs (callN pr.P pr.gl 18) pr.gl (.cons (.set 5 (.call "chain_of" (.cons (.var 0) (.cons (.var 1) (.cons (.var 2) (.cons (.var 4) .nil)))))) (.cons (.cond (.cmp .eq (.cmp .isN (.var 5) (.con .non)) (.cmpv .inn (.var 4) 3)) (.cons (.ret (.con (.bl false))) .nil) .nil) (.cons (.cond (.cmp .isnN (.var 5) (.con .non)) (.cons (.cond (.not (.call "is_chain" (.cons (.var 0) (.cons (.var 1) (.cons (.var 2) (.cons (.var 4) (.cons (.var 5) .nil))))))) (.cons (.ret (.con (.bl false))) .nil) .nil) (.cons (.cond (.cmp .ne (.comp (.var 6) (.nm 6) (.seq (.var 5)) (.cons (.cmpv .nin (.var 6) 3) .nil)) (.lst .nil)) (.cons (.ret (.con (.bl false))) .nil) .nil) (.cons (.cond (.or (.cmp .ne (.bltv .list 5) (.sortset (.var 5))) (.call "is_chain" (.cons (.var 0) (.cons (.var 1) (.cons (.var 2) (.cons (.var 4) (.cons (.slice (.var 5) .omit (.neg (.con (.int 1)))) .nil))))))) (.cons (.ret (.con (.bl false))) .nil) .nil) .nil))) .nil) .nil))))
    (fun j fr T => ∃ b4 b5 b6, fr = [some (.fz (ownD o)), some (.fz (dealsD ds)), some (.fz (natD f)), some (.fz (.tup ((fallsL ds f).map natD))), b4, b5, b6] ∧ T = S ∧ nOwn b6 = true)
    (ds := rgD 0 (ds.length : Nat)) (fr := [some (.fz (ownD o)), some (.fz (dealsD ds)), some (.fz (natD f)), some (.fz (.tup ((fallsL ds f).map natD))), none, none, none]) (S := S) ⟨_, _, _, rfl, rfl, rfl⟩ (by
    rintro j d fr T hj ⟨b4, b5, b6, rfl, rfl, q6⟩
    obtain ⟨rfl, hj⟩ := rg_mem hj
    have hj : j < ds.length := by omega
    obtain ⟨c5, st⟩ := shown_turn (S := T) (a5 := b5) hd hl hf hj q6
    exact ⟨[some (.fz (ownD o)), some (.fz (dealsD ds)), some (.fz (natD f)), some (.fz (.tup ((fallsL ds f).map natD))), some (.fz (natD j)), b5, b6], _, T, by rw [Int.zero_add]; rfl, st, _, _, _, rfl, rfl, q6⟩)
  clear hd hl hf hfin
  walk_at "eng*"
end K45
end

section
/-! The law itself, second half. -/
namespace K45
open PySem L2 Eng Fn

theorem left_turn {S : Store} {o b : List Int} {ds : List (List Mv)} {f s : Nat} (hd : okDeals o ds) (hl : ds.length ≤ 10) (hf : f < o.length) (hs : s < o.length) (hb : b.length = o.length)
    (hm : ∃ am, allDone o (ds.take ((ffirst ds f ds.length s).getD ds.length)) = some am ∧ b[s]? = am[s]?) {a7 a8 a9 a10 a11 : Option Val} (h9 : nOwn a9 = true) (h11 : nOwn a11 = true) :
    ∃ b7 b8, exs (callN pr.P pr.gl 18) pr.gl (.cons (.set 7 (.comp (.var 9) (.nm 9) (.seq (.var 5)) (.cons (.cmp .inn (.var 4) (.comp (.subv 11 (.con (.int 0))) (.nm 11) (.seq (.subv 1 (.var 9))) .nil)) .nil))) (.cons (.set 8 (.sub (.call "owners_behind" (.cons (.var 0) (.cons (.var 1) (.cons (.sub (.bin .add (.var 7) (.lst (.cons (.bltv .len 1) .nil))) (.con (.int 0))) .nil)))) (.var 4))) (.cons (.cond (.cmpv .ne (.subv 6 (.var 4)) 8) (.cons (.ret (.con (.bl false))) .nil) .nil) .nil))) [some (.fz (ownD o)), some (.fz (.tup (ds.map dealD))), some (.fz (natD f)), some (.fz (dealsD (leftL ds f))), some (.fz (natD s)), some (.fz (.tup ((fallsL ds f).map natD))), some (.fz (ownD b)), a7, a8, a9, a10, a11] S = .nx [some (.fz (ownD o)), some (.fz (.tup (ds.map dealD))), some (.fz (natD f)), some (.fz (dealsD (leftL ds f))), some (.fz (natD s)), some (.fz (.tup ((fallsL ds f).map natD))), some (.fz (ownD b)), b7, b8, a9, a10, a11] S := by
  obtain ⟨o', hfin, _⟩ := hd.fin
  obtain ⟨am, ha1, ha2⟩ := hm
  have hm6 : ∀ ms ∈ ds, ms.length ≤ 6 := fun ms hms => (hd.ok ms hms).2.1
  have fl : (fallsL ds f).length ≤ 10 := by
    unfold fallsL
    exact Nat.le_trans (List.length_filter_le ..) (by rw [List.length_range]; exact hl)
  have inn : ∀ {j : Nat}, j < ds.length → ∀ x9 : Option Val, x9 = some (.fz (.int (j : Int))) → kComp (callN pr.P pr.gl 18) pr.gl (.subv 11 (.con (.int 0))) (.nm 11) .nil (ds.getD j [] |>.map mvD) [some (.fz (ownD o)), some (.fz (.tup (ds.map dealD))), some (.fz (natD f)), some (.fz (dealsD (leftL ds f))), some (.fz (natD s)), some (.fz (.tup ((fallsL ds f).map natD))), some (.fz (ownD b)), a7, a8, some (.fz (.int (j : Int))), a10, a11] S = .ok (.own (.lst ((stAt ds j).map natD))) [some (.fz (ownD o)), some (.fz (.tup (ds.map dealD))), some (.fz (natD f)), some (.fz (dealsD (leftL ds f))), some (.fz (natD s)), some (.fz (.tup ((fallsL ds f).map natD))), some (.fz (ownD b)), a7, a8, some (.fz (.int (j : Int))), a10, a11] S := by
    rintro j hj _ rfl
    have gd : ds.getD j [] = ds[j] := by rw [List.getD_eq_getElem?_getD, List.getElem?_eq_getElem hj]; rfl
    have es : stAt ds j = ds[j].map (·.1) := by unfold stAt; rw [List.getElem?_eq_getElem hj]; rfl
    rw [gd, es, List.map_map]
    refine kComp_all (frw := [some (.fz (ownD o)), some (.fz (.tup (ds.map dealD))), some (.fz (natD f)), some (.fz (dealsD (leftL ds f))), some (.fz (natD s)), some (.fz (.tup ((fallsL ds f).map natD))), some (.fz (ownD b)), a7, a8, some (.fz (.int (j : Int))), a10, none]) mvD _ ds[j] ?_ rfl rfl (Nat.le_trans (by have := hm6 _ (List.getElem_mem hj); omega) small12) fun x hx => ⟨_, rfl, rfl, rfl, rfl⟩
    show (nOwn a11 && true) = true
    rw [h11]; rfl
  have k1 : kComp (callN pr.P pr.gl 18) pr.gl (.var 9) (.nm 9) (.cons (.cmp .inn (.var 4) (.comp (.subv 11 (.con (.int 0))) (.nm 11) (.seq (.subv 1 (.var 9))) .nil)) .nil) ((fallsL ds f).map natD) [some (.fz (ownD o)), some (.fz (.tup (ds.map dealD))), some (.fz (natD f)), some (.fz (dealsD (leftL ds f))), some (.fz (natD s)), some (.fz (.tup ((fallsL ds f).map natD))), some (.fz (ownD b)), a7, a8, a9, a10, a11] S = .ok (.own (.lst (((fallsL ds f).filter fun j => decide (s ∈ stAt ds j)).map natD))) [some (.fz (ownD o)), some (.fz (.tup (ds.map dealD))), some (.fz (natD f)), some (.fz (dealsD (leftL ds f))), some (.fz (natD s)), some (.fz (.tup ((fallsL ds f).map natD))), some (.fz (ownD b)), a7, a8, a9, a10, a11] S := by
    refine kComp_typed (frw := [some (.fz (ownD o)), some (.fz (.tup (ds.map dealD))), some (.fz (natD f)), some (.fz (dealsD (leftL ds f))), some (.fz (natD s)), some (.fz (.tup ((fallsL ds f).map natD))), some (.fz (ownD b)), a7, a8, none, a10, a11]) natD natD _ (fallsL ds f) ?_ rfl rfl (Nat.le_trans (by omega) small12) fun j hj => ?_
    · show (nOwn a9 && true) = true
      rw [h9]; rfl
    · have hj' : j < ds.length := List.mem_range.mp (List.mem_filter.mp hj).1
      have g1 := inn hj' _ rfl
      have g2 := in_nats s (stAt ds j)
      have g3 : atD (ds.map dealD) (j : Int) = some (.tup (ds.getD j [] |>.map mvD)) := atD_nat rfl (by rw [List.getElem?_map, List.getElem?_eq_getElem hj', List.getD_eq_getElem?_getD, List.getElem?_eq_getElem hj']; rfl)
      have g4 : look S (natD s) = natD s := rfl
      refine ⟨[some (.fz (ownD o)), some (.fz (.tup (ds.map dealD))), some (.fz (natD f)), some (.fz (dealsD (leftL ds f))), some (.fz (natD s)), some (.fz (.tup ((fallsL ds f).map natD))), some (.fz (ownD b)), a7, a8, some (.fz (.int (j : Int))), a10, a11], rfl, ?_, fun q => rfl, rfl⟩
      clear hd hl hf hs hb h9 h11 hfin ha1 ha2 hm6 fl inn hj hj'
      walk_at "eng*"
  have hh := ffirst_head ds f s ds.length
  have hmv : ((fallsL ds f).filter fun j => decide (s ∈ stAt ds j)).head? = ffirst ds f ds.length s := hh
  generalize hmm : (ffirst ds f ds.length s).getD ds.length = mm at ha1
  have ml : mm ≤ ds.length := by
    rw [← hmm]
    cases q : ffirst ds f ds.length s with
    | none => exact Nat.le_refl _
    | some j => exact Nat.le_of_lt (ffirst_lt q)
  have e1 := len_deals ds
  have dm : dealsD ds = .tup (ds.map dealD) := rfl
  have e2 : binD .add (.lst (((fallsL ds f).filter fun j => decide (s ∈ stAt ds j)).map natD)) (.lst [.int (ds.length : Nat)]) = some (.own (.lst (((fallsL ds f).filter fun j => decide (s ∈ stAt ds j)).map natD ++ [.int (ds.length : Nat)]))) := by
    refine if_pos ?_
    rw [List.length_map]
    have := List.length_filter_le (fun j => decide (s ∈ stAt ds j)) (fallsL ds f)
    exact Nat.le_trans (by simp only [List.length_cons, List.length_nil]; omega) small12
  have e3 : atD (((fallsL ds f).filter fun j => decide (s ∈ stAt ds j)).map natD ++ [.int (ds.length : Nat)]) 0 = some (.int (mm : Int)) := by
    refine atD_nat (i := 0) rfl ?_
    rw [← hmm, ← hmv]
    cases ((fallsL ds f).filter fun j => decide (s ∈ stAt ds j)) <;> rfl
  have e4 := owners_behind (gl := pr.gl) (S := S) (n := 18) hasDeals has_behind (by omega) hd.own hl hd.ok hfin ml
  rw [ha1] at e4
  have od : optD (some am) = .tup (am.map .int) := rfl
  rw [od] at e4
  obtain ⟨v, hv⟩ : ∃ v, b[s]? = some v := ⟨b[s], List.getElem?_eq_getElem (by omega)⟩
  have e5 : atD (b.map D.int) (s : Int) = some (.int v) := own_at hv
  have e6 : atD (am.map D.int) (s : Int) = some (.int v) := own_at (by rw [← ha2]; exact hv)
  have e7 : cmpD .ne (.int v) (.int v) = some false := by rw [c_neI]; simp
  have ns : natD s = .int (s : Int) := rfl
  have ob : ownD b = .tup (b.map .int) := rfl
  rw [dm] at e1 e4
  refine ⟨some (.fz (.lst (((fallsL ds f).filter fun j => decide (s ∈ stAt ds j)).map natD))), some (.fz (.int v)), ?_⟩
  rw [ns, ob] at k1 ⊢
  clear hd hl hf hs hb h9 h11 hfin ha1 ha2 hm6 fl inn hh hmv hmm ml dm od ns ob hv
  walk_at "eng*"
theorem left_right {S : Store} {o : List Int} {ds : List (List Mv)} {f : Nat} (hd : okDeals o ds) (hl : ds.length ≤ 10) (hf : f < o.length) : callN pr.P pr.gl 19 "_law_left_right" [ownD o, dealsD ds, natD f] S = .ok (.fz (.bl true)) S := by
  rw [callN_run (d := f_law_left_right) rfl rfl]
  show RS.done (exs (callN pr.P pr.gl 18) pr.gl f_law_left_right.body [some (.fz (ownD o)), some (.fz (.tup (ds.map dealD))), some (.fz (natD f)), none, none, none, none, none, none, none, none, none] S) = _
  unfold f_law_left_right
  obtain ⟨o', hfin, _⟩ := hd.fin
  obtain ⟨a, b, _, hb, _, lb, hsb⟩ := both (f := f) hfin ds.length (Nat.le_refl _)
  rw [← leftL_eq] at hb
  have rl : (leftL ds f).length ≤ 10 := by
    unfold leftL
    rw [List.length_map]
    exact Nat.le_trans (List.length_filter_le ..) (by rw [List.length_range]; exact hl)
  have rok : ∀ ms ∈ leftL ds f, okDeal o.length ms := fun ms hm => hd.ok ms (leftL_mem hm)
  have e1 := fallen (P := pr.P) (gl := pr.gl) (S := S) hasDeals hasFall (n := 18) (by omega) hd.own hl hd.ok hfin hf
  have e2 := owners_left (P := pr.P) (gl := pr.gl) (S := S) hasDeals hasFall (n := 18) (by omega) hd.own hl hd.ok hfin hf
  have e3 := owners_behind (gl := pr.gl) (S := S) (n := 18) hasDeals has_behind (by omega) hd.own rl rok hb (Nat.le_refl (leftL ds f).length)
  have e4 := fallen (P := pr.P) (gl := pr.gl) (S := S) hasDeals hasFall (n := 18) (by omega) hd.own rl rok hb hf
  have e5 := owners_left (P := pr.P) (gl := pr.gl) (S := S) hasDeals hasFall (n := 18) (by omega) hd.own rl rok hb hf
  rw [falls_nil left_not] at e4
  rw [left_all left_not, hb] at e5
  rw [List.take_length, hb] at e3
  rw [hb] at e2
  have od : optD (some b) = ownD b := rfl
  rw [od] at e2 e3 e5
  replace e4 : callN pr.P pr.gl 18 "fallen" [ownD o, dealsD (leftL ds f), natD f] S = .ok (.fz (.tup [])) S := e4
  have k1 : kComp (callN pr.P pr.gl 18) pr.gl (.var 10) (.tp (.cons (.nm 9) (.cons (.nm 10) .nil))) (.cons (.cmpv .nin (.var 9) 5) .nil) (enumD (ds.map dealD)) [some (.fz (ownD o)), some (.fz (.tup (ds.map dealD))), some (.fz (natD f)), none, none, some (.fz (.tup ((fallsL ds f).map natD))), some (.fz (ownD b)), none, none, none, none, none] S
      = .ok (.own (.lst ((leftL ds f).map dealD))) [some (.fz (ownD o)), some (.fz (.tup (ds.map dealD))), some (.fz (natD f)), none, none, some (.fz (.tup ((fallsL ds f).map natD))), some (.fz (ownD b)), none, none, none, none, none] S := by
    unfold leftL
    rw [enumD_map dealD ds [], List.map_map]
    refine kComp_typed (frw := [some (.fz (ownD o)), some (.fz (.tup (ds.map dealD))), some (.fz (natD f)), none, none, some (.fz (.tup ((fallsL ds f).map natD))), some (.fz (ownD b)), none, none, none, none, none]) (fun k : Nat => D.tup [.int (k : Nat), dealD (ds.getD k [])]) _ _ (List.range ds.length) rfl rfl rfl (by rw [List.length_range]; exact Nat.le_trans (by omega) small12) fun k hk => ?_
    refine ⟨[some (.fz (ownD o)), some (.fz (.tup (ds.map dealD))), some (.fz (natD f)), none, none, some (.fz (.tup ((fallsL ds f).map natD))), some (.fz (ownD b)), none, none, some (.fz (natD k)), some (.fz (dealD (ds.getD k []))), none], rfl, ?_, fun q => rfl, rfl⟩
    have g1 := nin_natsT k (fallsL ds f)
    have lk2 : look S (natD k) = natD k := rfl
    clear hd hl hf hfin hb lb hsb rl rok e1 e2 e3 e4 e5 od hk
    walk_at "eng*"
  have lb' := len_deals (leftL ds f)
  have lo := len_own o
  have n1 := ne_ints b
  have n2 : cmpD .ne (.tup []) (.tup []) = some false := rfl
  obtain ⟨v, hv⟩ : ∃ v, o[f]? = some v := ⟨o[f], List.getElem?_eq_getElem hf⟩
  have hbv : b[f]? = some v := by
    rw [← hv]
    refine unmoved (s := f) (fun ms hm => ?_) hb
    obtain ⟨i, hi⟩ := List.mem_iff_getElem?.mp hm
    have := left_not (ds := ds) (f := f) i
    unfold stAt at this
    rw [hi] at this; exact this
  have v1 : atD (b.map D.int) (f : Int) = some (.int v) := own_at hbv
  have v2 : atD (o.map D.int) (f : Int) = some (.int v) := own_at hv
  have v3 : cmpD .ne (.int v) (.int v) = some false := by rw [c_neI]; simp
  have lk1 : look S (ownD b) = ownD b := rfl
  have lk2 : look S (ownD o) = ownD o := rfl
  have lk3 : look S (dealsD (leftL ds f)) = dealsD (leftL ds f) := rfl
  have hr : ∀ fr T, kRng1 (.int (o.length : Nat)) fr T = .ok (rgD 0 (o.length : Nat)) fr T := fun fr T => kRng1_eq (rgOk_nat (by omega) (by have := hd.own.2.1; omega))
  have ob : ownD b = .tup (b.map .int) := rfl
  have oo : ownD o = .tup (o.map .int) := rfl
  have s1 : subD (ownD b) (natD f) = some (.int v) := v1
  have s2 : subD (ownD o) (natD f) = some (.int v) := v2
  have dm : dealsD ds = .tup (ds.map dealD) := rfl
  have dl : D.tup ((leftL ds f).map dealD) = dealsD (leftL ds f) := rfl
  obtain ⟨fr', S', hlo, b4, b7, b8, b9, b10, b11, rfl, rfl, _⟩ := loop_inv0 (tg := .nm 4) (body := exs (callN pr.P pr.gl 18) pr.gl (.cons (.set 7 (.comp (.var 9) (.nm 9) (.seq (.var 5)) (.cons (.cmp .inn (.var 4) (.comp (.subv 11 (.con (.int 0))) (.nm 11) (.seq (.subv 1 (.var 9))) .nil)) .nil))) (.cons (.set 8 (.sub (.call "owners_behind" (.cons (.var 0) (.cons (.var 1) (.cons (.sub (.bin .add (.var 7) (.lst (.cons (.bltv .len 1) .nil))) (.con (.int 0))) .nil)))) (.var 4))) (.cons (.cond (.cmpv .ne (.subv 6 (.var 4)) 8) (.cons (.ret (.con (.bl false))) .nil) .nil) .nil))))
    (fun j fr T => ∃ b4 b7 b8 b9 b10 b11, fr = [some (.fz (ownD o)), some (.fz (.tup (ds.map dealD))), some (.fz (natD f)), some (.fz (dealsD (leftL ds f))), b4, some (.fz (.tup ((fallsL ds f).map natD))), some (.fz (ownD b)), b7, b8, b9, b10, b11] ∧ T = S ∧ nOwn b9 = true ∧ nOwn b11 = true)
    (ds := rgD 0 (o.length : Nat)) (fr := [some (.fz (ownD o)), some (.fz (.tup (ds.map dealD))), some (.fz (natD f)), some (.fz (dealsD (leftL ds f))), none, some (.fz (.tup ((fallsL ds f).map natD))), some (.fz (ownD b)), none, none, none, none, none]) (S := S) ⟨_, _, _, _, _, _, rfl, rfl, rfl, rfl⟩ (by
    rintro j d fr T hj ⟨b4, b7, b8, b9, b10, b11, rfl, rfl, q9, q11⟩
    obtain ⟨rfl, hj⟩ := rg_mem hj
    have hj : j < o.length := by omega
    obtain ⟨c7, c8, st⟩ := left_turn (S := T) (a7 := b7) (a8 := b8) (a10 := b10) hd hl hf hj lb (hsb j) q9 q11
    exact ⟨[some (.fz (ownD o)), some (.fz (.tup (ds.map dealD))), some (.fz (natD f)), some (.fz (dealsD (leftL ds f))), some (.fz (natD j)), some (.fz (.tup ((fallsL ds f).map natD))), some (.fz (ownD b)), b7, b8, b9, b10, b11], _, T, by rw [Int.zero_add]; rfl, st, _, _, _, _, _, _, rfl, rfl, q9, q11⟩)
  rw [dm] at e1 e2
  clear hd hl hf hfin hb lb hsb rl rok od hv hbv v1 v2 ob oo dm
  walk_at "eng*"

theorem ne_fall (ss : List Nat) (xs : List Nat) (h : ss = xs) : cmpD .ne (.tup (ss.map natD)) (.tup (xs.map natD)) = some false := by subst h; exact ne_nats ss
theorem stamp_turn {S : Store} {o : List Int} {ds : List (List Mv)} {x0 x1 x2 a6 a7 : Option Val} (hd : okDeals o ds) (hl : ds.length ≤ 10) {f : Nat} (hf : f < o.length) (h7 : nOwn a7 = true) :
    ∃ b6, exs (callN pr.P pr.gl 19) pr.gl (.cons (.cond (.or (.not (.call "_law_shown" (.cons (.var 3) (.cons (.var 4) (.cons (.var 5) .nil))))) (.not (.call "_law_left_right" (.cons (.var 3) (.cons (.var 4) (.cons (.var 5) .nil)))))) (.cons (.ret (.con (.bl false))) .nil) .nil) (.cons (.set 6 (.call "fallen" (.cons (.var 3) (.cons (.var 4) (.cons (.var 5) .nil))))) (.cons (.cond (.cmp .ne (.call "fallen" (.cons (.var 3) (.cons (.slice (.var 4) .omit (.neg (.con (.int 1)))) (.cons (.var 5) .nil)))) (.blt .tuple (.cons (.comp (.var 7) (.nm 7) (.seq (.var 6)) (.cons (.cmp .lt (.var 7) (.bin .sub (.bltv .len 4) (.con (.int 1)))) .nil)) .nil))) (.cons (.ret (.con (.bl false))) .nil) .nil) .nil))) [x0, x1, x2, some (.fz (ownD o)), some (.fz (dealsD ds)), some (.fz (natD f)), a6, a7] S = .nx [x0, x1, x2, some (.fz (ownD o)), some (.fz (dealsD ds)), some (.fz (natD f)), b6, a7] S := by
  obtain ⟨o', hfin, _⟩ := hd.fin
  have e1 := shown (S := S) hd hl hf
  have e2 := left_right (S := S) hd hl hf
  have e3 := fallen (P := pr.P) (gl := pr.gl) (S := S) hasDeals hasFall (n := 19) (by omega) hd.own hl hd.ok hfin hf
  obtain ⟨ap, hap⟩ := allDone_pre (ds.length - 1) hfin
  have e4 := fallen (P := pr.P) (gl := pr.gl) (S := S) hasDeals hasFall (n := 19) (by omega) (ds := ds.take (ds.length - 1)) hd.own (by rw [List.length_take]; omega) (fun ms hm => hd.ok ms (List.mem_of_mem_take hm)) hap hf
  have e5 := len_deals ds
  have dm : dealsD ds = .tup (ds.map dealD) := rfl
  have e6 : sliceD none (some (-1)) (.tup (ds.map dealD)) = some (.fz (dealsD (ds.take (ds.length - 1)))) := by
    show some (Val.fz (.tup (cutD (ds.map dealD) none (some (-1))))) = _
    rw [cut_m1, ← List.map_dropLast, List.dropLast_eq_take]; rfl
  have e7 := fallsL_take ds f (ds.length - 1) (by omega)
  have k1 : kComp (callN pr.P pr.gl 19) pr.gl (.var 7) (.nm 7) (.cons (.cmp .lt (.var 7) (.bin .sub (.bltv .len 4) (.con (.int 1)))) .nil) ((fallsL ds f).map natD) [x0, x1, x2, some (.fz (ownD o)), some (.fz (.tup (ds.map dealD))), some (.fz (natD f)), some (.fz (.tup ((fallsL ds f).map natD))), a7] S
      = .ok (.own (.lst (((fallsL ds f).filter fun j => decide (j < ds.length - 1)).map natD))) [x0, x1, x2, some (.fz (ownD o)), some (.fz (.tup (ds.map dealD))), some (.fz (natD f)), some (.fz (.tup ((fallsL ds f).map natD))), a7] S := by
    have fl : (fallsL ds f).length ≤ 10 := by
      unfold fallsL
      exact Nat.le_trans (List.length_filter_le ..) (by rw [List.length_range]; exact hl)
    refine kComp_typed (frw := [x0, x1, x2, some (.fz (ownD o)), some (.fz (.tup (ds.map dealD))), some (.fz (natD f)), some (.fz (.tup ((fallsL ds f).map natD))), none]) natD natD _ (fallsL ds f) ?_ rfl rfl (Nat.le_trans (by omega) small12) fun j hj => ?_
    · show (nOwn a7 && true) = true
      rw [h7]; rfl
    · have hj' : j < ds.length := List.mem_range.mp (List.mem_filter.mp hj).1
      have g1 : cmpD .lt (.int (j : Int)) (.int ((ds.length : Int) - 1)) = some (decide (j < ds.length - 1)) := by
        rw [c_ltI]
        congr 1
        rw [Bool.eq_iff_iff, decide_eq_true_iff, decide_eq_true_iff]; omega
      rw [dm] at e5
      refine ⟨[x0, x1, x2, some (.fz (ownD o)), some (.fz (.tup (ds.map dealD))), some (.fz (natD f)), some (.fz (.tup ((fallsL ds f).map natD))), some (.fz (.int (j : Int)))], rfl, ?_, fun q => rfl, rfl⟩
      clear hd hl hf h7 hfin e1 e2 e3 hap e4 dm e6 e7 fl hj hj'
      walk_at "eng*"
  have n1 := ne_fall _ _ e7
  have eo : ∀ fr T, evO (.neg (.con (.int 1))) (ev (callN pr.P pr.gl 19) pr.gl (.neg (.con (.int 1)))) fr T = .ok (some (-1)) fr T := fun _ _ => rfl
  refine ⟨some (.fz (.tup ((fallsL ds f).map natD))), ?_⟩
  rw [dm] at e1 e2 e3 e5 ⊢
  clear hd hl hf h7 hfin hap dm e7
  walk_at "eng*"
theorem turn {S : Store} {ns : List Int} {i : Nat} {a2 a3 a4 a5 a6 a7 : Option Val} (h7 : nOwn a7 = true) : ∃ b2 b3 b4 b5 b6 b7 S', exs (callN pr.P pr.gl 19) pr.gl (.cons (.set 2 (.call "_law_pen" (.cons (.call "_law_cell_at" (.cons (.var 0) (.cons (.var 1) .nil))) .nil))) (.cons (.set 3 (.call "_law_owners" (.cons (.var 2) .nil))) (.cons (.set 4 (.call "_law_deals" (.cons (.var 2) (.cons (.var 3) (.cons (.con (.int 10)) .nil))))) (.cons (.loop (.nm 5) (.rng1 (.bltv .len 3)) (.cons (.cond (.or (.not (.call "_law_shown" (.cons (.var 3) (.cons (.var 4) (.cons (.var 5) .nil))))) (.not (.call "_law_left_right" (.cons (.var 3) (.cons (.var 4) (.cons (.var 5) .nil)))))) (.cons (.ret (.con (.bl false))) .nil) .nil) (.cons (.set 6 (.call "fallen" (.cons (.var 3) (.cons (.var 4) (.cons (.var 5) .nil))))) (.cons (.cond (.cmp .ne (.call "fallen" (.cons (.var 3) (.cons (.slice (.var 4) .omit (.neg (.con (.int 1)))) (.cons (.var 5) .nil)))) (.blt .tuple (.cons (.comp (.var 7) (.nm 7) (.seq (.var 6)) (.cons (.cmp .lt (.var 7) (.bin .sub (.bltv .len 4) (.con (.int 1)))) .nil)) .nil))) (.cons (.ret (.con (.bl false))) .nil) .nil) .nil)))) .nil)))) [some (.fz (.scr (ns.map .int))), some (.fz (.int i)), a2, a3, a4, a5, a6, a7] S = .nx [some (.fz (.scr (ns.map .int))), some (.fz (.int i)), b2, b3, b4, b5, b6, b7] S' ∧ nOwn b7 = true := by
  obtain ⟨c, e1⟩ := cell_at (P := pr.P) (gl := pr.gl) (S := S) (n := 19) (ns := ns) (j := i) hasDraw (by omega)
  obtain ⟨cl, e2, hp⟩ := pen (P := pr.P) (gl := pr.gl) (S := S) (n := 19) (i := c) hasDraw (by omega)
  generalize S ++ [cl] = S1 at e2 hp
  generalize S.length = k at e2 hp
  obtain ⟨o, S2, e3, ho, m2, hp⟩ := owners (gl := pr.gl) (n := 19) hasDealDraw (by omega) hp
  obtain ⟨ds, S3, e4, hd, hl, m3, hp⟩ := deals (gl := pr.gl) (n := 19) (q := 10) hasDealDraw (by omega) hp ho (by omega) (by omega)
  have hl : ds.length ≤ 10 := by omega
  have e6 := len_own o
  have lk1 : ∀ T, look T (ownD o) = ownD o := fun _ => rfl
  have hr : ∀ fr T, kRng1 (.int (o.length : Nat)) fr T = .ok (rgD 0 (o.length : Nat)) fr T := fun fr T => kRng1_eq (rgOk_nat (by omega) (by have := ho.2.1; omega))
  obtain ⟨fr', S', hlo, b5, b6, b7, rfl, rfl, q7⟩ := loop_inv0 (tg := .nm 5) (body := exs (callN pr.P pr.gl 19) pr.gl (.cons (.cond (.or (.not (.call "_law_shown" (.cons (.var 3) (.cons (.var 4) (.cons (.var 5) .nil))))) (.not (.call "_law_left_right" (.cons (.var 3) (.cons (.var 4) (.cons (.var 5) .nil)))))) (.cons (.ret (.con (.bl false))) .nil) .nil) (.cons (.set 6 (.call "fallen" (.cons (.var 3) (.cons (.var 4) (.cons (.var 5) .nil))))) (.cons (.cond (.cmp .ne (.call "fallen" (.cons (.var 3) (.cons (.slice (.var 4) .omit (.neg (.con (.int 1)))) (.cons (.var 5) .nil)))) (.blt .tuple (.cons (.comp (.var 7) (.nm 7) (.seq (.var 6)) (.cons (.cmp .lt (.var 7) (.bin .sub (.bltv .len 4) (.con (.int 1)))) .nil)) .nil))) (.cons (.ret (.con (.bl false))) .nil) .nil) .nil))))
    (fun j fr T => ∃ b5 b6 b7, fr = [some (.fz (.scr (ns.map .int))), some (.fz (.int i)), some (.fz (.ref k)), some (.fz (ownD o)), some (.fz (dealsD ds)), b5, b6, b7] ∧ T = S3 ∧ nOwn b7 = true)
    (ds := rgD 0 (o.length : Nat)) (fr := [some (.fz (.scr (ns.map .int))), some (.fz (.int i)), some (.fz (.ref k)), some (.fz (ownD o)), some (.fz (dealsD ds)), a5, a6, a7]) (S := S3) ⟨_, _, _, rfl, rfl, h7⟩ (by
    rintro j d fr T hj ⟨b5, b6, b7, rfl, rfl, q7⟩
    obtain ⟨rfl, hj⟩ := rg_mem hj
    have hj : j < o.length := by omega
    obtain ⟨c6, st⟩ := stamp_turn (S := T) (x0 := some (.fz (.scr (ns.map .int)))) (x1 := some (.fz (.int i))) (x2 := some (.fz (.ref k))) (a6 := b6) hd hl hj q7
    exact ⟨[some (.fz (.scr (ns.map .int))), some (.fz (.int i)), some (.fz (.ref k)), some (.fz (ownD o)), some (.fz (dealsD ds)), some (.fz (natD j)), b6, b7], _, T, by rw [Int.zero_add]; rfl, st, _, _, _, rfl, rfl, q7⟩)
  refine ⟨some (.fz (.ref k)), some (.fz (ownD o)), some (.fz (dealsD ds)), b5, b6, b7, S', ?_, q7⟩
  clear m2 m3 hl h7 q7
  walk_at "eng*"
theorem law_ok : ∀ ns : List Int, ns.length ≤ 63 → ∃ S, callN pr.P pr.gl 20 "law" [.scr (ns.map D.int)] [] = .ok (.fz (.bl true)) S := by
  intro ns hns
  rw [callN_run (d := f_law) rfl rfl]
  show ∃ S, RS.done (exs (callN pr.P pr.gl 19) pr.gl f_law.body [some (.fz (.scr (ns.map .int))), none, none, none, none, none, none, none] []) = _
  unfold f_law
  obtain ⟨w, hw0, hw1, hw⟩ : ∃ w : Int, 0 ≤ w ∧ w ≤ 3 ∧ (if (if (3 : Int) < ((ns.map D.int).length : Nat) then 3 else (((ns.map D.int).length : Nat) : Int)) > 1 then (if (3 : Int) < ((ns.map D.int).length : Nat) then 3 else (((ns.map D.int).length : Nat) : Int)) else 1) = w := by
    refine ⟨_, ?_, ?_, rfl⟩
    · split <;> omega
    · split
      · split <;> omega
      · omega
  have hr : ∀ fr S, kRng1 (.int w) fr S = .ok (rgD 0 w) fr S := fun fr S => kRng1_eq (rgOk_nat hw0 (by omega))
  walk_at "eng"
  rw [hw, hr]
  walk_at "eng"
  obtain ⟨fr', S', hlo, a1, a2, a3, a4, a5, a6, a7, rfl, _⟩ := loop_inv0 (tg := .nm 1) (body := exs (callN pr.P pr.gl 19) pr.gl (.cons (.set 2 (.call "_law_pen" (.cons (.call "_law_cell_at" (.cons (.var 0) (.cons (.var 1) .nil))) .nil))) (.cons (.set 3 (.call "_law_owners" (.cons (.var 2) .nil))) (.cons (.set 4 (.call "_law_deals" (.cons (.var 2) (.cons (.var 3) (.cons (.con (.int 10)) .nil))))) (.cons (.loop (.nm 5) (.rng1 (.bltv .len 3)) (.cons (.cond (.or (.not (.call "_law_shown" (.cons (.var 3) (.cons (.var 4) (.cons (.var 5) .nil))))) (.not (.call "_law_left_right" (.cons (.var 3) (.cons (.var 4) (.cons (.var 5) .nil)))))) (.cons (.ret (.con (.bl false))) .nil) .nil) (.cons (.set 6 (.call "fallen" (.cons (.var 3) (.cons (.var 4) (.cons (.var 5) .nil))))) (.cons (.cond (.cmp .ne (.call "fallen" (.cons (.var 3) (.cons (.slice (.var 4) .omit (.neg (.con (.int 1)))) (.cons (.var 5) .nil)))) (.blt .tuple (.cons (.comp (.var 7) (.nm 7) (.seq (.var 6)) (.cons (.cmp .lt (.var 7) (.bin .sub (.bltv .len 4) (.con (.int 1)))) .nil)) .nil))) (.cons (.ret (.con (.bl false))) .nil) .nil) .nil)))) .nil)))))
    (fun j fr T => ∃ a1 a2 a3 a4 a5 a6 a7, fr = [some (.fz (.scr (ns.map .int))), a1, a2, a3, a4, a5, a6, a7] ∧ nOwn a7 = true)
    (ds := rgD 0 w) (fr := [some (.fz (.scr (ns.map .int))), none, none, none, none, none, none, none]) (S := []) ⟨_, _, _, _, _, _, _, rfl, rfl⟩ (by
    rintro j d fr T hj ⟨a1, a2, a3, a4, a5, a6, a7, rfl, q7⟩
    obtain ⟨rfl, hj⟩ := rg_mem hj
    obtain ⟨b2, b3, b4, b5, b6, b7, S', e, q7⟩ := turn (S := T) (ns := ns) (i := j) (a2 := a2) (a3 := a3) (a4 := a4) (a5 := a5) (a6 := a6) q7
    exact ⟨_, _, S', by rw [Int.zero_add]; rfl, e, _, _, _, _, _, _, _, rfl, q7⟩)
  rw [hlo]
  walk_at "eng"
  exact ⟨S', rfl⟩
end K45
end

section
namespace K45
open PySem PySem.Spec PyProof.Rows L2
abbrev R : PySem.W.OpenRow := PySem.W.OpenLaw.row PySem.Challenge.rw_hingemount_k45_whole_a_false_stamp_takes
abbrev hk : PySem.W.Hook := He.hookD 4 pr.fa pr.fn
def ob (s : PySem.W.SharedT) : He.AlD := He.obsDG 4 pr.fa pr.fn (HandSHeadRun.getT s)
theorem ob_eq (s : PySem.W.SharedT) : ob s = hk.obs s.abs := He.obsDG_eq (HandSHeadRun.getT_eq s)
def names : List PySem.Str := ("HingeError" : PySem.Str) :: ("NoThing" : PySem.Str) :: ("NoNumber" : PySem.Str) :: ("NoOwners" : PySem.Str) :: ("NoDeals" : PySem.Str) :: ("is_whole" : PySem.Str) :: ("is_from" : PySem.Str) :: ("MOST_STAMPS" : PySem.Str) :: ("MOST_OWNER" : PySem.Str) :: ("MOST_DEALS" : PySem.Str) :: ("MOST_MOVES" : PySem.Str) :: ("are_owners" : PySem.Str) :: ("is_move" : PySem.Str) :: ("is_deal" : PySem.Str) :: ("done" : PySem.Str) :: ("all_done" : PySem.Str) :: ("need_deals" : PySem.Str) :: ("need_within" : PySem.Str) :: ("owners_behind" : PySem.Str) :: ("leans" : PySem.Str) :: ("chains_in" : PySem.Str) :: ("falls_in" : PySem.Str) :: ("fallen" : PySem.Str) :: ("owners_left" : PySem.Str) :: ("chain_of" : PySem.Str) :: ("is_chain" : PySem.Str) :: ("_law_pen" : PySem.Str) :: ("_law_cell_at" : PySem.Str) :: ("_law_draw" : PySem.Str) :: ("_law_owners" : PySem.Str) :: ("_law_mixed" : PySem.Str) :: ("_law_deal" : PySem.Str) :: ("_law_behind" : PySem.Str) :: ("_law_deals" : PySem.Str) :: ("_law_shown" : PySem.Str) :: ("_law_left_right" : PySem.Str) :: []
theorem run (w : World) : HandSHeadRun.RunEq R (PySem.W.view R.prog [40]) hk ob 4000 names w := by
  intro os
  kernel_rfl
end K45
end

section
open PySem PySem.W PySem.Calls PyProof.Rows
theorem PySem.Challenge.cw_hingemount_k45_whole_a_false_stamp_takes_holds : PySem.Challenge.rw_hingemount_k45_whole_a_false_stamp_takes.Holds := by
  w_on; o_law
  refine HandSHeadRun.head_any (r := OpenLaw.row PySem.Challenge.rw_hingemount_k45_whole_a_false_stamp_takes) (q := view (OpenLaw.row PySem.Challenge.rw_hingemount_k45_whole_a_false_stamp_takes).prog [40]) (H := K45.hk) (ob := K45.ob) (M := 4000) (loose := K45.names) (d := HandSHeadRun.topDef (OpenLaw.row PySem.Challenge.rw_hingemount_k45_whole_a_false_stamp_takes).prog 40) (kwd := []) K45.ob_eq
    (by kernel_rfl) (fun s => by kernel_rfl) K45.run (by kernel_rfl) (by kernel_rfl) (by kernel_rfl) (by rfl) (by first | assumption | decide +kernel) (by decide +kernel) ⟨rfl, rfl, rfl, rfl, rfl, by decide +kernel⟩ ?hw ?hc
  case hw => w_witness2
  case hc => exact Eng.Pr.law (p := K45.pr) (n := 20) (x := "_law_script") rfl (by kernel_rfl) ⟨rfl, by decide, by decide⟩ K45.ok K45.bp (by kernel_rfl) K45.r_law (by kernel_rfl) (by kernel_rfl) K45.law_ok
end
