import PyProof.Rows.All
import Wide.All
import OpenK.AllK
import Wide.FinOn
import HandS.ForMost
import HandS.ForExc
import HandS.IsInst
import HandS.Walk
import HandS.TupAny
import HandS.Conv
import HandS.CallSlots
import HandS.Lambda
import HandS.EndTab
import HandS.HeadHook4
import HandS.Exc
import KE.LtData
import HandS.Codes
import HandS.HeadHook2
import HandS.HeadEnd
import HandS.ExcInit
import PySem.Challenge.RW_hingemount_k15_families_of_refusals
import HandS.Head0
import HandS.Head1
import HandS.Head2
import KE.KStateDown
import Lean
import KE.DataEq
import KE.DataCmp
import PyProof.ReprRoads
import PyProof.FactsAll.dict
import PyProof.EqKinds
import PyProof.FactsAll.subtypes_1
import PyProof.FactsAll.subtypes_4
import PyProof.FactsAll.subtypes_5
import HandS.TupMul
import HandS.Text
import HandS.TupLen
import HandS.RaiseMore
import HandS.WordsDict
import KE.SortData
import KE.KDictSum
import KE.KeyNested
import HandS.TupSets
import HandS.SortInts
import HandS.Zip
import HandS.TryMany
import HandS.Comp
import KE.GoesComp
import KE.GoesRaise
import HandS.ClsMeth
import HandS.Defaults
import HandS.ExcIs
import HandS.FStr
import KE.GoesEnum
import HandS.SetFor
import HandS.Strs
import HandS.SortKw
import KE.DataMinMax
import HandS.Small
import PyProof.Rows.RowBridgeK
import HandS.TryOnly
import HandS.Style
import KE.KDictCopyH
import KE.KDictPairs
import KE.KDictWalk
import KE.DataFind
import PyProof.SumAny
import HandS.MapSum
import HandS.Flow
import KE.KIndexOf
import KE.KExcIs
import HandS.ExcValue
import HandS.OwnEq
import PyProof.InstNe
import PyProof.FactsLen
import KE.KCallOwn
import OpenK.KOps
import PyProof.Conv_bool
import PyProof.NeKinds
import PyProof.ReprLen
set_option Elab.async false
set_option linter.all false
set_option maxRecDepth 100000
set_option maxHeartbeats 0
section
namespace Eng
open PySem PySem.Spec PyProof.Rows L2

inductive D where
  | non | bl (b : Bool) | int (i : Int) | str (x : Str)
  | lst (xs : List D) | tup (xs : List D) | dic (ks : List Key) (vs : List D) | dit (ks : List (List Key)) (vs : List D) | ref (n : Nat) | scr (xs : List D)

inductive Cell where
  | lst (xs : List D) | dK (ks : List Key) (vs : List D) | dT (ks : List (List Key)) (vs : List D) | ins (c : Str) (ns : List Str) (vs : List D) | tab (f : Str) | exn (c : Str) (ns : List Str) (vs : List D)
abbrev Store := List Cell
inductive Val where
  | fz (d : D) | own (c : Cell)
abbrev Frame := List (Option Val)
structure Ex where
  c : Str
  ns : List Str
  vs : List D

structure Gh where
  rho : List Addr
  own : List Addr
  tmp : List Addr
def Gh.av (g : Gh) (a : Addr) : Prop := a ∈ g.rho ∨ a ∈ g.own ∨ a ∈ g.tmp

mutual
inductive RD (K : PySem.W.Frag) (g : Gh) (H : Hp) : D → V → Prop
  | non : RD K g H .non .non
  | bl (b : Bool) : RD K g H (.bl b) (.bl b)
  | int (i : Int) : RD K g H (.int i) (.int i)
  | str (x : Str) : RD K g H (.str x) (.str x)
  | lst {a : Addr} {xs : List D} {vs : List V} : H a = some (.lst vs) → ¬ g.av a → RDs K g H xs vs → RD K g H (.lst xs) (.ref a)
  | tup {a : Addr} {xs : List D} {vs : List V} : H a = some (.tup vs) → RDs K g H xs vs → RD K g H (.tup xs) (.ref a)
  | dic {a : Addr} {ks : List Key} {xs : List D} {vs : List V} : H a = some (.dK (ks.zip vs)) → ks.length = vs.length → ¬ g.av a → RDs K g H xs vs → RD K g H (.dic ks xs) (.ref a)
  | dit {a : Addr} {ks : List (List Key)} {xs : List D} {vs : List V} : H a = some (.dT (ks.zip vs)) → ks.length = vs.length → ¬ g.av a → RDs K g H xs vs → RD K g H (.dit ks xs) (.ref a)
  | ref {n : Nat} {a : Addr} : g.rho[n]? = some a → RD K g H (.ref n) (.ref a)
  | scr {a : Addr} {xs : List D} {vs : List V} : (Rd H a (.lst vs) ∧ ¬ g.av a) ∨ (∀ H' : Hp, SqL K H' a vs) → RDs K g H xs vs → RD K g H (.scr xs) (.ref a)
inductive RDs (K : PySem.W.Frag) (g : Gh) (H : Hp) : List D → List V → Prop
  | nil : RDs K g H [] []
  | cons {d : D} {ds : List D} {v : V} {vs : List V} : RD K g H d v → RDs K g H ds vs → RDs K g H (d :: ds) (v :: vs)
end

structure Mono (K : PySem.W.Frag) (g : Gh) (H : Hp) (g' : Gh) (H' : Hp) : Prop where
  keep : ∀ a o, H a = some o → ¬ g.av a → H' a = some o ∧ ¬ g'.av a
  tups : ∀ a xs, H a = some (.tup xs) → H' a = some (.tup xs)
  pre : ∀ (n : Nat) a, g.rho[n]? = some a → g'.rho[n]? = some a

section
variable {K : PySem.W.Frag} {g g' g2 : Gh} {H H' H2 : Hp}
theorem Mono.rd (m : Mono K g H g' H') {a : Addr} {u : HO} (h : Rd H a u) (n : ¬ g.av a) : Rd H' a u ∧ ¬ g'.av a := by
  rcases h with h | ⟨o, h⟩
  · exact ⟨.inl (m.keep a _ h n).1, (m.keep a _ h n).2⟩
  · exact ⟨.inr ⟨o, (m.keep a _ h n).1⟩, (m.keep a _ h n).2⟩
theorem RD.mono (m : Mono K g H g' H') {d : D} {v : V} (h : RD K g H d v) : RD K g' H' d v := by
  refine RD.rec (motive_1 := fun d v _ => RD K g' H' d v) (motive_2 := fun ds vs _ => RDs K g' H' ds vs) .non .bl .int .str ?_ ?_ ?_ ?_ ?_ ?_ .nil ?_ h
  · intro a xs vs h n _ ih
    exact .lst (m.keep _ _ h n).1 (m.keep _ _ h n).2 ih
  · intro a xs vs h _ ih
    exact .tup (m.tups _ _ h) ih
  · intro a ks xs vs h hl n _ ih
    exact .dic (m.keep _ _ h n).1 hl (m.keep _ _ h n).2 ih
  · intro a ks xs vs h hl n _ ih
    exact .dit (m.keep _ _ h n).1 hl (m.keep _ _ h n).2 ih
  · intro n a h
    exact .ref (m.pre _ _ h)
  · intro a xs vs h _ ih
    rcases h with ⟨h, n⟩ | h
    · exact .scr (.inl (m.rd h n)) ih
    · exact .scr (.inr h) ih
  · intro d ds v vs _ _ ih1 ih2
    exact .cons ih1 ih2
theorem RDs.mono (m : Mono K g H g' H') : ∀ {ds : List D} {vs : List V}, RDs K g H ds vs → RDs K g' H' ds vs
  | _, _, .nil => .nil
  | _, _, .cons h t => .cons (h.mono m) (RDs.mono m t)
theorem RDs.length : ∀ {ds : List D} {vs : List V}, RDs K g H ds vs → ds.length = vs.length
  | _, _, .nil => rfl
  | _, _, .cons _ t => by rw [List.length_cons, List.length_cons, RDs.length t]
theorem RDs.get : ∀ {ds : List D} {vs : List V} {i : Nat} {d : D}, RDs K g H ds vs → ds[i]? = some d → ∃ v, vs[i]? = some v ∧ RD K g H d v
  | _, _, _, _, .nil, e => by simp at e
  | _, _, 0, _, .cons h _, e => by simp at e; subst e; exact ⟨_, rfl, h⟩
  | _, _, i + 1, d, .cons _ t, e => by
    obtain ⟨v, h1, h2⟩ := RDs.get (i := i) (d := d) t (by simpa using e)
    exact ⟨v, by simpa using h1, h2⟩
theorem RDs.getV : ∀ {ds : List D} {vs : List V} {i : Nat} {v : V}, RDs K g H ds vs → vs[i]? = some v → ∃ d, ds[i]? = some d ∧ RD K g H d v
  | _, _, _, _, .nil, e => by simp at e
  | _, _, 0, _, .cons h _, e => by simp at e; subst e; exact ⟨_, rfl, h⟩
  | _, _, i + 1, v, .cons _ t, e => by
    obtain ⟨d, h1, h2⟩ := RDs.getV (i := i) (v := v) t (by simpa using e)
    exact ⟨d, by simpa using h1, h2⟩
theorem RDs.append : ∀ {ds es : List D} {vs us : List V}, RDs K g H ds vs → RDs K g H es us → RDs K g H (ds ++ es) (vs ++ us)
  | _, _, _, _, .nil, s => s
  | _, _, _, _, .cons h t, s => .cons h (RDs.append t s)
theorem RDs.take : ∀ {ds : List D} {vs : List V} (n : Nat), RDs K g H ds vs → RDs K g H (ds.take n) (vs.take n)
  | _, _, 0, _ => .nil
  | _, _, _ + 1, .nil => .nil
  | _, _, n + 1, .cons h t => .cons h (RDs.take n t)
theorem RDs.drop : ∀ {ds : List D} {vs : List V} (n : Nat), RDs K g H ds vs → RDs K g H (ds.drop n) (vs.drop n)
  | _, _, 0, h => h
  | _, _, _ + 1, .nil => .nil
  | _, _, n + 1, .cons _ t => RDs.drop n t
theorem RDs.set {d : D} {v : V} (r : RD K g H d v) : ∀ {ds : List D} {vs : List V} (i : Nat), RDs K g H ds vs → RDs K g H (ds.set i d) (vs.set i v)
  | _, _, _, .nil => .nil
  | _, _, 0, .cons _ t => .cons r t
  | _, _, i + 1, .cons q t => .cons q (RDs.set r i t)
theorem RDs.one {d : D} {v : V} (h : RD K g H d v) : RDs K g H [d] [v] := .cons h .nil
end

def TabV (ok : Addr → Prop) (H : Hp) (P : Addr) (q : Str) : Prop := ∃ ps : Array Value, H P = some (.tbl ps) ∧ TriplesOk ps.toList ∧ ∀ (p : Pos) (u : Value), codeAmong p ps.toList = some u → ∃ c, u = .ref c ∧ ok c ∧ H c = some (LamX.CodeO c q)
def lamQ (f : Str) : Str := (envOfC f default 0 0 .none).qual ++ "<lambda>"
def ExF (cls : Value) (d : Option Addr) (a : Addr) : HO := .ext fun h => ∃ (oe : Obj) (vs : Array Value), h.get? a = some oe ∧ Zc cls d oe ∧ oe.data = .fields vs
theorem exF_tup {cls : Value} {d : Option Addr} {a : Addr} {xs : List V} : ExF cls d a ≠ .tup xs := fun z => by unfold ExF at z; cases z
def CellR (K : PySem.W.Frag) (mg : Str → Option Value) (g : Gh) (H : Hp) (a : Addr) : Cell → Prop
  | .lst xs => ∃ vs, H a = some (.lst vs) ∧ RDs K g H xs vs
  | .dK ks xs => ∃ vs, H a = some (.dK (ks.zip vs)) ∧ ks.length = vs.length ∧ RDs K g H xs vs
  | .dT ks xs => ∃ vs, H a = some (.dT (ks.zip vs)) ∧ ks.length = vs.length ∧ RDs K g H xs vs
  | .ins c ns xs => ∃ C dx vs, mg c = some (.ref C) ∧ H a = some (.ins C dx (ns.zip vs)) ∧ ns.length = vs.length ∧ RDs K g H xs vs
  | .tab f => a = (He.cT K (f, none)).2 ∧ TabV (fun c => ¬ g.av c) H a (lamQ f)
  | .exn c ns xs => ∃ (C : Addr) (d : Option Addr), mg c = some (.ref C) ∧ H a = some (ExF (.ref C) d a) ∧ ((ns = [] ∧ xs = [] ∧ d = none) ∨ ∃ (dx : Addr) (vs : List V), d = some dx ∧ H dx = some (.xd (ns.zip vs)) ∧ ¬ g.av dx ∧ ns.length = vs.length ∧ RDs K g H xs vs)

structure Keep (g : Gh) (H : Hp) (g' : Gh) (H' : Hp) : Prop where
  keep : ∀ a o, H a = some o → a ∉ g.rho → a ∉ g.own → H' a = some o ∧ a ∉ g'.rho ∧ a ∉ g'.own
  tmp : ∀ a o, H a = some o → a ∉ g.rho → a ∉ g.own → a ∈ g'.tmp → a ∈ g.tmp
  tups : ∀ a xs, H a = some (.tup xs) → H' a = some (.tup xs)
  pre : ∀ (n : Nat) a, g.rho[n]? = some a → g'.rho[n]? = some a

structure StR (K : PySem.W.Frag) (mg : Str → Option Value) (g : Gh) (S : Store) (H : Hp) : Prop where
  len : g.rho.length = S.length
  nd : g.rho.Nodup
  cell : ∀ (n : Nat) c a, S[n]? = some c → g.rho[n]? = some a → CellR K mg g H a c
  rt : ∀ a, a ∈ g.rho → a ∉ g.own ∧ a ∉ g.tmp
  ot : ∀ a, a ∈ g.own → a ∉ g.tmp
  tr : ∀ a, g.av a → ∃ o, H a = some o

def SlotR (K : PySem.W.Frag) (mg : Str → Option Value) (g : Gh) (H : Hp) (x : V) : Val → Prop
  | .fz d => RD K g H d x
  | .own c => ∃ a, x = .ref a ∧ a ∈ g.own ∧ CellR K mg g H a c

structure Rel (K : PySem.W.Frag) (mg : Str → Option Value) (g : Gh) (fr : Frame) (S : Store) (σ : L2.St) (H : Hp) : Prop where
  len : fr.length = σ.length
  slot : ∀ (i : Nat) v, fr[i]? = some (some v) → ∃ x, σ[i]? = some (some x) ∧ SlotR K mg g H x v
  apart : ∀ (i j : Nat) c c' a, i ≠ j → fr[i]? = some (some (.own c)) → fr[j]? = some (some (.own c')) → σ[i]? = some (some (.ref a)) → σ[j]? ≠ some (some (.ref a))
  st : StR K mg g S H

section
variable {K : PySem.W.Frag} {mg : Str → Option Value} {g g' g2 : Gh} {H H' H2 : Hp} {fr fr' : Frame} {S S' : Store} {σ σ' : L2.St}
theorem Keep.refl : Keep g H g H := ⟨fun a o h n m => ⟨h, n, m⟩, fun _ _ _ _ _ h => h, fun _ _ h => h, fun _ _ h => h⟩
theorem Keep.trans (a : Keep g H g' H') (b : Keep g' H' g2 H2) : Keep g H g2 H2 where
  keep := fun c o h n m => let ⟨h1, n1, m1⟩ := a.keep c o h n m; b.keep c o h1 n1 m1
  tmp := fun c o h n m t => let ⟨h1, n1, m1⟩ := a.keep c o h n m; a.tmp c o h n m (b.tmp c o h1 n1 m1 t)
  tups := fun c xs h => b.tups c xs (a.tups c xs h)
  pre := fun n c h => b.pre n c (a.pre n c h)
theorem Keep.mono (k : Keep g H g' H') : Mono K g H g' H' where
  keep := fun a o h n => by
    have n1 : a ∉ g.rho := fun z => n (.inl z)
    have n2 : a ∉ g.own := fun z => n (.inr (.inl z))
    obtain ⟨h1, h2, h3⟩ := k.keep a o h n1 n2
    refine ⟨h1, fun z => ?_⟩
    rcases z with z | z | z
    · exact h2 z
    · exact h3 z
    · exact n (.inr (.inr (k.tmp a o h n1 n2 z)))
  tups := k.tups
  pre := k.pre
theorem Mono.less (h : ∀ a, g'.av a → g.av a) (hp : ∀ (n : Nat) a, g.rho[n]? = some a → g'.rho[n]? = some a) : Mono K g H g' H :=
  ⟨fun a o e n => ⟨e, fun z => n (h a z)⟩, fun _ _ e => e, hp⟩
theorem Mono.refl : Mono K g H g H := Mono.less (fun _ z => z) fun _ _ z => z
def Grows (H H' : Hp) : Prop := ∀ a o, H a = some o → H' a = some o
theorem Grows.fresh {p : Addr} {o : HO} (hp : H p = none) : Grows H (upd H p o) := fun a u e => by rw [upd_ne (ne_of_none e hp)]; exact e
theorem Grows.refl : Grows H H := fun _ _ e => e
theorem Grows.mono (k : Grows H H') : Mono K g H g H' := ⟨fun a o e n => ⟨k a o e, n⟩, fun a xs e => k _ _ e, fun _ _ z => z⟩
theorem Grows.keep (k : Grows H H') : Keep g H g H' := ⟨fun a o e n m => ⟨k a o e, n, m⟩, fun _ _ _ _ _ z => z, fun a xs e => k _ _ e, fun _ _ z => z⟩
theorem CellR.mono (m : Mono K g H g' H') {a : Addr} (ha : H' a = H a) {c : Cell} (h : CellR K mg g H a c) : CellR K mg g' H' a c := by
  cases c with
  | lst xs => obtain ⟨vs, e, r⟩ := h; exact ⟨vs, ha.trans e, r.mono m⟩
  | dK ks xs => obtain ⟨vs, e, l, r⟩ := h; exact ⟨vs, ha.trans e, l, r.mono m⟩
  | dT ks xs => obtain ⟨vs, e, l, r⟩ := h; exact ⟨vs, ha.trans e, l, r.mono m⟩
  | ins c ns xs => obtain ⟨C, dx, vs, q, e, l, r⟩ := h; exact ⟨C, dx, vs, q, ha.trans e, l, r.mono m⟩
  | tab f =>
    obtain ⟨e0, ps, e, t, r⟩ := h
    refine ⟨e0, ps, ha.trans e, t, fun p u hu => ?_⟩
    obtain ⟨c, e1, n, e2⟩ := r p u hu
    exact ⟨c, e1, (m.keep c _ e2 n).2, (m.keep c _ e2 n).1⟩
  | exn c ns xs =>
    obtain ⟨C, d, q, e, h⟩ := h
    refine ⟨C, d, q, ha.trans e, ?_⟩
    rcases h with h | ⟨dx, vs, e1, ed, n, l, r⟩
    · exact .inl h
    · exact .inr ⟨dx, vs, e1, (m.keep dx _ ed n).1, (m.keep dx _ ed n).2, l, r.mono m⟩
theorem CellR.some_of {a : Addr} {c : Cell} (h : CellR K mg g H a c) : ∃ o, H a = some o ∧ ∀ xs, o ≠ .tup xs := by
  cases c with
  | lst xs => obtain ⟨vs, e, r⟩ := h; exact ⟨_, e, fun _ z => by cases z⟩
  | dK ks xs => obtain ⟨vs, e, l, r⟩ := h; exact ⟨_, e, fun _ z => by cases z⟩
  | dT ks xs => obtain ⟨vs, e, l, r⟩ := h; exact ⟨_, e, fun _ z => by cases z⟩
  | ins c ns xs => obtain ⟨C, dx, vs, q, e, l, r⟩ := h; exact ⟨_, e, fun _ z => by cases z⟩
  | tab f => obtain ⟨_, ps, e, _⟩ := h; exact ⟨_, e, fun _ z => by cases z⟩
  | exn c ns xs => obtain ⟨C, d, _, e, _⟩ := h; exact ⟨_, e, fun _ => exF_tup⟩
theorem CellR.grows (k : Grows H H') {a : Addr} {c : Cell} (h : CellR K mg g H a c) : CellR K mg g H' a c := by
  obtain ⟨o, e, _⟩ := h.some_of
  exact h.mono k.mono (by rw [k a o e, e])
theorem SlotR.grows (k : Grows H H') {x : V} {v : Val} (h : SlotR K mg g H x v) : SlotR K mg g H' x v := by
  cases v with
  | fz d => exact RD.mono k.mono h
  | own c => obtain ⟨a, e, m, r⟩ := h; exact ⟨a, e, m, r.grows k⟩
theorem StR.grows (k : Grows H H') (h : StR K mg g S H) : StR K mg g S H' :=
  ⟨h.len, h.nd, fun n c a e q => (h.cell n c a e q).grows k, h.rt, h.ot, fun a z => let ⟨o, e⟩ := h.tr a z; ⟨o, k a o e⟩⟩
theorem Rel.grows (k : Grows H H') (h : Rel K mg g fr S σ H) : Rel K mg g fr S σ H' :=
  ⟨h.len, fun i v e => let ⟨x, e1, r⟩ := h.slot i v e; ⟨x, e1, r.grows k⟩, h.apart, h.st.grows k⟩
end
end Eng
end

section
namespace Eng
open PySem PySem.Spec PyProof.Rows L2

mutual
def D.pl : D → Bool
  | .non | .bl _ | .int _ | .str _ => true
  | .lst xs | .tup xs => D.pls xs
  | .dic _ _ | .dit _ _ | .ref _ | .scr _ => false
def D.pls : List D → Bool
  | [] => true
  | x :: xs => D.pl x && D.pls xs
end
mutual
def D.dep : D → Nat
  | .lst xs | .tup xs => D.deps xs + 1
  | _ => 0
def D.deps : List D → Nat
  | [] => 0
  | x :: xs => max (D.dep x) (D.deps xs)
end
mutual
def D.eqv : D → D → Bool
  | .non, .non => true
  | .bl a, .bl b => a == b
  | .bl a, .int j => (if a then 1 else 0) == j
  | .int i, .bl b => i == (if b then 1 else 0)
  | .int i, .int j => i == j
  | .str x, .str y => x == y
  | .lst xs, .lst ys => D.eqvs xs ys
  | .tup xs, .tup ys => D.eqvs xs ys
  | _, _ => false
def D.eqvs : List D → List D → Bool
  | [], [] => true
  | x :: xs, y :: ys => D.eqv x y && D.eqvs xs ys
  | _, _ => false
end
mutual
def D.toP : D → PyData
  | .non => .none | .bl b => .bool b | .int i => .int i | .str x => .str x
  | .lst xs => .list (D.toPs xs) | .tup xs => .tuple (D.toPs xs)
  | .dic _ _ | .dit _ _ | .ref _ | .scr _ => .none
def D.toPs : List D → List PyData
  | [] => []
  | x :: xs => D.toP x :: D.toPs xs
end

mutual
def D.plq : D → Bool
  | .non | .bl _ | .int _ | .str _ => true
  | .lst xs | .tup xs => D.plqs xs
  | .dic [.inr _] [x] => D.plq x
  | .dic _ _ | .dit _ _ | .ref _ | .scr _ => false
def D.plqs : List D → Bool
  | [] => true
  | x :: xs => D.plq x && D.plqs xs
end
mutual
def D.toQ : D → PyData
  | .non => .none | .bl b => .bool b | .int i => .int i | .str x => .str x
  | .lst xs => .list (D.toQs xs) | .tup xs => .tuple (D.toQs xs)
  | .dic [.inr k] [x] => .dict [(.str k, D.toQ x)]
  | .dic _ _ | .dit _ _ | .ref _ | .scr _ => .none
def D.toQs : List D → List PyData
  | [] => []
  | x :: xs => D.toQ x :: D.toQs xs
end

mutual
def D.nt : D → Bool
  | .int _ => true
  | .tup xs => D.nts xs
  | _ => false
def D.nts : List D → Bool
  | [] => true
  | x :: xs => D.nt x && D.nts xs
end
def lookC (n : Nat) : Option Cell → D
  | some (.lst xs) => .lst xs
  | some (.dK ks vs) => .dic ks vs
  | some (.dT ks vs) => .dit ks vs
  | some (.ins _ _ _) => .ref n
  | some (.tab _) => .ref n
  | some (.exn _ _ _) => .ref n
  | none => .ref n
def look (S : Store) : D → D
  | .ref n => lookC n S[n]?
  | d => d
def Cell.frz : Cell → Option D
  | .lst xs => some (.lst xs)
  | .dK ks vs => some (.dic ks vs)
  | .dT ks vs => some (.dit ks vs)
  | _ => none
def Val.frz : Val → Option D
  | .fz d => some d
  | .own c => c.frz

inductive BK where | add | sub | mul | fdiv | mod | pow
  deriving DecidableEq
inductive CK where | eq | ne | lt | le | gt | ge | inn | nin | isN | isnN
  deriving DecidableEq
inductive FK where | len | all | any | sum | tuple | list | int | max2 | min2 | repr | sorted | str
  deriving DecidableEq
inductive MK where | upper | get1 | get2 | join | split | isdigit
  deriving DecidableEq
inductive TK where | int | bool | tuple | str | list | dict
  deriving DecidableEq

def binD : BK → D → D → Option Val
  | .add, .int i, .int j => some (.fz (.int (i + j)))
  | .add, .str x, .str y => if x.length + y.length ≤ sizeLine then some (.fz (.str (x ++ y))) else none
  | .add, .tup xs, .tup ys => if xs.length + ys.length ≤ sizeLine then some (.fz (.tup (xs ++ ys))) else none
  | .add, .lst xs, .lst ys => if xs.length + ys.length ≤ sizeLine then some (.own (.lst (xs ++ ys))) else none
  | .sub, .int i, .int j => some (.fz (.int (i - j)))
  | .mul, .int i, .int j => if (-(2 ^ 64) < i ∧ i < 2 ^ 64) ∨ (-(2 ^ 64) < j ∧ j < 2 ^ 64) then some (.fz (.int (i * j))) else none
  | .mul, .lst xs, .int k => if -(2 ^ 63) ≤ k ∧ k < 2 ^ 63 ∧ xs.length * k.toNat ≤ sizeLine then some (.own (.lst (List.replicate k.toNat xs).flatten)) else none
  | .mul, .tup xs, .int k => if xs.isEmpty = false ∧ 2 ≤ k ∧ k ≤ 1000 ∧ xs.length ≤ 1000 then some (.fz (.tup (List.replicate k.toNat xs).flatten)) else none
  | .fdiv, .int i, .int j => if 0 < j ∧ j < 1073741824 then some (.fz (.int (i / j))) else none
  | .mod, .int i, .int j => if 0 < j then some (.fz (.int (i % j))) else none
  | .pow, .int i, .int j => if 0 ≤ j ∧ j ≤ 1000000 ∧ i.natAbs < 2 ^ 64 then some (.fz (.int (i ^ j.toNat))) else none
  | _, _, _ => none

def D.ordOk (a b : D) : Bool := a.pl && b.pl && PySem.W.alike a.toP b.toP && (match a with | .non => false | _ => true) && decide (min a.dep b.dep ≤ 64)
def D.ltb (a b : D) : Bool := PySem.W.dataLt a.toP b.toP
def ordD (p : Int → Int → Bool) (q : D → D → Bool) : D → D → Option Bool
  | .int i, .int j => some (p i j)
  | a, b => if D.ordOk a b then some (q a b) else none
def toKey : D → Option Key
  | .int i => some (.inl i)
  | .str x => some (.inr x)
  | _ => none
def toKeys : List D → Option (List Key)
  | [] => some []
  | d :: ds => (toKey d).bind fun k => (toKeys ds).map (k :: ·)
def keyT : D → Option (List Key)
  | .tup ds => toKeys ds
  | _ => none
def keyD : Key → D
  | .inl i => .int i
  | .inr x => .str x
section
variable {κ : Type} [DecidableEq κ]
def findK : List κ → List D → κ → Option D
  | k :: ks, v :: vs, j => if k = j then some v else findK ks vs j
  | _, _, _ => none
def putKs (ks : List κ) (k : κ) : List κ := if k ∈ ks then ks else ks ++ [k]
def putVs (ks : List κ) (vs : List D) (k : κ) (d : D) : List D := if k ∈ ks then List.zipWith (fun j v => if j = k then d else v) ks vs else vs ++ [d]
end
def dgetD : D → D → Option (Option D)
  | .dic ks vs, d => (toKey d).map fun k => findK ks vs k
  | .dit ks vs, d => (keyT d).map fun k => findK ks vs k
  | _, _ => none
def D.fit (a b : D) : Bool := a.pl && b.pl && decide (min a.dep b.dep ≤ 64)
def D.ntn (d : D) : Bool := d.nt || match d with | .non => true | _ => false
def inQ (a : D) (xs : List D) : Option Bool := if a.nt && D.plqs xs && decide (a.dep ≤ 64) then some (xs.any fun y => D.eqv y a) else if a.plq && xs.all D.ntn && decide (D.deps xs ≤ 60) then some (xs.any fun y => D.eqv y a) else none
def inD (a : D) : D → Option Bool
  | .lst xs => if a.pl && D.pls xs && decide (min (D.deps xs) a.dep ≤ 64) then some (xs.any fun y => D.eqv y a) else inQ a xs
  | .tup xs => if a.pl && D.pls xs && decide (min (D.deps xs) a.dep ≤ 64) then some (xs.any fun y => D.eqv y a) else inQ a xs
  | .dic ks vs => (toKey a).map fun k => (findK ks vs k).isSome
  | .dit ks vs => (keyT a).map fun k => (findK ks vs k).isSome
  | .str z => match a with
    | .str x => match x.cps.toList with
      | [c] => some (decide (c ∈ z.cps.toList))
      | _ => none
    | _ => none
  | _ => none
def D.isNon : D → Bool
  | .non => true
  | _ => false
def nilD : D → D → Option Bool
  | .lst (_ :: _), .lst [] => some false
  | .tup (_ :: _), .tup [] => some false
  | _, _ => none
def eqQ (a : D) : D → Option Bool
  | .tup ys => if a.plq && D.nts ys && decide (D.deps ys ≤ 60) then some (D.eqv a (.tup ys)) else none
  | _ => none
def eqN (a b : D) : Option Bool := match nilD a b with
  | some r => some r
  | none => eqQ a b
def cmpD : CK → D → D → Option Bool
  | .eq, a, b => if D.fit a b then some (D.eqv a b) else eqN a b
  | .ne, a, b => if D.fit a b then some (!D.eqv a b) else (nilD a b).map (!·)
  | .lt, a, b => ordD (fun i j => decide (i < j)) (fun x y => D.ltb x y) a b
  | .le, a, b => ordD (fun i j => decide (i ≤ j)) (fun x y => !D.ltb y x) a b
  | .gt, a, b => ordD (fun i j => decide (j < i)) (fun x y => D.ltb y x) a b
  | .ge, a, b => ordD (fun i j => decide (j ≤ i)) (fun x y => !D.ltb x y) a b
  | .inn, a, b => inD a b
  | .nin, a, b => (inD a b).map (!·)
  | .isN, a, .non => some a.isNon
  | .isN, .bl a, .bl b => some (a == b)
  | .isnN, a, .non => some (!a.isNon)
  | _, _, _ => none

def atD (xs : List D) (i : Int) : Option D := atI xs i
def subD : D → D → Option D
  | .lst xs, .int i => atD xs i
  | .tup xs, .int i => atD xs i
  | .scr xs, .int i => atD xs i
  | .str x, .int i => if x.length ≤ sizeLine then (atI x.cps.toList i).map fun c => .str ⟨#[c]⟩ else none
  | .dic ks vs, k => (toKey k).bind fun k => findK ks vs k
  | .dit ks vs, k => (keyT k).bind fun k => findK ks vs k
  | _, _ => none
def cutD (xs : List D) (lo hi : Option Int) : List D := (xs.drop (HT.sIx xs.length 0 lo)).take (HT.sIx xs.length xs.length hi - HT.sIx xs.length 0 lo)
def sliceD (lo hi : Option Int) : D → Option Val
  | .lst xs => some (.own (.lst (cutD xs lo hi)))
  | .tup xs => some (.fz (.tup (cutD xs lo hi)))
  | .str x => if x.length ≤ sizeLine then some (.fz (.str (Txt.slice x lo hi))) else none
  | _ => none

def truD : D → Option Bool
  | .non => some false
  | .bl b => some b
  | .int i => some (i != 0)
  | .lst xs => some (!xs.isEmpty)
  | .tup xs => some (!xs.isEmpty)
  | _ => none

def strL : List D → Option (List Str)
  | [] => some []
  | .str b :: r => (strL r).map (b :: ·)
  | _ :: _ => none
def boolL : List D → Option (List Bool)
  | [] => some []
  | .bl b :: r => (boolL r).map (b :: ·)
  | _ :: _ => none
def intL : List D → Option (List Int)
  | [] => some []
  | .int b :: r => (intL r).map (b :: ·)
  | _ :: _ => none

def insI (k : Int) : List Int → List Int
  | [] => [k]
  | x :: xs => if k ≤ x then k :: x :: xs else x :: insI k xs
def srtI : List Int → List Int
  | [] => []
  | x :: xs => insI x (srtI xs)
def insU (k : Int) : List Int → List Int
  | [] => [k]
  | x :: xs => if k < x then k :: x :: xs else if k = x then x :: xs else x :: insU k xs
def setI : List Int → List Int
  | [] => []
  | x :: xs => insU x (setI xs)
def minL (y : D) (ys : List D) : D := ys.foldl (fun a z => if D.ltb z a then z else a) y
def maxL (y : D) (ys : List D) : D := ys.foldl (fun a z => if D.ltb a z then z else a) y
def alkD (xs : List D) : Bool := D.pls xs && decide (D.deps xs ≤ 60) && xs.all fun x => (!D.isNon x) && xs.all fun y => PySem.W.alike x.toP y.toP
def tupNe : D → Bool
  | .tup (_ :: _) => true
  | _ => false
def notTup : D → Bool
  | .tup _ => false
  | _ => true
def srtOk (xs : List D) : Bool := alkD xs && (xs.all tupNe || xs.all notTup) && decide (xs.length ≤ sizeLine)
def leD (a b : D) : Bool := !D.ltb b a
def srtD (xs : List D) : List D := xs.mergeSort leD
def mindD : D → D → Option D
  | .lst [], d => some d
  | .lst (y :: ys), _ => if alkD (y :: ys) then some (minL y ys) else none
  | _, _ => none
def mmlD (mx : Bool) : D → Option D
  | .lst (y :: ys) => if alkD (y :: ys) then some (match mx with | true => maxL y ys | false => minL y ys) else none
  | _ => none
def revD : D → Option Val
  | .lst xs => some (.own (.lst xs.reverse))
  | .tup xs => some (.fz (.tup xs.reverse))
  | _ => none
mutual
def D.nk : D → Bool
  | .int _ | .str _ => true
  | .tup xs => D.nks xs
  | _ => false
def D.nks : List D → Bool
  | [] => true
  | x :: xs => D.nk x && D.nks xs
end
def uniqE : List D → List D
  | [] => []
  | x :: xs => if xs.any (fun y => D.eqv y x) then uniqE xs else x :: uniqE xs
def strD : List D → Bool
  | [] => true
  | x :: xs => xs.all (fun y => D.ltb x y || D.ltb y x) && strD xs
def tupB : D → Bool
  | .tup _ => true
  | _ => false
def sortsetL (xs : List D) : Option Val := match intL xs with
  | some ns => if ns.length ≤ 60 then some (.own (.lst ((setI ns).map .int))) else none
  | none => if xs.all (fun x => D.nk x && tupB x) && decide (D.deps xs ≤ 6) && srtOk (uniqE xs) && strD (uniqE xs) && decide (xs.length ≤ 62) then some (.own (.lst (srtD (uniqE xs)))) else none
def sortsetD : D → Option Val
  | .lst xs => sortsetL xs
  | .tup xs => sortsetL xs
  | _ => none
def reprD (d : D) : Option Val := if d.pl = true ∧ d.toP.showable = true ∧ d.toP.shown.length ≤ sizeLine ∧ d.dep ≤ 64 then some (.fz (.str d.toP.shown)) else if d.plq = true ∧ d.toQ.showable = true ∧ d.toQ.shown.length ≤ sizeLine ∧ d.toQ.depth ≤ 64 then some (.fz (.str d.toQ.shown)) else none
def bltD : FK → List D → Option Val
  | .len, [.lst xs] => some (.fz (.int xs.length))
  | .len, [.tup xs] => some (.fz (.int xs.length))
  | .len, [.scr xs] => some (.fz (.int xs.length))
  | .len, [.dit ks _] => some (.fz (.int ks.length))
  | .len, [.dic ks _] => some (.fz (.int ks.length))
  | .len, [.str x] => if x.length ≤ sizeLine then some (.fz (.int x.length)) else none
  | .all, [.lst xs] => (boolL xs).map fun bs => .fz (.bl (bs.all id))
  | .any, [.lst xs] => (boolL xs).map fun bs => .fz (.bl (bs.any id))
  | .sum, [.lst xs] => (intL xs).map fun ns => .fz (.int ns.sum)
  | .tuple, [.lst xs] => some (.fz (.tup xs))
  | .tuple, [.tup xs] => some (.fz (.tup xs))
  | .list, [.lst xs] => some (.own (.lst xs))
  | .list, [.tup xs] => some (.own (.lst xs))
  | .list, [.dit ks _] => some (.own (.lst (ks.map fun k => D.tup (k.map keyD))))
  | .int, [.int i] => some (.fz (.int i))
  | .int, [.bl b] => some (.fz (.int (if b then 1 else 0)))
  | .max2, [.int i, .int j] => some (.fz (.int (if j > i then j else i)))
  | .min2, [.int i, .int j] => some (.fz (.int (if j < i then j else i)))
  | .sorted, [.lst xs] => match intL xs with
    | some ns => some (.own (.lst ((srtI ns).map .int)))
    | none => if srtOk xs then some (.own (.lst (srtD xs))) else none
  | .sorted, [.tup xs] => if srtOk xs then some (.own (.lst (srtD xs))) else none
  | .sorted, [.dit ks _] => if srtOk (ks.map fun k => D.tup (k.map keyD)) then some (.own (.lst (srtD (ks.map fun k => D.tup (k.map keyD))))) else none
  | .str, [.int i] => if i.natAbs.log2 < 1920 then some (.fz (.str (toString i))) else none
  | .str, [.str x] => some (.fz (.str x))
  | .repr, [.tup xs] => reprD (.tup xs)
  | .repr, [.lst xs] => reprD (.lst xs)
  | .repr, [.dic ks vs] => reprD (.dic ks vs)
  | .repr, [.non] => reprD .non
  | .repr, [.int i] => reprD (.int i)
  | .repr, [.str x] => if (PySem.reprText x).length ≤ sizeLine then some (.fz (.str (PySem.reprText x))) else none
  | .repr, [.bl b] => some (.fz (.str (if b then ("True" : Str) else ("False" : Str))))
  | _, _ => none
def mkOk : MK → D → Bool
  | .upper, .str _ => true
  | .join, .str _ => true
  | .split, .str _ => true
  | .isdigit, .str _ => true
  | .get1, .dic _ _ => true
  | .get1, .dit _ _ => true
  | .get2, .dic _ _ => true
  | .get2, .dit _ _ => true
  | _, _ => false
def mthD (S : Store) : MK → D → List D → Option Val
  | .upper, .str x, [] => if x.length ≤ 5592405 then some (.fz (.str (Txt.upper x))) else none
  | .isdigit, .str x, [] => some (.fz (.bl (Txt.isdigit x)))
  | .join, .str a, [x] => (match look S x with | .lst xs => strL xs | _ => none : Option (List Str)).bind fun ys => if (ys.map (·.length)).sum + ys.length * a.length ≤ 16777216 then some (.fz (.str (Txt.join a ys))) else none
  | .split, .str a, [.str b] => if (b.length == 0) = false ∧ a.length + 2 ≤ sizeLine then some (.own (.lst ((Txt.split a b).map .str))) else none
  | .get1, d, [k] => (dgetD d k).map fun o => .fz (o.getD .non)
  | .get2, d, [k, e] => (dgetD d k).map fun o => .fz (o.getD e)
  | _, _, _ => none
def fldGet : List Str → List D → Str → Option D
  | n :: ns, v :: vs, f => if n = f then some v else fldGet ns vs f
  | _, _, _ => none
def fldPutN (ns : List Str) (f : Str) : List Str := if ns.contains f then ns else ns ++ [f]
def fldPutV : List Str → List D → Str → D → List D
  | n :: ns, v :: vs, f, d => if n = f then d :: vs else v :: fldPutV ns vs f d
  | _, vs, _, d => vs ++ [d]
def fldD (S : Store) (c f : Str) : D → Option D
  | .ref n => match S[n]? with
    | some (.ins c' ns vs) => if c' = c then fldGet ns vs f else none
    | _ => none
  | _ => none
def insOk (S : Store) (c m : Str) : D → Bool
  | .ref n => match S[n]? with
    | some (.ins c' ns _) => decide (c' = c) && !ns.contains m
    | _ => false
  | _ => false
def isC (S : Store) (c : Str) : D → Option Bool
  | .ref n => match S[n]? with
    | some (.ins c' _ _) => if c' = c then some true else none
    | _ => none
  | .scr _ => none
  | _ => some false
def uniqI (ns : List Int) : List Int := ns.foldl (fun σ k => if σ.any (· == k) then σ else σ ++ [k]) []
def tupL : List D → Option (List (List Int))
  | [] => some []
  | .tup ds :: r => (intL ds).bind fun k => (tupL r).map (k :: ·)
  | _ :: _ => none
def uniqT : List (List Int) → List (List Int)
  | [] => []
  | x :: xs => if x ∈ xs then uniqT xs else x :: uniqT xs
def lensetD : D → Option Val
  | .lst xs => match intL xs with
    | some ns => if ns.length ≤ 4000 then some (.fz (.int (uniqI ns).length)) else none
    | none => (tupL xs).bind fun ks => if ks.length < 64 then some (.fz (.int (uniqT ks).length)) else none
  | _ => none
def isD : TK → D → Option Bool
  | _, .ref _ => none
  | .int, .int _ => some true
  | .int, .bl _ => some true
  | .bool, .bl _ => some true
  | .tuple, .tup _ => some true
  | .str, .str _ => some true
  | .list, .lst _ => some true
  | .list, .scr _ => some true
  | .dict, .dic _ _ => some true
  | .dict, .dit _ _ => some true
  | _, _ => some false
def orI : Option Bool → Option Bool → Option Bool
  | some b, _ => some b
  | none, r => r
def isX (S : Store) (yes no : List Str) : D → Option Bool
  | .ref n => (match S[n]? with
    | some (.exn c _ _) => if yes.contains c then some true else if no.contains c then some false else none
    | _ => none)
  | _ => none
def xfldD (S : Store) (c f : Str) : D → Option D
  | .ref n => (match S[n]? with
    | some (.exn c' ns vs) => if c' = c then fldGet ns vs f else none
    | _ => none)
  | _ => none
def fmtD : D → Option Val
  | .int i => if i.natAbs.log2 < 1920 then some (.fz (.str (toString i))) else none
  | .str z => if z.length ≤ sizeLine then some (.fz (.str z)) else none
  | _ => none
def ntB : Option Bool → Option Bool
  | some true => some false
  | _ => none
def isR (S : Store) (c : Str) (t : TK) (d : D) : Option Bool := orI (isD t d) (ntB (isC S c d))


inductive RX (α : Type) where
  | ok (a : α) (fr : Frame) (S : Store) | ex (e : Ex) (fr : Frame) (S : Store) | no
inductive RC where
  | ok (v : Val) (S : Store) | ex (e : Ex) (S : Store) | no
def RX.bind {α β : Type} (r : RX α) (k : α → Frame → Store → RX β) : RX β := match r with
  | .ok a fr S => k a fr S
  | .ex e fr S => .ex e fr S
  | .no => .no
def RX.lift {α : Type} (o : Option α) (fr : Frame) (S : Store) : RX α := match o with
  | some a => .ok a fr S
  | none => .no
def frzX (r : RX Val) : RX D := r.bind fun v fr S => RX.lift v.frz fr S
def RC.back (fr : Frame) : RC → RX Val
  | .ok v S => .ok v fr S
  | .ex e S => .ex e fr S
  | .no => .no

def RC.made (n : Nat) (fr : Frame) : RC → RX Val
  | .ok (.fz .non) S => .ok (.fz (.ref n)) fr S
  | .ex e S => .ex e fr S
  | _ => .no

inductive SK where | len | repr | str | bool
  deriving DecidableEq
def RC.own (k : SK) (fr : Frame) : RC → RX Val
  | .ok (.fz (.int n)) S => (match k with
    | .len => if 0 ≤ n ∧ n < 2 ^ 62 then .ok (.fz (.int n)) fr S else .no
    | .bool => if 0 ≤ n ∧ n < 2 ^ 62 then .ok (.fz (.bl (n != 0))) fr S else .no
    | _ => .no)
  | .ok (.fz (.str z)) S => (match k with
    | .repr => .ok (.fz (.str z)) fr S
    | .str => .ok (.fz (.str z)) fr S
    | _ => .no)
  | .ex e S => .ex e fr S
  | _ => .no

abbrev CF := Str → List D → Store → RC

mutual
inductive Tg where
  | nm (i : Nat) | tp (ts : Tgs)
inductive Tgs where
  | nil | cons (t : Tg) (ts : Tgs)
end
inductive Hd where
  | txt (z : Str) | fld (z f : Str)
  deriving DecidableEq
inductive PP where
  | pos (i : Nat) | key (j : Nat) | dfl (i : Nat) (d : D)
structure KQ where
  n : Nat
  ks : List Str
  pm : List PP
def arrD (pm : List PP) (xs ys : List D) : List D := pm.map fun
  | .pos i => xs.getD i .non
  | .key j => ys.getD j .non
  | .dfl _ d => d
mutual
inductive Xp where
  | con (d : D) | var (i : Nat) | glo (x : Str)
  | bin (k : BK) (a b : Xp) | cmp (k : CK) (a b : Xp) | chain (k l : CK) (a b c : Xp)
  | not (a : Xp) | and (a b : Xp) | or (a b : Xp) | ife (c a b : Xp)
  | tup (es : Xs) | lst (es : Xs) | sub (a b : Xp) | slice (a lo hi : Xp) | omit
  | call (f : Str) (es : Xs) | blt (k : FK) (es : Xs) | isi (t : TK) (a : Xp)
  | bltv (k : FK) (i : Nat) | subv (i : Nat) (b : Xp) | cmpv (k : CK) (a : Xp) (i : Nat) | popv (i : Nat) (b : Xp)
  | comp (elt : Xp) (tg : Tg) (it : Wk) (cs : Xs) | share (a : Xp) | listrg (b : Xp) | lenset (a : Xp)
  | neg (a : Xp) | dic0 (t : Bool) | sortset (a : Xp) | mind (a b : Xp) | never | rev (a : Xp)
  | mth (k : MK) (a : Xp) (es : Xs) | mthv (k : MK) (i : Nat) (es : Xs) | fld (c f : Str) (a : Xp) | meth (c m f : Str) (a : Xp) (es : Xs) | make (c f : Str) (es : Xs) | orv (a b : Xp) | isc (c : Str) (a : Xp) | isr (c : Str) (t : TK) (a : Xp) | disp (k v : Xp)
  | cmpl (k : CK) (i : Nat) (b : Xp) | tuprg (b : Xp) | mml (mx : Bool) (a : Xp) | ask (k : Nat) (me f : Str) (hs : List (Str × Hd)) (df : Option Str) (a : Xp)
  | eqo (ne : Bool) (c f : Str) (a b : Xp) | cmpe (ne : Bool) (i : Nat) (b : Xp) | dcopy (a : Xp)
  | comps (elt : Xp) (tg : Tg) (it : Wk) (cs : Xs)
  | callk (f : Str) (q : KQ) (es ks : Xs) | methk (c m f : Str) (q : KQ) (a : Xp) (es ks : Xs) | makek (c f : Str) (q : KQ) (es ks : Xs) | tlen (c f : Str) (a : Xp) | neol (c f : Str) (a b : Xp)
  | compi (elt : Xp) (tg : Tg) (i : Nat) (cs : Xs) | sumv (i : Nat) | lcnt (i : Nat) (b : Xp) | dprs (a : Xp)
  | compw (elt : Xp) (tg : Tg) (en : Bool) (i : Nat) (cs : Xs) | mmlv (mx : Bool) (i : Nat) | suml (a b : Xp)
  | fmt (a : Xp) | fstr (es : Xs) | owc (k : SK) (c f : Str) (a : Xp) | isx (c : Str) (yes no : List Str) (a : Xp) | mkx (c : Str) (a : Xp) | mkxf (c f : Str) (a : Xp) | xfld (c f : Str) (a : Xp) | lidx (i : Nat) (b : Xp)
inductive Xs where
  | nil | cons (e : Xp) (es : Xs)
inductive Wk where
  | seq (e : Xp) | rng1 (e : Xp) | rng2 (a b : Xp) | enm (e : Xp) | zip (a b : Xp) | rng3 (a b c : Xp)
end

mutual
def Tg.slots : Tg → List Nat
  | .nm i => [i]
  | .tp ts => ts.slots
def Tgs.slots : Tgs → List Nat
  | .nil => []
  | .cons t ts => t.slots ++ ts.slots
end
mutual
def asg : Tg → D → Frame → Option Frame
  | .nm i => fun d fr => some (fr.set i (some (.fz d)))
  | .tp ts => fun d fr => match d with | .tup ds => asgs ts ds fr | .lst ds => asgs ts ds fr | _ => none
def asgs : Tgs → List D → Frame → Option Frame
  | .nil => fun ds fr => match ds with | [] => some fr | _ => none
  | .cons t ts => fun ds fr => match ds with | d :: ds => (asg t d fr).bind fun fr' => asgs ts ds fr' | [] => none
end

def signsD (z : Str) : List D := z.cps.toList.map fun c => D.str ⟨#[c]⟩
def rgD (a b : Int) : List D := (List.range (b - a).toNat).map fun i => D.int (a + (i : Nat))
def rgN (a b : Int) : List D := (List.range (a - b).toNat).map fun i => D.int (a - (i : Nat))
def rgOk (a b : Int) : Bool := decide (-(2 ^ 62) ≤ a ∧ a < 2 ^ 62 ∧ -(2 ^ 62) ≤ b ∧ b < 2 ^ 62)
def enumD (xs : List D) : List D := (List.range xs.length).map fun i => D.tup [.int (i : Nat), xs.getD i .non]
def zipD (xs ys : List D) : List D := List.zipWith (fun x y => D.tup [x, y]) xs ys

def wipeF (fr : Frame) : List Nat → Frame
  | [] => fr
  | v :: vs => (wipeF fr vs).set v none
def backF (old fr : Frame) : List Nat → Frame
  | [] => fr
  | v :: vs => (backF old fr vs).set v (old.getD v none)
def calmF (fr : Frame) (vs : List Nat) : Bool := vs.all fun v => match fr.getD v none with | some (.own _) => false | _ => true

def compGo (tg : Tg) (test : Frame → Store → RX Bool) (elt : Frame → Store → RX D) : List D → List D → Frame → Store → RX (List D)
  | [], acc, fr, S => .ok acc fr S
  | d :: ds, acc, fr, S => match asg tg d fr with
    | none => .no
    | some fr1 => match test fr1 S with
      | .ok true fr2 S2 => match elt fr2 S2 with
        | .ok y fr3 S3 => if acc.length < sizeLine then compGo tg test elt ds (acc ++ [y]) (wipeF fr3 tg.slots) S3 else .no
        | .ex e fr3 S3 => .ex e (wipeF fr3 tg.slots) S3
        | .no => .no
      | .ok false fr2 S2 => compGo tg test elt ds acc (wipeF fr2 tg.slots) S2
      | .ex e fr2 S2 => .ex e (wipeF fr2 tg.slots) S2
      | .no => .no

def optI : D → Option Int
  | .int i => some i
  | _ => none
def varX (i : Nat) (fr : Frame) (S : Store) : RX Val := match fr[i]? with
  | some (some (.fz d)) => .ok (.fz d) fr S
  | some (some (.own c)) => match c.frz with
    | some d => .ok (.fz d) (fr.set i (some (.fz d))) S
    | none => .no
  | _ => .no
def ownL (i : Nat) (fr : Frame) : Bool := match fr[i]? with
  | some (some (.own (.lst _))) => true
  | _ => false
def popX (i : Nat) (y : D) (fr : Frame) (S : Store) : RX Val := match fr[i]?, y with
  | some (some (.own (.lst xs))), .int k => match ixN xs.length k with
    | some j => match xs[j]? with
      | some d => if xs.length ≤ sizeLine then .ok (.fz d) (fr.set i (some (.own (.lst (xs.eraseIdx j))))) S else .no
      | none => .no
    | none => .no
  | _, _ => .no
def peek (i : Nat) (fr : Frame) (S : Store) : Option D := match fr[i]? with
  | some (some (.own c)) => c.frz
  | some (some (.fz d)) => some (look S d)
  | _ => none

def peekOk (k : MK) (i : Nat) (fr : Frame) (S : Store) : Bool := match peek i fr S with
  | some d => mkOk k d
  | none => false
def tru (f : Frame → Store → RX Val) : Frame → Store → RX Bool := fun fr S => (frzX (f fr S)).bind fun x fr S => RX.lift (truD (look S x)) fr S
structure EV where
  v : Frame → Store → RX Val
  t : Frame → Store → RX Bool
def EV.of (f : Frame → Store → RX Val) : EV := ⟨f, tru f⟩
def evO (m : Xp) (f : Frame → Store → RX Val) : Frame → Store → RX (Option Int) := match m with
  | .omit => fun fr S => .ok none fr S
  | _ => fun fr S => (frzX (f fr S)).bind fun x fr S => RX.lift ((optI x).map some) fr S
def isTab (S : Store) (k : Nat) (f : Str) : Bool := match S[k]? with
  | some (.tab g) => decide (g = f)
  | _ => false
def intK : Key → Option Int
  | .inl i => some i
  | .inr _ => none
def hashI (k : List Key) : Option Int := match k.mapM intK with
  | some is => some (reduceHash (Builtin.Tuple.tupleHashOf (is.map hashInt)))
  | none => none
def cntD : D → D → Option Val
  | .lst xs, a => if a.pl && D.pls xs && decide (min (D.deps xs) a.dep ≤ 64) then some (.fz (.int ((xs.countP fun y => D.eqv y a : Nat) : Int))) else none
  | _, _ => none
def prsD : List D → Option (List (List Key) × List D)
  | [] => some ([], [])
  | .tup [k, v] :: xs => (keyT k).bind fun q => (prsD xs).map fun r => (q :: r.1, v :: r.2)
  | _ => none
def dprsD : D → Option Val
  | .lst xs => (prsD xs).bind fun r => if decide r.1.Nodup then some (.own (.dT r.1 r.2)) else none
  | _ => none
def idxD : D → D → Option Val
  | .lst xs, .bl b => (boolL xs).bind fun bs => if bs.contains b = true ∧ bs.length ≤ sizeLine then some (.fz (.int ((bs.idxOf b : Nat) : Int))) else none
  | _, _ => none
def lstP : Option D → Bool
  | some (.lst _) => true
  | _ => false
def sumV : Option D → Option Val
  | some (.dit _ vs) => (intL vs).map fun ns => .fz (.int ns.sum)
  | _ => none
def ownI (i : Nat) (fr : Frame) : Option (List (List Key) × List D) := match fr[i]? with
  | some (some (.own (.dT ks vs))) => some (ks, vs)
  | _ => none
def itemsD (ks : List (List Key)) (vs : List D) : List D := (ks.zip vs).map fun p => .tup [.tup (p.1.map keyD), p.2]
def ownLs (i : Nat) (fr : Frame) : Option (List D) := match fr[i]? with
  | some (some (.own (.lst xs))) => some xs
  | _ => none
def enW (en : Bool) (xs : List D) : List D := match en with
  | true => enumD xs
  | false => xs
def mmlV (mx : Bool) : Option D → Option Val
  | some d => (mmlD mx d).map Val.fz
  | none => none
def lssD : List D → Option (List D)
  | [] => some []
  | .lst xs :: r => (lssD r).map (xs ++ ·)
  | _ :: _ => none
def sumlD : D → D → Option Val
  | .lst [], .lst [] => some (.fz (.lst []))
  | .lst (x :: xs), .lst [] => (lssD (x :: xs)).bind fun l => if l.length ≤ sizeLine then some (.own (.lst l)) else none
  | _, _ => none
def RX.putB (i : Nat) (c : Cell) : RX Val → RX Val
  | .ok v fr S => .ok v (fr.set i (some (.own c))) S
  | _ => .no
def dcopyD : D → Option Val
  | .dit ks vs => (match ks.mapM hashI with
    | some hs => if decide hs.Nodup then some (.own (.dT ks vs)) else none
    | none => none)
  | _ => none
def deepL (i : Nat) (fr : Frame) (S : Store) : Option D := match fr[i]? with
  | some (some (.own (.lst ds))) => some (.lst (ds.map (look S)))
  | _ => none
def cmpE (ne : Bool) (a b : D) : Option Val := if D.fit a b then some (.fz (.bl (D.eqv a b != ne))) else none
def askX (hs : List (Str × Hd)) (df : Option Str) : RX D → RX Val
  | .ok d fr S => .ok (.fz (match df with | some z => .str z | none => d)) fr S
  | .ex e fr S => match hs.lookup e.c with
    | some (.txt z) => .ok (.fz (.str z)) fr S
    | some (.fld z f) => match fldGet e.ns e.vs f with
      | some d => .ok (.fz (.tup [.str z, d])) fr S
      | none => .no
    | none => .no
  | .no => .no
def eqOk (S : Store) (c : Str) : D → Bool
  | .ref n => match S[n]? with
    | some (.ins c' _ _) => decide (c' = c)
    | some (.lst _) => true
    | some (.dK _ _) => true
    | some (.dT _ _) => true
    | _ => false
  | .scr _ => false
  | _ => true
def RC.eqo (ne : Bool) (fr : Frame) : RC → RX Val
  | .ok (.fz (.bl b)) S => .ok (.fz (.bl (b != ne))) fr S
  | .ex e S => .ex e fr S
  | _ => .no
mutual
def D.same : D → D → Bool
  | .non, .non => true
  | .bl a, .bl b => decide (a = b)
  | .int a, .int b => decide (a = b)
  | .str a, .str b => decide (a = b)
  | .lst a, .lst b => D.sames a b
  | .tup a, .tup b => D.sames a b
  | .dic k a, .dic l b => decide (k = l) && D.sames a b
  | .dit k a, .dit l b => decide (k = l) && D.sames a b
  | .ref a, .ref b => decide (a = b)
  | .scr a, .scr b => D.sames a b
  | _, _ => false
def D.sames : List D → List D → Bool
  | [], [] => true
  | x :: xs, y :: ys => D.same x y && D.sames xs ys
  | _, _ => false
end
def PP.same : PP → PP → Bool
  | .pos i, .pos j => decide (i = j)
  | .key i, .key j => decide (i = j)
  | .dfl i d, .dfl j e => decide (i = j) && D.same d e
  | _, _ => false
def pmSame : List PP → List PP → Bool
  | [], [] => true
  | x :: xs, y :: ys => PP.same x y && pmSame xs ys
  | _, _ => false
def KQ.same (q r : KQ) : Bool := decide (q.n = r.n) && (decide (q.ks = r.ks) && pmSame q.pm r.pm)
def lstOf (S : Store) : D → Option (List D)
  | .lst xs => some xs
  | .ref n => (match S[n]? with
    | some (.lst xs) => some xs
    | _ => none)
  | _ => none
def sameL (d : D) (xs : List D) (S : Store) : Bool := match lstOf S d with
  | some ys => D.sames ys xs
  | none => false
def RX.keep {α : Type} (p : Store → Bool) : RX α → RX α
  | .ok a fr S => (match p S with | true => .ok a fr S | false => .no)
  | .ex e fr S => .ex e fr S
  | .no => .no
def neLs (cf : CF) (c f : Str) : List D → List D → Store → RC
  | [], [], S => .ok (.fz (.bl false)) S
  | .ref n :: xs, .ref m :: ys, S => if n = m then neLs cf c f xs ys S else if isC S c (.ref n) = some true ∧ eqOk S c (.ref m) = true then
      (match cf f [.ref n, .ref m] S with
      | .ok (.fz (.bl true)) S' => neLs cf c f xs ys S'
      | .ok (.fz (.bl false)) S' => .ok (.fz (.bl true)) S'
      | .ex e S' => .ex e S'
      | _ => .no) else .no
  | _, _, _ => .no
def allRef (xs : List D) : Bool := xs.all fun
  | .ref _ => true
  | _ => false
def neolX (cf : CF) (c f : Str) (x y : D) (fr : Frame) (S : Store) : RX Val := match x, y with
  | .lst xs, .lst ys => if allRef xs = true ∧ allRef ys = true ∧ xs.length = ys.length then (neLs cf c f xs ys S).back fr else .no
  | _, _ => .no
def RC.lenT (fr : Frame) : RC → RX Bool
  | .ok (.fz (.int n)) S => if 0 ≤ n ∧ n < 2 ^ 62 then .ok (n != 0) fr S else .no
  | .ex e S => .ex e fr S
  | _ => .no
mutual
def ev2 (cf : CF) (gl : Str → Option D) : Xp → EV
  | .con d => .of fun fr S => .ok (.fz d) fr S
  | .var i => .of fun fr S => varX i fr S
  | .glo x => .of fun fr S => RX.lift ((gl x).map Val.fz) fr S
  | .bin k a b => .of fun fr S => (frzX ((ev2 cf gl a).v fr S)).bind fun x fr S => (frzX ((ev2 cf gl b).v fr S)).bind fun y fr S => RX.lift (binD k (look S x) (look S y)) fr S
  | .cmp k a b => .of fun fr S => (frzX ((ev2 cf gl a).v fr S)).bind fun x fr S => (frzX ((ev2 cf gl b).v fr S)).bind fun y fr S => RX.lift ((cmpD k (look S x) (look S y)).map fun r => Val.fz (.bl r)) fr S
  | .chain k l a b c => .of fun fr S => (frzX ((ev2 cf gl a).v fr S)).bind fun x fr S => (frzX ((ev2 cf gl b).v fr S)).bind fun y fr S => match cmpD k (look S x) (look S y) with
    | some true => (frzX ((ev2 cf gl c).v fr S)).bind fun z fr S => RX.lift ((cmpD l (look S y) (look S z)).map fun r => Val.fz (.bl r)) fr S
    | some false => .ok (.fz (.bl false)) fr S
    | none => .no
  | .not a => ⟨fun fr S => (frzX ((ev2 cf gl a).v fr S)).bind fun x fr S => match x with | .bl b => .ok (.fz (.bl (!b))) fr S | _ => .no,
      fun fr S => ((ev2 cf gl a).t fr S).bind fun t fr S => .ok (!t) fr S⟩
  | .and a b => ⟨fun fr S => (frzX ((ev2 cf gl a).v fr S)).bind fun x fr S => match x with | .bl true => (ev2 cf gl b).v fr S | .bl false => .ok (.fz (.bl false)) fr S | _ => .no,
      fun fr S => ((ev2 cf gl a).t fr S).bind fun t fr S => match t with | true => (ev2 cf gl b).t fr S | false => .ok false fr S⟩
  | .or a b => ⟨fun fr S => (frzX ((ev2 cf gl a).v fr S)).bind fun x fr S => match x with | .bl true => .ok (.fz (.bl true)) fr S | .bl false => (ev2 cf gl b).v fr S | _ => .no,
      fun fr S => ((ev2 cf gl a).t fr S).bind fun t fr S => match t with | true => .ok true fr S | false => (ev2 cf gl b).t fr S⟩
  | .ife c a b => .of fun fr S => ((ev2 cf gl c).t fr S).bind fun t fr S => match t with | true => (ev2 cf gl a).v fr S | false => (ev2 cf gl b).v fr S
  | .tup es => .of fun fr S => (evs cf gl es fr S).bind fun xs fr S => if xs.length ≤ sizeLine then .ok (.fz (.tup xs)) fr S else .no
  | .lst es => .of fun fr S => (evs cf gl es fr S).bind fun xs fr S => if xs.length ≤ sizeLine then .ok (.own (.lst xs)) fr S else .no
  | .sub a b => .of fun fr S => (frzX ((ev2 cf gl a).v fr S)).bind fun x fr S => (frzX ((ev2 cf gl b).v fr S)).bind fun y fr S => RX.lift ((subD (look S x) y).map Val.fz) fr S
  | .slice a lo hi => .of fun fr S => (frzX ((ev2 cf gl a).v fr S)).bind fun x fr S => (evO lo (ev2 cf gl lo).v fr S).bind fun l fr S => (evO hi (ev2 cf gl hi).v fr S).bind fun h fr S => RX.lift (sliceD l h (look S x)) fr S
  | .omit => .of fun _ _ => .no
  | .call f es => .of fun fr S => (evs cf gl es fr S).bind fun xs fr S => (cf f xs S).back fr
  | .blt k es => .of fun fr S => (evs cf gl es fr S).bind fun xs fr S => RX.lift (bltD k (xs.map (look S))) fr S
  | .isi t a => .of fun fr S => (frzX ((ev2 cf gl a).v fr S)).bind fun x fr S => RX.lift ((isD t x).map fun r => Val.fz (.bl r)) fr S
  | .bltv k i => .of fun fr S => RX.lift ((peek i fr S).bind fun d => bltD k [d]) fr S
  | .subv i b => .of fun fr S => if (peek i fr S).isSome then (frzX ((ev2 cf gl b).v fr S)).bind fun y fr S => RX.lift ((peek i fr S).bind fun d => (subD d y).map Val.fz) fr S else .no
  | .cmpv k a i => .of fun fr S => (frzX ((ev2 cf gl a).v fr S)).bind fun x fr S => RX.lift ((peek i fr S).bind fun d => (cmpD k (look S x) d).map fun r => Val.fz (.bl r)) fr S
  | .popv i b => .of fun fr S => if ownL i fr then (frzX ((ev2 cf gl b).v fr S)).bind fun y fr S => popX i y fr S else .no
  | .comp elt tg it cs => .of fun fr S => (evW cf gl it fr S).bind fun ds fr S => if calmF fr tg.slots then
      match compGo tg (evC cf gl cs) (fun fr S => frzX ((ev2 cf gl elt).v fr S)) ds [] (wipeF fr tg.slots) S with
      | .ok acc fr' S' => .ok (.own (.lst acc)) (backF fr fr' tg.slots) S'
      | .ex e fr' S' => .ex e (backF fr fr' tg.slots) S'
      | .no => .no
    else .no
  | .share a => .of fun fr S => ((ev2 cf gl a).v fr S).bind fun v fr S => match v with | .own c => .ok (.fz (.ref S.length)) fr (S ++ [c]) | _ => .no
  | .listrg b => .of fun fr S => (frzX ((ev2 cf gl b).v fr S)).bind fun y fr S => match y with
    | .int j => if rgOk 0 j = true ∧ j.toNat ≤ 2 ^ 24 then .ok (.own (.lst (rgD 0 j))) fr S else .no
    | _ => .no
  | .lenset a => .of fun fr S => (frzX ((ev2 cf gl a).v fr S)).bind fun x fr S => RX.lift (lensetD x) fr S
  | .neg a => .of fun fr S => (frzX ((ev2 cf gl a).v fr S)).bind fun x fr S => match x with | .int i => .ok (.fz (.int (-i))) fr S | _ => .no
  | .never => .of fun _ _ => .no
  | .rev a => .of fun fr S => (frzX ((ev2 cf gl a).v fr S)).bind fun x fr S => RX.lift (revD x) fr S
  | .mth k a es => .of fun fr S => (frzX ((ev2 cf gl a).v fr S)).bind fun x fr S => if mkOk k (look S x) then (evs cf gl es fr S).bind fun ys fr S => if mkOk k (look S x) then RX.lift (mthD S k (look S x) ys) fr S else .no else .no
  | .mthv k i es => .of fun fr S => if peekOk k i fr S then (evs cf gl es fr S).bind fun ys fr S => RX.lift ((peek i fr S).bind fun d => if mkOk k d then mthD S k d ys else none) fr S else .no
  | .fld c f a => .of fun fr S => (frzX ((ev2 cf gl a).v fr S)).bind fun x fr S => RX.lift ((fldD S c f x).map Val.fz) fr S
  | .meth c m f a es => .of fun fr S => (frzX ((ev2 cf gl a).v fr S)).bind fun x fr S => if insOk S c m x then (evs cf gl es fr S).bind fun ys fr S => (cf f (x :: ys) S).back fr else .no
  | .make c f es => .of fun fr S => (evs cf gl es fr S).bind fun ys fr S => (cf f (.ref S.length :: ys) (S ++ [.ins c [] []])).made S.length fr
  | .neol c f a b => .of fun fr S => (frzX ((ev2 cf gl a).v fr S)).bind fun x fr S => (frzX ((ev2 cf gl b).v fr S)).bind fun y fr S => neolX cf c f x y fr S
  | .tlen c f a => ⟨fun _ _ => .no, fun fr S => (frzX ((ev2 cf gl a).v fr S)).bind fun x fr S => if isC S c x = some true then (cf f [x] S).lenT fr else .no⟩
  | .callk f q es ks => .of fun fr S => (evs cf gl es fr S).bind fun xs fr S => (evs cf gl ks fr S).bind fun ys fr S => (cf f (arrD q.pm xs ys) S).back fr
  | .methk c m f q a es ks => .of fun fr S => (frzX ((ev2 cf gl a).v fr S)).bind fun x fr S => if insOk S c m x then (evs cf gl es fr S).bind fun xs fr S => (evs cf gl ks fr S).bind fun ys fr S => (cf f (arrD q.pm (x :: xs) ys) S).back fr else .no
  | .makek c f q es ks => .of fun fr S => (evs cf gl es fr S).bind fun xs fr S => (evs cf gl ks fr S).bind fun ys fr S => (cf f (arrD q.pm (.ref S.length :: xs) ys) (S ++ [.ins c [] []])).made S.length fr
  | .orv a b => .of fun fr S => (frzX ((ev2 cf gl a).v fr S)).bind fun x fr S => match truD (look S x) with | some true => .ok (.fz x) fr S | some false => (ev2 cf gl b).v fr S | none => .no
  | .isc c a => .of fun fr S => (frzX ((ev2 cf gl a).v fr S)).bind fun x fr S => RX.lift ((isC S c x).map fun r => Val.fz (.bl r)) fr S
  | .isr c t a => .of fun fr S => (frzX ((ev2 cf gl a).v fr S)).bind fun x fr S => RX.lift ((isR S c t x).map fun r => Val.fz (.bl r)) fr S
  | .cmpl k i b => .of fun fr S => if (peek i fr S).isSome then (frzX ((ev2 cf gl b).v fr S)).bind fun y fr S => RX.lift ((peek i fr S).bind fun d => (cmpD k d (look S y)).map fun r => Val.fz (.bl r)) fr S else .no
  | .tuprg b => .of fun fr S => (frzX ((ev2 cf gl b).v fr S)).bind fun y fr S => match y with
    | .int j => if rgOk 0 j = true ∧ j.toNat ≤ 2 ^ 24 then .ok (.fz (.tup (rgD 0 j))) fr S else .no
    | _ => .no
  | .mml mx a => .of fun fr S => (frzX ((ev2 cf gl a).v fr S)).bind fun x fr S => RX.lift ((mmlD mx x).map Val.fz) fr S
  | .ask k me _ hs df a => .of fun fr S => match isTab S k me with | true => askX hs df (frzX ((ev2 cf gl a).v fr S)) | false => .no
  | .sumv i => .of fun fr S => RX.lift (sumV (peek i fr S)) fr S
  | .lcnt i b => .of fun fr S => if lstP (peek i fr S) then (frzX ((ev2 cf gl b).v fr S)).bind fun y fr S => RX.lift ((peek i fr S).bind fun d => cntD d (look S y)) fr S else .no
  | .dprs a => .of fun fr S => (frzX ((ev2 cf gl a).v fr S)).bind fun x fr S => RX.lift (dprsD (look S x)) fr S
  | .compi elt tg i cs => .of fun fr S => match ownI i fr with
    | some (ks, vs) => (if calmF (fr.set i none) tg.slots = true then
        match compGo tg (fun fr S => evC cf gl cs fr S) (fun fr S => frzX ((ev2 cf gl elt).v fr S)) (itemsD ks vs) [] (wipeF (fr.set i none) tg.slots) S with
        | .ok acc fr' S' => .ok (.own (.lst acc)) (backF (fr.set i none) fr' tg.slots) S'
        | .ex e fr' S' => .ex e (backF (fr.set i none) fr' tg.slots) S'
        | .no => .no
      else .no : RX Val).putB i (.dT ks vs)
    | none => .no
  | .compw elt tg en i cs => .of fun fr S => match ownLs i fr with
    | some xs => (if calmF (fr.set i none) tg.slots = true then
        match compGo tg (fun fr S => evC cf gl cs fr S) (fun fr S => frzX ((ev2 cf gl elt).v fr S)) (enW en xs) [] (wipeF (fr.set i none) tg.slots) S with
        | .ok acc fr' S' => .ok (.own (.lst acc)) (backF (fr.set i none) fr' tg.slots) S'
        | .ex e fr' S' => .ex e (backF (fr.set i none) fr' tg.slots) S'
        | .no => .no
      else .no : RX Val).putB i (.lst xs)
    | none => .no
  | .mmlv mx i => .of fun fr S => RX.lift (mmlV mx (peek i fr S)) fr S
  | .suml a b => .of fun fr S => (frzX ((ev2 cf gl a).v fr S)).bind fun x fr S => (frzX ((ev2 cf gl b).v fr S)).bind fun y fr S => RX.lift (sumlD x y) fr S
  | .fmt a => .of fun fr S => (frzX ((ev2 cf gl a).v fr S)).bind fun x fr S => RX.lift (fmtD x) fr S
  | .fstr es => .of fun fr S => (evF cf gl es Str.empty fr S).bind fun z fr S => .ok (.fz (.str z)) fr S
  | .owc k c f a => .of fun fr S => (frzX ((ev2 cf gl a).v fr S)).bind fun x fr S => if isC S c x = some true then (cf f [x] S).own k fr else .no
  | .isx _ yes no a => .of fun fr S => (frzX ((ev2 cf gl a).v fr S)).bind fun x fr S => RX.lift ((isX S yes no x).map fun r => Val.fz (.bl r)) fr S
  | .mkx c a => .of fun fr S => (frzX ((ev2 cf gl a).v fr S)).bind fun _ fr S => .ok (.fz (.ref S.length)) fr (S ++ [.exn c [] []])
  | .mkxf c f a => .of fun fr S => (frzX ((ev2 cf gl a).v fr S)).bind fun x fr S => .ok (.fz (.ref S.length)) fr (S ++ [.exn c [f] [x]])
  | .xfld c f a => .of fun fr S => (frzX ((ev2 cf gl a).v fr S)).bind fun x fr S => RX.lift ((xfldD S c f x).map Val.fz) fr S
  | .lidx i b => .of fun fr S => if lstP (peek i fr S) then (frzX ((ev2 cf gl b).v fr S)).bind fun y fr S => RX.lift ((peek i fr S).bind fun d => idxD d y) fr S else .no
  | .dcopy a => .of fun fr S => (frzX ((ev2 cf gl a).v fr S)).bind fun x fr S => RX.lift (dcopyD (look S x)) fr S
  | .comps elt tg it cs => .of fun fr S => (evS cf gl it fr S).bind fun dp fr S => if (calmF fr tg.slots && dp.2 S) = true then
      match compGo tg (fun fr S => (evC cf gl cs fr S).keep dp.2) (fun fr S => (frzX ((ev2 cf gl elt).v fr S)).keep dp.2) dp.1 [] (wipeF fr tg.slots) S with
      | .ok acc fr' S' => .ok (.own (.lst acc)) (backF fr fr' tg.slots) S'
      | .ex e fr' S' => .ex e (backF fr fr' tg.slots) S'
      | .no => .no
    else .no
  | .cmpe ne i b => .of fun fr S => if ownL i fr then (frzX ((ev2 cf gl b).v fr S)).bind fun y fr S => RX.lift ((deepL i fr S).bind fun a => cmpE ne a (look S y)) fr S else .no
  | .eqo ne c f a b => .of fun fr S => (frzX ((ev2 cf gl a).v fr S)).bind fun x fr S => (frzX ((ev2 cf gl b).v fr S)).bind fun y fr S => if isC S c x = some true ∧ eqOk S c y = true then (cf f [x, y] S).eqo ne fr else .no
  | .disp k v => .of fun fr S => (frzX ((ev2 cf gl k).v fr S)).bind fun x fr S => (frzX ((ev2 cf gl v).v fr S)).bind fun y fr S => RX.lift ((toKey x).map fun q => Val.own (.dK [q] [y])) fr S
  | .dic0 t => .of fun fr S => .ok (.own (match t with | true => .dT [] [] | false => .dK [] [])) fr S
  | .sortset a => .of fun fr S => (frzX ((ev2 cf gl a).v fr S)).bind fun x fr S => RX.lift (sortsetD x) fr S
  | .mind a b => .of fun fr S => (frzX ((ev2 cf gl a).v fr S)).bind fun x fr S => (frzX ((ev2 cf gl b).v fr S)).bind fun y fr S => RX.lift ((mindD x y).map Val.fz) fr S
def evs (cf : CF) (gl : Str → Option D) : Xs → Frame → Store → RX (List D)
  | .nil => fun fr S => .ok [] fr S
  | .cons e es => fun fr S => (frzX ((ev2 cf gl e).v fr S)).bind fun x fr S => (evs cf gl es fr S).bind fun xs fr S => .ok (x :: xs) fr S
def evF (cf : CF) (gl : Str → Option D) : Xs → Str → Frame → Store → RX Str
  | .nil => fun acc fr S => .ok acc fr S
  | .cons e es => fun acc fr S => (frzX ((ev2 cf gl e).v fr S)).bind fun x fr S => match x with
    | .str y => if (acc ++ y).length ≤ sizeLine then evF cf gl es (acc ++ y) fr S else .no
    | _ => .no
def evC (cf : CF) (gl : Str → Option D) : Xs → Frame → Store → RX Bool
  | .nil => fun fr S => .ok true fr S
  | .cons e es => match es with
    | .nil => (ev2 cf gl e).t
    | .cons _ _ => fun _ _ => .no
def evW (cf : CF) (gl : Str → Option D) : Wk → Frame → Store → RX (List D)
  | .seq e => fun fr S => (frzX ((ev2 cf gl e).v fr S)).bind fun x fr S => match x with | .lst xs => .ok xs fr S | .tup xs => .ok xs fr S | .str z => .ok (signsD z) fr S | _ => .no
  | .rng1 e => fun fr S => (frzX ((ev2 cf gl e).v fr S)).bind fun x fr S => match x with | .int j => if rgOk 0 j then .ok (rgD 0 j) fr S else .no | _ => .no
  | .rng2 a b => fun fr S => (frzX ((ev2 cf gl a).v fr S)).bind fun x fr S => (frzX ((ev2 cf gl b).v fr S)).bind fun y fr S => match x, y with | .int i, .int j => if rgOk i j then .ok (rgD i j) fr S else .no | _, _ => .no
  | .enm e => fun fr S => (frzX ((ev2 cf gl e).v fr S)).bind fun x fr S => match x with | .lst xs => .ok (enumD xs) fr S | .tup xs => .ok (enumD xs) fr S | _ => .no
  | .zip a b => fun fr S => (frzX ((ev2 cf gl a).v fr S)).bind fun x fr S => (frzX ((ev2 cf gl b).v fr S)).bind fun y fr S => match x, y with
    | .lst xs, .lst ys => .ok (zipD xs ys) fr S | .tup xs, .tup ys => .ok (zipD xs ys) fr S | _, _ => .no
  | .rng3 a b c => fun fr S => (frzX ((ev2 cf gl a).v fr S)).bind fun x fr S => (frzX ((ev2 cf gl b).v fr S)).bind fun y fr S => (frzX ((ev2 cf gl c).v fr S)).bind fun z fr S => match x, y, z with
    | .int i, .int j, .int k => if k = -1 ∧ rgOk i j = true then .ok (rgN i j) fr S else .no | _, _, _ => .no
def evS (cf : CF) (gl : Str → Option D) : Wk → Frame → Store → RX (List D × (Store → Bool))
  | .seq e => fun fr S => (frzX ((ev2 cf gl e).v fr S)).bind fun x fr S => match lstOf S x with | some xs => .ok (xs, sameL x xs) fr S | none => .no
  | .zip a b => fun fr S => (frzX ((ev2 cf gl a).v fr S)).bind fun x fr S => (frzX ((ev2 cf gl b).v fr S)).bind fun y fr S => match lstOf S x, lstOf S y with
    | some xs, some ys => .ok (zipD xs ys, fun S => sameL x xs S && sameL y ys S) fr S | _, _ => .no
  | .rng1 _ => fun _ _ => .no
  | .rng2 _ _ => fun _ _ => .no
  | .enm _ => fun _ _ => .no
  | .rng3 _ _ _ => fun _ _ => .no
end
def ev (cf : CF) (gl : Str → Option D) (m : Xp) : Frame → Store → RX Val := (ev2 cf gl m).v
def evT (cf : CF) (gl : Str → Option D) (m : Xp) : Frame → Store → RX Bool := (ev2 cf gl m).t

inductive RS where
  | nx (fr : Frame) (S : Store) | rt (v : Val) (fr : Frame) (S : Store) | ex (e : Ex) (fr : Frame) (S : Store) | bk (fr : Frame) (S : Store) | ct (fr : Frame) (S : Store) | no
def RX.thn {α : Type} (r : RX α) (k : α → Frame → Store → RS) : RS := match r with
  | .ok a fr S => k a fr S
  | .ex e fr S => .ex e fr S
  | .no => .no
def RS.seq (r : RS) (k : Frame → Store → RS) : RS := match r with
  | .nx fr S => k fr S
  | r => r
def RS.keep (p : Store → Bool) : RS → RS
  | .nx fr S => (match p S with | true => .nx fr S | false => .no)
  | .ct fr S => (match p S with | true => .ct fr S | false => .no)
  | r => r
mutual
inductive Sm where
  | exp (e : Xp) | set (i : Nat) (e : Xp) | asg (t : Tg) (e : Xp) | ret (e : Xp) | retN | cond (c : Xp) (a b : Sms) | loop (tg : Tg) (it : Wk) (body : Sms)
  | raise (c : Str) | appv (i : Nat) (e : Xp) | extv (i : Nat) (e : Xp) | setv (i : Nat) (ix e : Xp) | setr (a ix e : Xp) | pass
  | par (i j : Nat) (a b : Xp) | setd (i : Nat) (ix e : Xp) | whl (c : Xp) (body : Sms) | never | setf (c f : Str) (a e : Xp) | setrd (a ix e : Xp) | raise1 (c f : Str) (e : Xp)
  | appr (a e : Xp) | clrv (i : Nat) | remv (i : Nat) (e : Xp) | par3 (i j k : Nat) (a b c : Xp) | loops (tg : Tg) (it : Wk) (body : Sms)
inductive Sms where
  | nil | cons (s : Sm) (ss : Sms)
end
def loopGo (tg : Tg) (body : Frame → Store → RS) : List D → Frame → Store → RS
  | [], fr, S => .nx fr S
  | d :: ds, fr, S => match asg tg d fr with
    | none => .no
    | some fr1 => match body fr1 S with
      | .nx fr2 S2 => loopGo tg body ds fr2 S2
      | .ct fr2 S2 => loopGo tg body ds fr2 S2
      | .bk fr2 S2 => .nx fr2 S2
      | r => r
def whlGo (test : Frame → Store → RX Bool) (body : Frame → Store → RS) : Nat → Frame → Store → RS
  | 0, _, _ => .no
  | n + 1, fr, S => (test fr S).thn fun t fr S => match t with
    | true => match body fr S with
      | .nx fr S => whlGo test body n fr S
      | .ct fr S => whlGo test body n fr S
      | .bk fr S => .nx fr S
      | r => r
    | false => .nx fr S
def fuelW : Nat := 100000
def appX (i : Nat) (d : D) (fr : Frame) (S : Store) : RS := match fr[i]? with
  | some (some (.own (.lst xs))) => if xs.length < sizeLine then .nx (fr.set i (some (.own (.lst (xs ++ [d]))))) S else .no
  | _ => .no
def extX (i : Nat) (d : D) (fr : Frame) (S : Store) : RS := match fr[i]?, d with
  | some (some (.own (.lst xs))), .lst ys => if xs.length + ys.length ≤ sizeLine then .nx (fr.set i (some (.own (.lst (xs ++ ys))))) S else .no
  | _, _ => .no
def setX (i : Nat) (y d : D) (fr : Frame) (S : Store) : RS := match fr[i]?, y with
  | some (some (.own (.lst xs))), .int k => match ixN xs.length k with
    | some j => .nx (fr.set i (some (.own (.lst (xs.set j d))))) S
    | none => .no
  | _, _ => .no
def ownT (i : Nat) (fr : Frame) : Bool := match fr[i]? with
  | some (some (.own (.dK _ _))) => true
  | some (some (.own (.dT _ _))) => true
  | _ => false
def setdX (i : Nat) (y d : D) (fr : Frame) (S : Store) : RS := match fr[i]? with
  | some (some (.own (.dK ks vs))) => match toKey y with
    | some k => if ks.length < sizeLine then .nx (fr.set i (some (.own (.dK (putKs ks k) (putVs ks vs k d))))) S else .no
    | none => .no
  | some (some (.own (.dT ks vs))) => match keyT y with
    | some k => if ks.length < sizeLine then .nx (fr.set i (some (.own (.dT (putKs ks k) (putVs ks vs k d))))) S else .no
    | none => .no
  | _ => .no
def isLst (S : Store) (o : D) : Bool := match o with
  | .ref n => (match S[n]? with
    | some (.lst _) => true
    | _ => false)
  | _ => false
def apprX (o d : D) (fr : Frame) (S : Store) : RS := match o with
  | .ref n => (match S[n]? with
    | some (.lst xs) => if xs.length < sizeLine then .nx fr (S.set n (.lst (xs ++ [d]))) else .no
    | _ => .no)
  | _ => .no
def clrX (i : Nat) (fr : Frame) (S : Store) : RS := match fr[i]? with
  | some (some (.own (.lst _))) => .nx (fr.set i (some (.own (.lst [])))) S
  | _ => .no
def remX (i : Nat) (d : D) (fr : Frame) (S : Store) : RS := match fr[i]? with
  | some (some (.own (.lst xs))) => if d.pl && D.pls xs && decide (min (D.deps xs) d.dep ≤ 64) && decide (xs.length ≤ sizeLine) then
      match xs.findIdx? fun y => D.eqv y d with
      | some j => .nx (fr.set i (some (.own (.lst (xs.eraseIdx j))))) S
      | none => .no
    else .no
  | _ => .no
def setrX (o y d : D) (fr : Frame) (S : Store) : RS := match o, y with
  | .ref n, .int k => match S[n]? with
    | some (.lst xs) => match ixN xs.length k with
      | some j => .nx fr (S.set n (.lst (xs.set j d)))
      | none => .no
    | _ => .no
  | _, _ => .no
def setrdX (o y d : D) (fr : Frame) (S : Store) : RS := match o with
  | .ref n => match S[n]? with
    | some (.dT ks vs) => match keyT y with
      | some k => if ks.length < sizeLine then .nx fr (S.set n (.dT (putKs ks k) (putVs ks vs k d))) else .no
      | none => .no
    | some (.dK ks vs) => match toKey y with
      | some k => if ks.length < sizeLine then .nx fr (S.set n (.dK (putKs ks k) (putVs ks vs k d))) else .no
      | none => .no
    | _ => .no
  | _ => .no
def shareV (v : Val) (S : Store) : D × Store := match v with
  | .fz d => (d, S)
  | .own c => (.ref S.length, S ++ [c])
def setfX (c f : Str) (o d : D) (fr : Frame) (S : Store) : RS := match o with
  | .ref n => match S[n]? with
    | some (.ins c' ns vs) => if c' = c ∧ ns.length < 100 then .nx fr (S.set n (.ins c' (fldPutN ns f) (fldPutV ns vs f d))) else .no
    | _ => .no
  | _ => .no
def retX (m : Xp) (f : Frame → Store → RX Val) : Frame → Store → RX Val := match m with
  | .var i => fun fr S => match fr[i]? with
    | some (some (.fz d)) => .ok (.fz d) fr S
    | some (some (.own c)) => .ok (.own c) (fr.set i none) S
    | _ => .no
  | _ => f
mutual
def ex (cf : CF) (gl : Str → Option D) : Sm → Frame → Store → RS
  | .exp e => fun fr S => (frzX (ev cf gl e fr S)).thn fun _ fr S => .nx fr S
  | .set i e => fun fr S => (ev cf gl e fr S).thn fun v fr S => .nx (fr.set i (some v)) S
  | .asg t e => fun fr S => (frzX (ev cf gl e fr S)).thn fun d fr S => match Eng.asg t d fr with | some fr' => .nx fr' S | none => .no
  | .ret e => fun fr S => (retX e (ev cf gl e) fr S).thn fun v fr S => .rt v fr S
  | .retN => fun fr S => .rt (.fz .non) fr S
  | .cond c a b => fun fr S => (evT cf gl c fr S).thn fun t fr S => match t with | true => exs cf gl a fr S | false => exs cf gl b fr S
  | .loop tg it body => fun fr S => (evW cf gl it fr S).thn fun ds fr S => loopGo tg (exs cf gl body) ds fr S
  | .loops tg it body => fun fr S => (evS cf gl it fr S).thn fun dp fr S => match dp.2 S with | true => loopGo tg (fun fr S => (exs cf gl body fr S).keep dp.2) dp.1 fr S | false => .no
  | .raise c => fun fr S => .ex ⟨c, [], []⟩ fr S
  | .raise1 c f e => fun fr S => (frzX (ev cf gl e fr S)).thn fun d fr S => .ex ⟨c, [f], [d]⟩ fr S
  | .whl c body => fun fr S => whlGo (evT cf gl c) (exs cf gl body) fuelW fr S
  | .appv i e => fun fr S => if ownL i fr then (frzX (ev cf gl e fr S)).thn fun d fr S => appX i d fr S else .no
  | .extv i e => fun fr S => if ownL i fr then (frzX (ev cf gl e fr S)).thn fun d fr S => extX i d fr S else .no
  | .setv i ix e => fun fr S => (frzX (ev cf gl e fr S)).thn fun d fr S => if ownL i fr then (frzX (ev cf gl ix fr S)).thn fun y fr S => setX i y d fr S else .no
  | .setr a ix e => fun fr S => (frzX (ev cf gl e fr S)).thn fun d fr S => (frzX (ev cf gl a fr S)).thn fun o fr S => (frzX (ev cf gl ix fr S)).thn fun y fr S => setrX o y d fr S
  | .pass => fun fr S => .nx fr S
  | .never => fun _ _ => .no
  | .par3 i j k a b c => fun fr S => (ev cf gl a fr S).thn fun v fr S => (ev cf gl b fr S).thn fun w fr S => (ev cf gl c fr S).thn fun z fr S => .nx (((fr.set i (some v)).set j (some w)).set k (some z)) S
  | .appr a e => fun fr S => (frzX (ev cf gl a fr S)).thn fun o fr S => if isLst S o then (frzX (ev cf gl e fr S)).thn fun d fr S => apprX o d fr S else .no
  | .clrv i => fun fr S => clrX i fr S
  | .remv i e => fun fr S => if ownL i fr then (frzX (ev cf gl e fr S)).thn fun d fr S => remX i d fr S else .no
  | .par i j a b => fun fr S => (ev cf gl a fr S).thn fun v fr S => (ev cf gl b fr S).thn fun w fr S => .nx ((fr.set i (some v)).set j (some w)) S
  | .setf c f a e => fun fr S => (ev cf gl e fr S).thn fun v fr S => (frzX (ev cf gl a fr (shareV v S).2)).thn fun o fr S' => setfX c f o (shareV v S).1 fr S'
  | .setrd a ix e => fun fr S => (frzX (ev cf gl e fr S)).thn fun d fr S => (frzX (ev cf gl a fr S)).thn fun o fr S => (frzX (ev cf gl ix fr S)).thn fun y fr S => setrdX o y d fr S
  | .setd i ix e => fun fr S => (frzX (ev cf gl e fr S)).thn fun d fr S => if ownT i fr then (frzX (ev cf gl ix fr S)).thn fun y fr S => setdX i y d fr S else .no
def exs (cf : CF) (gl : Str → Option D) : Sms → Frame → Store → RS
  | .nil => fun fr S => .nx fr S
  | .cons s ss => fun fr S => (ex cf gl s fr S).seq fun fr S => exs cf gl ss fr S
end

structure Df where
  name : Str
  ps : Nat
  ns : Nat
  body : Sms
  dfl : List D := []
def Df.pad (d : Df) (xs : List D) : List D := xs ++ d.dfl.drop (xs.length + d.dfl.length - d.ps)
def Df.start (d : Df) (xs : List D) : Frame := xs.map (fun x => some (Val.fz x)) ++ List.replicate (d.ns - xs.length) none
def RS.done : RS → RC
  | .nx _ S => .ok (.fz .non) S
  | .rt v _ S => .ok v S
  | .ex e _ S => .ex e S
  | _ => .no
def runDf (cf : CF) (gl : Str → Option D) (d : Df) (xs : List D) (S : Store) : RC := if (d.pad xs).length = d.ps then (exs cf gl d.body (d.start (d.pad xs)) S).done else .no
def callN (P : Str → Option Df) (gl : Str → Option D) : Nat → CF
  | 0 => fun _ _ _ => .no
  | n + 1 => fun f xs S => match P f with
    | some d => runDf (callN P gl n) gl d xs S
    | none => .no
end Eng
end

section
namespace Eng
open PySem PySem.Spec PyProof.Rows L2
def dataTys : List String := ["NoneType", "bool", "int", "str", "list", "tuple", "dict"]
def isaTys : List String := ["int", "bool", "str", "list", "tuple", "dict"]
def isClsB (K : PySem.W.Frag) (C : Addr) : Bool := (dataTys.all fun T => decide (PySem.W.kitOne K (.type T) (.ref C) = some false)) && isaTys.all fun T => decide (PySem.W.kitOne K (.ref C) (.type T) = some false)
def insClsB (K : PySem.W.Frag) (C : Addr) : Bool := decide (PySem.W.findIn K (.ref C) "__class__" = some (some (.builtin "object.__class__"))) && decide (PySem.W.specialIn K (.builtin "object.__class__") "__get__" = some (some (.builtin "getset_descriptor.__get__"))) &&
  decide (PySem.W.takesIn K (.builtin "object.__class__") = some true) && decide (PySem.W.mroIn K C (.type "object") = some true)
def neClsB (K : PySem.W.Frag) (C : Addr) : Bool := decide (PySem.W.findIn K (.ref C) "__ne__" = some (some (.builtin "object.__ne__"))) && decide (PySem.W.findIn K (.ref C) "__bool__" = some none)
def bltNames : List Str := ["len", "all", "any", "sum", "tuple", "list", "int", "max", "min", "repr", "isinstance", "bool", "str", "dict", "range", "enumerate", "zip", "sorted", "set", "ValueError"]
def oexB (K : PySem.W.Frag) (C : Addr) : Bool := (match K.lookup C with
  | some ⟨.type "type", _, .cls cd, sl⟩ => (match cd.mro, sl.toList with
    | .ref C' :: bm, [_, _, _, _, some (.builtin n), _] => C' == C && n == "ValueError.__new__" && !cd.hasDel && cd.hasDict && PySem.HandSPX.refsVE bm
    | _, _ => false)
  | _ => false) && decide (PySem.W.findIn K (.ref C) "__setattr__" = some (some (.builtin "object.__setattr__"))) && decide (PySem.W.subIn K (.ref C) (.type "BaseException") = some true) && decide (PySem.W.typeIn K (.ref C) = some (.type "type")) && PySem.W.keepIn K (.ref C)
theorem and2 {a b : Bool} (h : (a && b) = true) : a = true ∧ b = true := by rw [Bool.and_eq_true] at h; exact h
structure Rw where
  d : He.DefD
  f : Df
  N : List Str
  kw : List KQ
structure Hw where
  d : He.DefD
  N : List Str
  a : Str
  hs : List (Str × Hd)
  df : Option Str
structure Xw where
  d : He.DefD
  N : List Str
  x : Str
  f : Str
  nd : Str
  sf : Str
  by_ : Str
structure XZ where
  xi : Str → Str → Option Bool := fun _ _ => none
  xg : List (Str × Str) := []
structure Pr where
  defs : List Rw
  xs : List Str
  gi : List (Str × Int)
  gs : List (Str × Str)
  cs : List Str := []
  ats : List (Str × Str) := []
  tbs : List Str := []
  hw : List Hw := []
  xw : List Xw := []
  /-- own exceptions: a class, and the classes of which it is -/
  xv : List (Str × List Str) := []
def Pr.hk (p : Pr) : List (Str × (List (Str × Hd) × Option Str)) := p.hw.map fun h => (h.d.qual, (h.hs, h.df))
def Pr.hx (p : Pr) : List Str := p.hw.flatMap fun h => h.hs.map (·.1)
def Pr.xf (p : Pr) : List (Str × Str) := p.xw.map fun h => (h.x, h.f)
def Pr.xz (p : Pr) : XZ := ⟨fun k cl => (p.xv.lookup k).bind fun s => if cl = "ValueError" ∨ (p.xv.lookup cl).isSome = true then some (s.contains cl) else none, if p.xv.isEmpty then [] else p.xf⟩
def excCB (K : PySem.W.Frag) (D : Addr) : Bool := decide (PySem.W.findIn K (.ref D) "__getattribute__" = some (some (.builtin "BaseException.__getattribute__"))) && (decide (PySem.W.findIn K (.ref D) "__getattr__" = some none) && (decide (PySem.W.subIn K (.ref D) (.type "BaseException") = some true) && (PySem.W.hasDictIn K D && (decide (PySem.W.findIn K (.ref D) "__class__" = some (some (.builtin "object.__class__"))) &&
  (decide (PySem.W.specialIn K (.builtin "object.__class__") "__get__" = some (some (.builtin "getset_descriptor.__get__"))) && (decide (PySem.W.takesIn K (.builtin "object.__class__") = some true) && decide (PySem.W.mroIn K D (.type "object") = some true)))))))
def nInitB (K : PySem.W.Frag) (N : Addr) : Bool := PySem.W.readsIn K N (.type "type") && decide (PySem.W.specialIn K (.ref N) "__getattribute__" = some (some (.builtin "type.__getattribute__"))) && (match PySem.W.findCls K (.ref N) (.type "type") "__init__" with | some (.val v) => decide (v = .builtin "ValueError.__init__") | _ => false)
def xwK (K : PySem.W.Frag) (h : Xw) : Bool := oexB K (He.ga K h.x) && decide (PySem.W.findIn K (.ref (He.ga K h.x)) "__init__" = some (some (.ref (He.fAd K (h.x, some ("__init__" : Str)))))) && decide (PySem.W.typeIn K (.ref (He.fAd K (h.x, some ("__init__" : Str)))) = some (.type "function")) && decide (PySem.W.findIn K (.ref (He.ga K h.x)) h.f = some none) && nInitB K (He.ga K h.nd)
def fldB (K : PySem.W.Frag) (C : Addr) (f : Str) : Bool := decide (PySem.W.findIn K (.ref C) "__getattribute__" = some (some (.builtin "BaseException.__getattribute__"))) && decide (PySem.W.findIn K (.ref C) "__getattr__" = some none) && decide (PySem.W.findIn K (.ref C) f = some none) &&
  decide (PySem.W.subIn K (.ref C) (.type "BaseException") = some true) && PySem.W.hasDictIn K C
def hdFB (K : PySem.W.Frag) (x : Str) : Hd → Bool
  | .fld _ f => fldB K (He.ga K x) f
  | .txt _ => true
def Pr.exB (p : Pr) (K : PySem.W.Frag) : Bool := p.hw.all fun h => h.hs.all fun x => (h.hs.all fun y => decide (PySem.W.exmOne K (.ref (He.ga K x.1)) (.ref (He.ga K y.1)) = some (decide (x.1 = y.1)))) && hdFB K x.1 x.2
def Pr.xvB (p : Pr) (K : PySem.W.Frag) : Bool := (p.xv.all fun q => excCB K (He.ga K q.1) && (decide (PySem.W.kitOne K (.ref (He.ga K q.1)) (.type "ValueError") = some (q.2.contains "ValueError")) && p.xv.all fun t => decide (PySem.W.kitOne K (.ref (He.ga K q.1)) (.ref (He.ga K t.1)) = some (q.2.contains t.1)))) && (p.xv.isEmpty || p.xw.all fun h => fldB K (He.ga K h.x) h.f)
def Pr.exX (p : Pr) (K : PySem.W.Frag) : Bool := p.exB K && (p.xw.all (xwK K) && p.xvB K)
def Pr.tf (p : Pr) : List He.Defn := p.tbs.map fun f => (f, none)
def Pr.ndT (p : Pr) (K : PySem.W.Frag) : Bool := decide (p.tbs.map fun f => (He.cT K (f, none)).2).Nodup
def isGlo (r : Rw) : Bool := decide (r.d.at_.2 = none)
def Pr.fs (p : Pr) : List Str := (p.defs.filter isGlo).map (·.d.qual)
def Pr.ms (p : Pr) : List (Str × Str × Str) := p.defs.filterMap fun r => match r.d.at_ with
  | (c, some m) => some (r.d.qual, c, m)
  | _ => none
def Pr.mfa (p : Pr) : List He.Fa := p.ms.map (fun q => .meth q.2.1 q.2.2) ++ ((p.ms.filter fun q => decide (q.2.2 = ("__init__" : Str))).map fun q => .mkr q.2.1)
def Pr.fa0 (p : Pr) : List He.Fa := p.fs.map .glo ++ (bltNames.map .free ++ (p.xs.map .glo ++ (p.xs.map .exc ++ (p.gi.map (fun q => .int q.1 q.2) ++ (p.gs.map (fun q => .str q.1 q.2) ++ (p.cs.map .glo ++ (p.cs.map .cls ++ (p.ats.map (fun q => .noat q.1 q.2) ++ p.mfa))))))))
def Pr.fa (p : Pr) : List He.Fa := p.fa0 ++ (p.hx.map .glo ++ (p.hw.map (fun h => .glo h.d.qual) ++ (p.xw.map (fun h => .glo h.x) ++ (p.xw.map (fun h => .glo h.nd) ++ p.xv.map fun q => .glo q.1))))
def Pr.fn (p : Pr) : List He.DefD := p.defs.map (·.d) ++ (p.hw.map (·.d) ++ p.xw.map (·.d))
def Pr.clsB (p : Pr) (K : PySem.W.Frag) : Bool := p.cs.all fun x => isClsB K (He.ga K x) && insClsB K (He.ga K x) && neClsB K (He.ga K x)
def Pr.ex (p : Pr) (K : PySem.W.Frag) : Bool := p.clsB K && p.exX K && p.ndT K
end Eng
end

section
namespace Eng
open PySem PySem.Spec PyProof.Rows L2
def rfs (g : Addr → Option Obj) (a : Addr) : List Addr := match g a with
  | some o => He.refsD o
  | none => []
def rnd : List Addr → Nat → List Addr → Nat × List Addr
  | [], m, acc => (m, acc)
  | a :: r, m, acc => bif Nat.beq (Nat.shiftRight m a % 2) 1 then rnd r m acc else rnd r (Nat.lor m (Nat.shiftLeft 1 a)) (a :: acc)
def grw (g : Addr → Option Obj) : Nat → Nat → List Addr → List Addr → List Addr
  | 0, _, _, all => all
  | n + 1, m, F, all => match rnd (F.flatMap (rfs g)) m [] with
    | (m', new) => grw g n m' new (all ++ new)
def asM (g : Addr → Option Obj) (n : Nat) : List Addr := grw g n (Nat.shiftLeft 1 mainGlobals) [mainGlobals] [mainGlobals]
def seenM (n : Nat) (g : Addr → Option Obj) : PySem.W.Frag := He.frT g (cStatics :: asM g n)
def obsM (n : Nat) (p : Pr) (g : Addr → Option Obj) : He.AlX :=
  let K := seenM n g
  (He.obsT p.fa p.fn [] K, p.ex K && He.tabsB g p.tf K)
theorem saysM {n : Nat} {p : Pr} {w : World} {h : Heap} (e : obsM n p h.get? = He.valX p.fn [] w) : He.SaysX p.fa p.fn [] p.tf p.ex w h (seenM n h.get?) := by
  have q1 : He.obsT p.fa p.fn [] (seenM n h.get?) = He.valT p.fn [] w := congrArg Prod.fst e
  have q2 : (p.ex (seenM n h.get?) && He.tabsB h.get? p.tf (seenM n h.get?)) = true := congrArg Prod.snd e
  obtain ⟨q2, q3⟩ := and2 q2
  have T : ∀ t ∈ p.tf, PySem.W.codeHdIn (seenM n h.get?) (He.cT (seenM n h.get?) t).1 (He.cT (seenM n h.get?) t).2 = true ∧ ∃ o, h.get? (He.cT (seenM n h.get?) t).2 = some o ∧ He.emptyTab o = true := by
    intro t ht
    obtain ⟨y1, y2⟩ := and2 (List.all_eq_true.mp q3 t ht)
    refine ⟨y1, ?_⟩
    split at y2
    · rename_i o eo; exact ⟨o, eo, y2⟩
    · cases y2
  refine { t := q1, more := q2, hd := fun t ht => (T t ht).1, out := ?_, empty := ?_ }
  · intro t ht
    obtain ⟨-, o, eo, z⟩ := T t ht
    exact He.frT_none eo z
  · intro t ht
    obtain ⟨-, o, eo, z⟩ := T t ht
    rw [eo, He.emptyTab_eq z]
def hookM (n : Nat) (p : Pr) : PySem.W.Hook :=
  { α := He.AlX, obs := fun s => obsM n p s.heap.get?, val := fun w => He.valX p.fn [] w,
    says := fun w h => ∃ K : PySem.W.Frag, K.In h ∧ He.SaysX p.fa p.fn [] p.tf p.ex w h K,
    of := fun _ _ e => ⟨_, He.frT_in, saysM e⟩,
    keeps := fun _ _ _ ⟨K, i, c⟩ k => ⟨K, i.keeps k, { c with empty := fun t ht => k _ _ (c.empty t ht) }⟩ }
theorem obsM_eq {n : Nat} {p : Pr} {g : Addr → Option Obj} {s : Shared} (h : ∀ a, g a = s.heap.get? a) : obsM n p g = (hookM n p).obs s := by
  rw [funext h]; rfl
end Eng
end

section
namespace K15
open PySem L2 Eng
def top (i : Nat) : Stmt := PySem.Challenge.pw_hingemount_k15_families_of_refusals.main.body.getD i (.Pass ⟨0, 0, 0, 0⟩)
def yes_NoWord : List Str := ["NoWord"]
def no_NoWord : List Str := ["HingeError", "NoThing", "NotDone", "NoList", "NoStamp", "NoStamps", "NoSet", "NoSets", "NoNumber", "NoName", "NoPrices", "NoFriends", "NoExchange", "NoPaper", "NoOffers", "NoOwners", "NoDeals", "NoAlbums", "NoText", "NoRow", "NoPrice", "Twice", "Missing", "Same", "NothingDone", "Short"]
def yes_NoText : List Str := ["NoText"]
def no_NoText : List Str := ["HingeError", "NoThing", "NotDone", "NoList", "NoStamp", "NoStamps", "NoSet", "NoSets", "NoNumber", "NoName", "NoPrices", "NoFriends", "NoExchange", "NoPaper", "NoOffers", "NoOwners", "NoDeals", "NoAlbums", "NoWord", "NoRow", "NoPrice", "Twice", "Missing", "Same", "NothingDone", "Short"]
def yes_NoStamps : List Str := ["NoStamps"]
def no_NoStamps : List Str := ["HingeError", "NoThing", "NotDone", "NoList", "NoStamp", "NoSet", "NoSets", "NoNumber", "NoName", "NoPrices", "NoFriends", "NoExchange", "NoPaper", "NoOffers", "NoOwners", "NoDeals", "NoAlbums", "NoWord", "NoText", "NoRow", "NoPrice", "Twice", "Missing", "Same", "NothingDone", "Short"]
def yes_NoStamp : List Str := ["NoStamp"]
def no_NoStamp : List Str := ["HingeError", "NoThing", "NotDone", "NoList", "NoStamps", "NoSet", "NoSets", "NoNumber", "NoName", "NoPrices", "NoFriends", "NoExchange", "NoPaper", "NoOffers", "NoOwners", "NoDeals", "NoAlbums", "NoWord", "NoText", "NoRow", "NoPrice", "Twice", "Missing", "Same", "NothingDone", "Short"]
def yes_NoSets : List Str := ["NoSets"]
def no_NoSets : List Str := ["HingeError", "NoThing", "NotDone", "NoList", "NoStamp", "NoStamps", "NoSet", "NoNumber", "NoName", "NoPrices", "NoFriends", "NoExchange", "NoPaper", "NoOffers", "NoOwners", "NoDeals", "NoAlbums", "NoWord", "NoText", "NoRow", "NoPrice", "Twice", "Missing", "Same", "NothingDone", "Short"]
def yes_NoSet : List Str := ["NoSet"]
def no_NoSet : List Str := ["HingeError", "NoThing", "NotDone", "NoList", "NoStamp", "NoStamps", "NoSets", "NoNumber", "NoName", "NoPrices", "NoFriends", "NoExchange", "NoPaper", "NoOffers", "NoOwners", "NoDeals", "NoAlbums", "NoWord", "NoText", "NoRow", "NoPrice", "Twice", "Missing", "Same", "NothingDone", "Short"]
def yes_NoRow : List Str := ["NoRow"]
def no_NoRow : List Str := ["HingeError", "NoThing", "NotDone", "NoList", "NoStamp", "NoStamps", "NoSet", "NoSets", "NoNumber", "NoName", "NoPrices", "NoFriends", "NoExchange", "NoPaper", "NoOffers", "NoOwners", "NoDeals", "NoAlbums", "NoWord", "NoText", "NoPrice", "Twice", "Missing", "Same", "NothingDone", "Short"]
def yes_NoPrices : List Str := ["NoPrices"]
def no_NoPrices : List Str := ["HingeError", "NoThing", "NotDone", "NoList", "NoStamp", "NoStamps", "NoSet", "NoSets", "NoNumber", "NoName", "NoFriends", "NoExchange", "NoPaper", "NoOffers", "NoOwners", "NoDeals", "NoAlbums", "NoWord", "NoText", "NoRow", "NoPrice", "Twice", "Missing", "Same", "NothingDone", "Short"]
def yes_NoPaper : List Str := ["NoPaper"]
def no_NoPaper : List Str := ["HingeError", "NoThing", "NotDone", "NoList", "NoStamp", "NoStamps", "NoSet", "NoSets", "NoNumber", "NoName", "NoPrices", "NoFriends", "NoExchange", "NoOffers", "NoOwners", "NoDeals", "NoAlbums", "NoWord", "NoText", "NoRow", "NoPrice", "Twice", "Missing", "Same", "NothingDone", "Short"]
def yes_NoOwners : List Str := ["NoOwners"]
def no_NoOwners : List Str := ["HingeError", "NoThing", "NotDone", "NoList", "NoStamp", "NoStamps", "NoSet", "NoSets", "NoNumber", "NoName", "NoPrices", "NoFriends", "NoExchange", "NoPaper", "NoOffers", "NoDeals", "NoAlbums", "NoWord", "NoText", "NoRow", "NoPrice", "Twice", "Missing", "Same", "NothingDone", "Short"]
def yes_NoOffers : List Str := ["NoOffers"]
def no_NoOffers : List Str := ["HingeError", "NoThing", "NotDone", "NoList", "NoStamp", "NoStamps", "NoSet", "NoSets", "NoNumber", "NoName", "NoPrices", "NoFriends", "NoExchange", "NoPaper", "NoOwners", "NoDeals", "NoAlbums", "NoWord", "NoText", "NoRow", "NoPrice", "Twice", "Missing", "Same", "NothingDone", "Short"]
def yes_NoNumber : List Str := ["NoNumber"]
def no_NoNumber : List Str := ["HingeError", "NoThing", "NotDone", "NoList", "NoStamp", "NoStamps", "NoSet", "NoSets", "NoName", "NoPrices", "NoFriends", "NoExchange", "NoPaper", "NoOffers", "NoOwners", "NoDeals", "NoAlbums", "NoWord", "NoText", "NoRow", "NoPrice", "Twice", "Missing", "Same", "NothingDone", "Short"]
def yes_NoName : List Str := ["NoName"]
def no_NoName : List Str := ["HingeError", "NoThing", "NotDone", "NoList", "NoStamp", "NoStamps", "NoSet", "NoSets", "NoNumber", "NoPrices", "NoFriends", "NoExchange", "NoPaper", "NoOffers", "NoOwners", "NoDeals", "NoAlbums", "NoWord", "NoText", "NoRow", "NoPrice", "Twice", "Missing", "Same", "NothingDone", "Short"]
def yes_NoList : List Str := ["NoList"]
def no_NoList : List Str := ["HingeError", "NoThing", "NotDone", "NoStamp", "NoStamps", "NoSet", "NoSets", "NoNumber", "NoName", "NoPrices", "NoFriends", "NoExchange", "NoPaper", "NoOffers", "NoOwners", "NoDeals", "NoAlbums", "NoWord", "NoText", "NoRow", "NoPrice", "Twice", "Missing", "Same", "NothingDone", "Short"]
def yes_NoFriends : List Str := ["NoFriends"]
def no_NoFriends : List Str := ["HingeError", "NoThing", "NotDone", "NoList", "NoStamp", "NoStamps", "NoSet", "NoSets", "NoNumber", "NoName", "NoPrices", "NoExchange", "NoPaper", "NoOffers", "NoOwners", "NoDeals", "NoAlbums", "NoWord", "NoText", "NoRow", "NoPrice", "Twice", "Missing", "Same", "NothingDone", "Short"]
def yes_NoExchange : List Str := ["NoExchange"]
def no_NoExchange : List Str := ["HingeError", "NoThing", "NotDone", "NoList", "NoStamp", "NoStamps", "NoSet", "NoSets", "NoNumber", "NoName", "NoPrices", "NoFriends", "NoPaper", "NoOffers", "NoOwners", "NoDeals", "NoAlbums", "NoWord", "NoText", "NoRow", "NoPrice", "Twice", "Missing", "Same", "NothingDone", "Short"]
def yes_NoDeals : List Str := ["NoDeals"]
def no_NoDeals : List Str := ["HingeError", "NoThing", "NotDone", "NoList", "NoStamp", "NoStamps", "NoSet", "NoSets", "NoNumber", "NoName", "NoPrices", "NoFriends", "NoExchange", "NoPaper", "NoOffers", "NoOwners", "NoAlbums", "NoWord", "NoText", "NoRow", "NoPrice", "Twice", "Missing", "Same", "NothingDone", "Short"]
def yes_NoAlbums : List Str := ["NoAlbums"]
def no_NoAlbums : List Str := ["HingeError", "NoThing", "NotDone", "NoList", "NoStamp", "NoStamps", "NoSet", "NoSets", "NoNumber", "NoName", "NoPrices", "NoFriends", "NoExchange", "NoPaper", "NoOffers", "NoOwners", "NoDeals", "NoWord", "NoText", "NoRow", "NoPrice", "Twice", "Missing", "Same", "NothingDone", "Short"]
def yes_Twice : List Str := ["Twice"]
def no_Twice : List Str := ["HingeError", "NoThing", "NotDone", "NoList", "NoStamp", "NoStamps", "NoSet", "NoSets", "NoNumber", "NoName", "NoPrices", "NoFriends", "NoExchange", "NoPaper", "NoOffers", "NoOwners", "NoDeals", "NoAlbums", "NoWord", "NoText", "NoRow", "NoPrice", "Missing", "Same", "NothingDone", "Short"]
def yes_Short : List Str := ["Short"]
def no_Short : List Str := ["HingeError", "NoThing", "NotDone", "NoList", "NoStamp", "NoStamps", "NoSet", "NoSets", "NoNumber", "NoName", "NoPrices", "NoFriends", "NoExchange", "NoPaper", "NoOffers", "NoOwners", "NoDeals", "NoAlbums", "NoWord", "NoText", "NoRow", "NoPrice", "Twice", "Missing", "Same", "NothingDone"]
def yes_Same : List Str := ["Same"]
def no_Same : List Str := ["HingeError", "NoThing", "NotDone", "NoList", "NoStamp", "NoStamps", "NoSet", "NoSets", "NoNumber", "NoName", "NoPrices", "NoFriends", "NoExchange", "NoPaper", "NoOffers", "NoOwners", "NoDeals", "NoAlbums", "NoWord", "NoText", "NoRow", "NoPrice", "Twice", "Missing", "NothingDone", "Short"]
def yes_NothingDone : List Str := ["NothingDone"]
def no_NothingDone : List Str := ["HingeError", "NoThing", "NotDone", "NoList", "NoStamp", "NoStamps", "NoSet", "NoSets", "NoNumber", "NoName", "NoPrices", "NoFriends", "NoExchange", "NoPaper", "NoOffers", "NoOwners", "NoDeals", "NoAlbums", "NoWord", "NoText", "NoRow", "NoPrice", "Twice", "Missing", "Same", "Short"]
def yes_NoPrice : List Str := ["NoPrice"]
def no_NoPrice : List Str := ["HingeError", "NoThing", "NotDone", "NoList", "NoStamp", "NoStamps", "NoSet", "NoSets", "NoNumber", "NoName", "NoPrices", "NoFriends", "NoExchange", "NoPaper", "NoOffers", "NoOwners", "NoDeals", "NoAlbums", "NoWord", "NoText", "NoRow", "Twice", "Missing", "Same", "NothingDone", "Short"]
def yes_Missing : List Str := ["Missing"]
def no_Missing : List Str := ["HingeError", "NoThing", "NotDone", "NoList", "NoStamp", "NoStamps", "NoSet", "NoSets", "NoNumber", "NoName", "NoPrices", "NoFriends", "NoExchange", "NoPaper", "NoOffers", "NoOwners", "NoDeals", "NoAlbums", "NoWord", "NoText", "NoRow", "NoPrice", "Twice", "Same", "NothingDone", "Short"]
def yes_ValueError : List Str := ["HingeError", "NoThing", "NotDone", "NoList", "NoStamp", "NoStamps", "NoSet", "NoSets", "NoNumber", "NoName", "NoPrices", "NoFriends", "NoExchange", "NoPaper", "NoOffers", "NoOwners", "NoDeals", "NoAlbums", "NoWord", "NoText", "NoRow", "NoPrice", "Twice", "Missing", "Same", "NothingDone", "Short"]
def no_ValueError : List Str := []
def yes_HingeError : List Str := ["HingeError", "NoThing", "NotDone", "NoList", "NoStamp", "NoStamps", "NoSet", "NoSets", "NoNumber", "NoName", "NoPrices", "NoFriends", "NoExchange", "NoPaper", "NoOffers", "NoOwners", "NoDeals", "NoAlbums", "NoWord", "NoText", "NoRow", "NoPrice", "Twice", "Missing", "Same", "NothingDone", "Short"]
def no_HingeError : List Str := []
def yes_NotDone : List Str := ["NotDone", "NoPrice", "Twice", "Missing", "Same", "NothingDone", "Short"]
def no_NotDone : List Str := ["HingeError", "NoThing", "NoList", "NoStamp", "NoStamps", "NoSet", "NoSets", "NoNumber", "NoName", "NoPrices", "NoFriends", "NoExchange", "NoPaper", "NoOffers", "NoOwners", "NoDeals", "NoAlbums", "NoWord", "NoText", "NoRow"]
def yes_NoThing : List Str := ["NoThing", "NoList", "NoStamp", "NoStamps", "NoSet", "NoSets", "NoNumber", "NoName", "NoPrices", "NoFriends", "NoExchange", "NoPaper", "NoOffers", "NoOwners", "NoDeals", "NoAlbums", "NoWord", "NoText", "NoRow"]
def no_NoThing : List Str := ["HingeError", "NotDone", "NoPrice", "Twice", "Missing", "Same", "NothingDone", "Short"]
def f_places_many : Df := ⟨"places_many", 1, 4, (.cons (.ret (.blt .sum (.cons (.comp (.var 3) (.tp (.cons (.nm 1) (.cons (.nm 2) (.cons (.nm 3) .nil)))) (.seq (.var 0)) .nil) .nil))) .nil), []⟩
def f_law_cell_at : Df := ⟨"_law_cell_at", 2, 2, (.cons (.cond (.cmpl .lt 1 (.bltv .len 0)) (.cons (.ret (.subv 0 (.var 1))) .nil) .nil) (.cons (.ret (.con (.int 0))) .nil)), []⟩
def f_law_pen : Df := ⟨"_law_pen", 1, 1, (.cons (.ret (.share (.lst (.cons (.var 0) (.cons (.blt .int (.cons (.cmpl .ge 0 (.bin .pow (.con (.int 10)) (.con (.int 18)))) .nil)) (.cons (.con (.int 0)) (.cons (.bin .mod (.var 0) (.con (.int 1000000007))) .nil))))))) .nil), []⟩
def f_law_draw : Df := ⟨"_law_draw", 2, 4, (.cons (.cond (.and (.cmp .eq (.subv 0 (.con (.int 1))) (.con (.int 1))) (.cmp .gt (.subv 0 (.con (.int 0))) (.con (.int 0)))) (.cons (.set 3 (.bin .mod (.subv 0 (.con (.int 0))) (.var 1))) (.cons (.setr (.var 0) (.con (.int 0)) (.bin .fdiv (.subv 0 (.con (.int 0))) (.var 1))) (.cons (.ret (.var 3)) .nil))) .nil) (.cons (.setr (.var 0) (.con (.int 2)) (.bin .add (.subv 0 (.con (.int 2))) (.con (.int 1)))) (.cons (.set 2 (.bin .mod (.bin .mul (.bin .add (.subv 0 (.con (.int 3))) (.con (.int 17))) (.bin .add (.con (.int 69621)) (.bin .mul (.con (.int 2)) (.subv 0 (.con (.int 2)))))) (.con (.int 2147483647)))) (.cons (.set 2 (.bin .mod (.bin .add (.bin .add (.bin .mul (.var 2) (.var 2)) (.bin .mul (.con (.int 40503)) (.subv 0 (.con (.int 2))))) (.con (.int 5))) (.con (.int 2147483629)))) (.cons (.ret (.bin .mod (.bin .fdiv (.bin .mod (.bin .mul (.var 2) (.con (.int 48271))) (.con (.int 2147483647))) (.con (.int 32))) (.var 1))) .nil))))), []⟩
def f_law_none : Df := ⟨"_law_none", 1, 2, (.cons (.set 1 (.lst (.cons (.isx "NoAlbums" yes_NoAlbums no_NoAlbums (.var 0)) (.cons (.isx "NoDeals" yes_NoDeals no_NoDeals (.var 0)) (.cons (.isx "NoExchange" yes_NoExchange no_NoExchange (.var 0)) .nil))))) (.cons (.set 1 (.bin .add (.var 1) (.lst (.cons (.isx "NoFriends" yes_NoFriends no_NoFriends (.var 0)) (.cons (.isx "NoList" yes_NoList no_NoList (.var 0)) (.cons (.isx "NoName" yes_NoName no_NoName (.var 0)) .nil)))))) (.cons (.set 1 (.bin .add (.var 1) (.lst (.cons (.isx "NoNumber" yes_NoNumber no_NoNumber (.var 0)) (.cons (.isx "NoOffers" yes_NoOffers no_NoOffers (.var 0)) (.cons (.isx "NoOwners" yes_NoOwners no_NoOwners (.var 0)) .nil)))))) (.cons (.set 1 (.bin .add (.var 1) (.lst (.cons (.isx "NoPaper" yes_NoPaper no_NoPaper (.var 0)) (.cons (.isx "NoPrices" yes_NoPrices no_NoPrices (.var 0)) (.cons (.isx "NoRow" yes_NoRow no_NoRow (.var 0)) .nil)))))) (.cons (.set 1 (.bin .add (.var 1) (.lst (.cons (.isx "NoSet" yes_NoSet no_NoSet (.var 0)) (.cons (.isx "NoSets" yes_NoSets no_NoSets (.var 0)) (.cons (.isx "NoStamp" yes_NoStamp no_NoStamp (.var 0)) .nil)))))) (.cons (.ret (.bin .add (.var 1) (.lst (.cons (.isx "NoStamps" yes_NoStamps no_NoStamps (.var 0)) (.cons (.isx "NoText" yes_NoText no_NoText (.var 0)) (.cons (.isx "NoWord" yes_NoWord no_NoWord (.var 0)) .nil)))))) .nil)))))), []⟩
def f_law_undone : Df := ⟨"_law_undone", 1, 2, (.cons (.set 1 (.lst (.cons (.isx "Missing" yes_Missing no_Missing (.var 0)) (.cons (.isx "NoPrice" yes_NoPrice no_NoPrice (.var 0)) (.cons (.isx "NothingDone" yes_NothingDone no_NothingDone (.var 0)) .nil))))) (.cons (.ret (.bin .add (.var 1) (.lst (.cons (.isx "Same" yes_Same no_Same (.var 0)) (.cons (.isx "Short" yes_Short no_Short (.var 0)) (.cons (.isx "Twice" yes_Twice no_Twice (.var 0)) .nil)))))) .nil)), []⟩
def f_law_right : Df := ⟨"_law_right", 2, 3, (.cons (.set 2 (.bin .add (.call "_law_none" (.cons (.var 0) .nil)) (.call "_law_undone" (.cons (.var 0) .nil)))) (.cons (.cond (.or (.cmp .ne (.lcnt 2 (.con (.bl true))) (.con (.int 1))) (.cmpv .ne (.lidx 2 (.con (.bl true))) 1)) (.cons (.ret (.con (.bl false))) .nil) .nil) (.cons (.cond (.or (.cmp .ne (.isx "NoThing" yes_NoThing no_NoThing (.var 0)) (.cmpl .lt 1 (.con (.int 18)))) (.cmp .ne (.isx "NotDone" yes_NotDone no_NotDone (.var 0)) (.cmpl .gt 1 (.con (.int 17))))) (.cons (.ret (.con (.bl false))) .nil) .nil) (.cons (.ret (.and (.isx "HingeError" yes_HingeError no_HingeError (.var 0)) (.isx "ValueError" yes_ValueError no_ValueError (.var 0)))) .nil)))), []⟩
def f_law : Df := ⟨"law", 1, 8, (.cons (.set 1 (.lst (.cons (.mkx "NoAlbums" (.con (.str "a"))) (.cons (.mkx "NoDeals" (.con (.str "a"))) (.cons (.mkx "NoExchange" (.con (.str "a"))) (.cons (.mkx "NoFriends" (.con (.str "a"))) (.cons (.mkx "NoList" (.con (.str "a"))) (.cons (.mkx "NoName" (.con (.str "a"))) (.cons (.mkx "NoNumber" (.con (.str "a"))) .nil))))))))) (.cons (.set 1 (.bin .add (.var 1) (.lst (.cons (.mkx "NoOffers" (.con (.str "a"))) (.cons (.mkx "NoOwners" (.con (.str "a"))) (.cons (.mkx "NoPaper" (.con (.str "a"))) (.cons (.mkx "NoPrices" (.con (.str "a"))) (.cons (.mkx "NoRow" (.con (.str "a"))) (.cons (.mkx "NoSet" (.con (.str "a"))) (.cons (.mkx "NoSets" (.con (.str "a"))) .nil)))))))))) (.cons (.set 1 (.bin .add (.var 1) (.lst (.cons (.mkx "NoStamp" (.con (.str "a"))) (.cons (.mkx "NoStamps" (.con (.str "a"))) (.cons (.mkx "NoText" (.con (.str "a"))) (.cons (.mkx "NoWord" (.con (.str "a"))) (.cons (.mkx "Missing" (.con (.str "a"))) (.cons (.mkx "NoPrice" (.con (.str "a"))) (.cons (.mkx "NothingDone" (.con (.str "a"))) .nil)))))))))) (.cons (.loop (.nm 2) (.rng1 (.blt .max2 (.cons (.con (.int 1)) (.cons (.blt .min2 (.cons (.bltv .len 0) (.cons (.con (.int 3)) .nil))) .nil)))) (.cons (.set 3 (.call "_law_draw" (.cons (.call "_law_pen" (.cons (.call "_law_cell_at" (.cons (.var 0) (.cons (.var 2) .nil))) .nil)) (.cons (.con (.int 99)) .nil)))) (.cons (.set 4 (.bin .add (.var 1) (.lst (.cons (.mkx "Same" (.con (.str "a"))) (.cons (.mkxf "Short" "by" (.var 3)) (.cons (.mkx "Twice" (.con (.str "a"))) .nil)))))) (.cons (.cond (.not (.blt .all (.cons (.comp (.call "_law_right" (.cons (.var 6) (.cons (.var 7) .nil))) (.tp (.cons (.nm 7) (.cons (.nm 6) .nil))) (.enm (.var 4)) .nil) .nil))) (.cons (.ret (.con (.bl false))) .nil) .nil) (.cons (.cond (.or (.cmpv .ne (.xfld "Short" "by" (.subv 4 (.con (.int 22)))) 3) (.cmp .ne (.xfld "Short" "by" (.mkxf "Short" "by" (.bin .add (.var 3) (.con (.int 1))))) (.bin .add (.var 3) (.con (.int 1))))) (.cons (.ret (.con (.bl false))) .nil) .nil) (.cons (.set 5 (.lst (.cons (.mkx "NoThing" (.con (.str "a"))) (.cons (.mkx "NotDone" (.con (.str "a"))) (.cons (.mkx "HingeError" (.con (.str "a"))) .nil))))) (.cons (.cond (.cmp .ne (.comp (.isx "NoThing" yes_NoThing no_NoThing (.var 6)) (.nm 6) (.seq (.var 5)) .nil) (.lst (.cons (.con (.bl true)) (.cons (.con (.bl false)) (.cons (.con (.bl false)) .nil))))) (.cons (.ret (.con (.bl false))) .nil) .nil) (.cons (.cond (.cmp .ne (.comp (.isx "NotDone" yes_NotDone no_NotDone (.var 6)) (.nm 6) (.seq (.var 5)) .nil) (.lst (.cons (.con (.bl false)) (.cons (.con (.bl true)) (.cons (.con (.bl false)) .nil))))) (.cons (.ret (.con (.bl false))) .nil) .nil) .nil)))))))) (.cons (.ret (.cmp .eq (.call "places_many" (.cons (.tup (.cons (.tup (.cons (.con (.str "a")) (.cons (.con (.int 1900)) (.cons (.con (.int 3)) .nil)))) (.cons (.tup (.cons (.con (.str "b")) (.cons (.con (.int 1900)) (.cons (.con (.int 2)) .nil)))) .nil))) .nil)) (.con (.int 5)))) .nil))))), []⟩
def r_places_many : Rw := ⟨⟨("places_many", none), "places_many", "places_many", defArgs (top 29), defBody (top 29), defScope (top 29), [], []⟩, f_places_many, ["book", "land", "year", "many"], []⟩
def r_law_cell_at : Rw := ⟨⟨("_law_cell_at", none), "_law_cell_at", "_law_cell_at", defArgs (top 31), defBody (top 31), defScope (top 31), [], []⟩, f_law_cell_at, ["_law_script", "_law_k"], []⟩
def r_law_pen : Rw := ⟨⟨("_law_pen", none), "_law_pen", "_law_pen", defArgs (top 32), defBody (top 32), defScope (top 32), [], []⟩, f_law_pen, ["_law_cell"], []⟩
def r_law_draw : Rw := ⟨⟨("_law_draw", none), "_law_draw", "_law_draw", defArgs (top 33), defBody (top 33), defScope (top 33), [], []⟩, f_law_draw, ["_law_pen_here", "_law_bound", "_law_stir", "_law_found"], []⟩
def r_law_none : Rw := ⟨⟨("_law_none", none), "_law_none", "_law_none", defArgs (top 34), defBody (top 34), defScope (top 34), [], []⟩, f_law_none, ["_law_one", "_law_found"], []⟩
def r_law_undone : Rw := ⟨⟨("_law_undone", none), "_law_undone", "_law_undone", defArgs (top 35), defBody (top 35), defScope (top 35), [], []⟩, f_law_undone, ["_law_one", "_law_found"], []⟩
def r_law_right : Rw := ⟨⟨("_law_right", none), "_law_right", "_law_right", defArgs (top 36), defBody (top 36), defScope (top 36), [], []⟩, f_law_right, ["_law_one", "_law_at", "_law_kinds"], []⟩
def r_law : Rw := ⟨⟨("law", none), "law", "law", defArgs (top 37), defBody (top 37), defScope (top 37), [], []⟩, f_law, ["_law_script", "_law_row", "_law_k", "_law_number", "_law_some", "_law_heads", "_law_one", "_law_at"], []⟩
def rows : List Rw := [r_places_many, r_law_cell_at, r_law_pen, r_law_draw, r_law_none, r_law_undone, r_law_right, r_law]
def xv : List (Str × List Str) := [("HingeError", ["HingeError", "ValueError"]), ("NoThing", ["NoThing", "HingeError", "ValueError"]), ("NotDone", ["NotDone", "HingeError", "ValueError"]), ("NoList", ["NoList", "NoThing", "HingeError", "ValueError"]), ("NoStamp", ["NoStamp", "NoThing", "HingeError", "ValueError"]), ("NoStamps", ["NoStamps", "NoThing", "HingeError", "ValueError"]), ("NoSet", ["NoSet", "NoThing", "HingeError", "ValueError"]), ("NoSets", ["NoSets", "NoThing", "HingeError", "ValueError"]), ("NoNumber", ["NoNumber", "NoThing", "HingeError", "ValueError"]), ("NoName", ["NoName", "NoThing", "HingeError", "ValueError"]), ("NoPrices", ["NoPrices", "NoThing", "HingeError", "ValueError"]), ("NoFriends", ["NoFriends", "NoThing", "HingeError", "ValueError"]), ("NoExchange", ["NoExchange", "NoThing", "HingeError", "ValueError"]), ("NoPaper", ["NoPaper", "NoThing", "HingeError", "ValueError"]), ("NoOffers", ["NoOffers", "NoThing", "HingeError", "ValueError"]), ("NoOwners", ["NoOwners", "NoThing", "HingeError", "ValueError"]), ("NoDeals", ["NoDeals", "NoThing", "HingeError", "ValueError"]), ("NoAlbums", ["NoAlbums", "NoThing", "HingeError", "ValueError"]), ("NoWord", ["NoWord", "NoThing", "HingeError", "ValueError"]), ("NoText", ["NoText", "NoThing", "HingeError", "ValueError"]), ("NoRow", ["NoRow", "NoThing", "HingeError", "ValueError"]), ("NoPrice", ["NoPrice", "NotDone", "HingeError", "ValueError"]), ("Twice", ["Twice", "NotDone", "HingeError", "ValueError"]), ("Missing", ["Missing", "NotDone", "HingeError", "ValueError"]), ("Same", ["Same", "NotDone", "HingeError", "ValueError"]), ("NothingDone", ["NothingDone", "NotDone", "HingeError", "ValueError"]), ("Short", ["Short", "NotDone", "HingeError", "ValueError"])]
def xw_Short : Xw := ⟨⟨("Short", some "__init__"), "__init__", "Short.__init__", defArgs (inClass (top 27) 0), defBody (inClass (top 27) 0), defScope (inClass (top 27) 0), [], []⟩, ["self", "by"], "Short", "by", "NotDone", "self", "by"⟩
def pr : Pr := ⟨rows, ["HingeError", "NotDone", "NoThing", "Twice", "Same", "NothingDone", "NoPrice", "Missing", "NoWord", "NoText", "NoStamps", "NoStamp", "NoSets", "NoSet", "NoRow", "NoPrices", "NoPaper", "NoOwners", "NoOffers", "NoNumber", "NoName", "NoList", "NoFriends", "NoExchange", "NoDeals", "NoAlbums"], [], [], [], [], [], [], [xw_Short], xv⟩
end K15
end

section
namespace K15
open PySem PySem.Spec PyProof.Rows L2
abbrev R : PySem.W.OpenRow := PySem.W.OpenLaw.row PySem.Challenge.rw_hingemount_k15_families_of_refusals
abbrev hk : PySem.W.Hook := Eng.hookM 6 pr
def ob (s : PySem.W.SharedT) : He.AlX := Eng.obsM 6 pr (HandSHeadRun.getT s)
theorem ob_eq (s : PySem.W.SharedT) : ob s = hk.obs s.abs := Eng.obsM_eq (HandSHeadRun.getT_eq s)
def names : List PySem.Str := ("HingeError" : PySem.Str) :: ("NoThing" : PySem.Str) :: ("NotDone" : PySem.Str) :: ("NoList" : PySem.Str) :: ("NoStamp" : PySem.Str) :: ("NoStamps" : PySem.Str) :: ("NoSet" : PySem.Str) :: ("NoSets" : PySem.Str) :: ("NoNumber" : PySem.Str) :: ("NoName" : PySem.Str) :: ("NoPrices" : PySem.Str) :: ("NoFriends" : PySem.Str) :: ("NoExchange" : PySem.Str) :: ("NoPaper" : PySem.Str) :: ("NoOffers" : PySem.Str) :: ("NoOwners" : PySem.Str) :: ("NoDeals" : PySem.Str) :: ("NoAlbums" : PySem.Str) :: ("NoWord" : PySem.Str) :: ("NoText" : PySem.Str) :: ("NoRow" : PySem.Str) :: ("NoPrice" : PySem.Str) :: ("Twice" : PySem.Str) :: ("Missing" : PySem.Str) :: ("Same" : PySem.Str) :: ("NothingDone" : PySem.Str) :: ("Short" : PySem.Str) :: ("places_many" : PySem.Str) :: ("_law_cell_at" : PySem.Str) :: ("_law_pen" : PySem.Str) :: ("_law_draw" : PySem.Str) :: ("_law_none" : PySem.Str) :: ("_law_undone" : PySem.Str) :: ("_law_right" : PySem.Str) :: []
theorem run (w : World) : HandSHeadRun.RunEq R (PySem.W.view R.prog [37]) hk ob 9000 names w := by
  intro os
  kernel_rfl
end K15
end

section
namespace Eng
open PySem PySem.Spec PyProof.Rows L2
theorem andJ {a b : Bool} (h : (a && b) = true) : a = true ∧ b = true := by rw [Bool.and_eq_true] at h; exact h
mutual
theorem same_of : ∀ (a b : D), D.same a b = true → a = b
  | .non, b, h => by cases b <;> first | rfl | exact nomatch h
  | .bl x, b, h => by
    cases b with
    | bl y => rw [of_decide_eq_true (show decide (x = y) = true from h)]
    | _ => exact nomatch h
  | .int x, b, h => by
    cases b with
    | int y => rw [of_decide_eq_true (show decide (x = y) = true from h)]
    | _ => exact nomatch h
  | .str x, b, h => by
    cases b with
    | str y => rw [of_decide_eq_true (show decide (x = y) = true from h)]
    | _ => exact nomatch h
  | .lst x, b, h => by
    cases b with
    | lst y => exact congrArg _ (sames_of x y h)
    | _ => exact nomatch h
  | .tup x, b, h => by
    cases b with
    | tup y => exact congrArg _ (sames_of x y h)
    | _ => exact nomatch h
  | .dic k x, b, h => by
    cases b with
    | dic l y =>
      obtain ⟨h1, h2⟩ := andJ (show (decide (k = l) && D.sames x y) = true from h)
      rw [of_decide_eq_true h1, sames_of x y h2]
    | _ => exact nomatch h
  | .dit k x, b, h => by
    cases b with
    | dit l y =>
      obtain ⟨h1, h2⟩ := andJ (show (decide (k = l) && D.sames x y) = true from h)
      rw [of_decide_eq_true h1, sames_of x y h2]
    | _ => exact nomatch h
  | .ref x, b, h => by
    cases b with
    | ref y => rw [of_decide_eq_true (show decide (x = y) = true from h)]
    | _ => exact nomatch h
  | .scr x, b, h => by
    cases b with
    | scr y => exact congrArg _ (sames_of x y h)
    | _ => exact nomatch h
theorem sames_of : ∀ (xs ys : List D), D.sames xs ys = true → xs = ys
  | [], ys, h => by cases ys <;> first | rfl | exact nomatch h
  | x :: xs, ys, h => by
    cases ys with
    | nil => exact nomatch h
    | cons y ys =>
      obtain ⟨h1, h2⟩ := andJ (show (D.same x y && D.sames xs ys) = true from h)
      rw [same_of x y h1, sames_of xs ys h2]
end
mutual
theorem same_rfl : ∀ (a : D), D.same a a = true
  | .non => rfl
  | .bl x => decide_eq_true rfl
  | .int x => decide_eq_true rfl
  | .str x => decide_eq_true rfl
  | .lst x => sames_rfl x
  | .tup x => sames_rfl x
  | .dic k x => by show (decide (k = k) && D.sames x x) = true; rw [sames_rfl x, decide_eq_true rfl]; rfl
  | .dit k x => by show (decide (k = k) && D.sames x x) = true; rw [sames_rfl x, decide_eq_true rfl]; rfl
  | .ref x => decide_eq_true rfl
  | .scr x => sames_rfl x
theorem sames_rfl : ∀ (xs : List D), D.sames xs xs = true
  | [] => rfl
  | x :: xs => by show (D.same x x && D.sames xs xs) = true; rw [same_rfl x, sames_rfl xs]; rfl
end
theorem sameL_of {d : D} {xs : List D} {S : Store} (h : sameL d xs S = true) : lstOf S d = some xs := by
  unfold sameL at h
  cases e : lstOf S d with
  | none => rw [e] at h; cases h
  | some ys => rw [e] at h; rw [sames_of ys xs h]
theorem sameL_t {d : D} {xs : List D} {S : Store} (h : lstOf S d = some xs) : sameL d xs S = true := by
  unfold sameL; rw [h]; exact sames_rfl xs
end Eng
end

section
namespace Eng
open PySem
theorem insI_perm (k : Int) : ∀ l : List Int, (insI k l).Perm (k :: l)
  | [] => .refl _
  | x :: xs => by
    unfold insI
    split
    · exact .refl _
    · exact ((insI_perm k xs).cons x).trans (.swap k x xs)
theorem srtI_perm : ∀ l : List Int, (srtI l).Perm l
  | [] => .refl _
  | x :: xs => (insI_perm x (srtI xs)).trans ((srtI_perm xs).cons x)
theorem insI_pw (k : Int) : ∀ {l : List Int}, l.Pairwise (· ≤ ·) → (insI k l).Pairwise (· ≤ ·)
  | [], _ => by unfold insI; exact List.pairwise_singleton _ _
  | x :: xs, h => by
    rw [List.pairwise_cons] at h
    unfold insI
    split
    · rename_i hk
      refine List.pairwise_cons.mpr ⟨fun y hy => ?_, List.pairwise_cons.mpr h⟩
      rcases List.mem_cons.mp hy with rfl | hy
      · exact hk
      · have := h.1 y hy; omega
    · rename_i hk
      refine List.pairwise_cons.mpr ⟨fun y hy => ?_, insI_pw k h.2⟩
      rcases List.mem_cons.mp ((insI_perm k xs).mem_iff.mp hy) with rfl | hy
      · omega
      · exact h.1 y hy
theorem srtI_pw : ∀ l : List Int, (srtI l).Pairwise (· ≤ ·)
  | [] => .nil
  | x :: xs => insI_pw x (srtI_pw xs)
theorem pw_eq : ∀ {a b : List Int}, a.Perm b → a.Pairwise (· ≤ ·) → b.Pairwise (· ≤ ·) → a = b
  | [], b, p, _, _ => (List.Perm.nil_eq p)
  | x :: a, [], p, _, _ => absurd p.length_eq (by simp)
  | x :: a, y :: b, p, ha, hb => by
    rw [List.pairwise_cons] at ha hb
    have e : x = y := by
      have h1 : x ∈ y :: b := p.mem_iff.mp List.mem_cons_self
      have h2 : y ∈ x :: a := p.mem_iff.mpr List.mem_cons_self
      rcases List.mem_cons.mp h1 with h1 | h1
      · exact h1
      · rcases List.mem_cons.mp h2 with h2 | h2
        · exact h2.symm
        · have := ha.1 y h2; have := hb.1 x h1; omega
    subst e
    rw [pw_eq (List.Perm.cons_inv p) ha.2 hb.2]
theorem srtI_one {a b : List Int} (p : a.Perm b) (h : a.Pairwise (· ≤ ·)) : a = srtI b := pw_eq (p.trans (srtI_perm b).symm) h (srtI_pw b)
end Eng
end

section
namespace Eng
open PySem PySem.Spec PyProof.Rows L2
section
variable {K : PySem.W.Frag} {mg : Str → Option Value} {g g' g2 : Gh} {H H' H2 : Hp} {fr fr' : Frame} {S S' : Store} {σ σ' : L2.St} {p a : Addr} {o : HO} {c c' : Cell} {d : D} {x : V} {i n : Nat}

theorem RD.tracked_lst {xs : List D} (h : RD K g H (.lst xs) x) : ∃ a vs, x = .ref a ∧ H a = some (.lst vs) ∧ ¬ g.av a ∧ RDs K g H xs vs := by
  cases h with
  | lst h n r => exact ⟨_, _, rfl, h, n, r⟩
theorem RD.of_tup {xs : List D} (h : RD K g H (.tup xs) x) : ∃ a vs, x = .ref a ∧ SqT K H a vs ∧ RDs K g H xs vs := by
  cases h with
  | tup h r => exact ⟨_, _, rfl, SqT.of h, r⟩
theorem RD.of_tupX {xs : List D} (h : RD K g H (.tup xs) x) : ∃ a vs, x = .ref a ∧ H a = some (.tup vs) ∧ RDs K g H xs vs := by
  cases h with
  | tup h r => exact ⟨_, _, rfl, h, r⟩
theorem RD.of_int {j : Int} (h : RD K g H (.int j) x) : x = .int j := by cases h; rfl
theorem RD.of_bl {j : Bool} (h : RD K g H (.bl j) x) : x = .bl j := by cases h; rfl
theorem RD.of_str {j : Str} (h : RD K g H (.str j) x) : x = .str j := by cases h; rfl
theorem RD.of_non (h : RD K g H .non x) : x = .non := by cases h; rfl
theorem RD.of_ref (h : RD K g H (.ref n) x) : ∃ a, x = .ref a ∧ g.rho[n]? = some a := by
  cases h with
  | ref h => exact ⟨_, rfl, h⟩
theorem RD.of_scr {xs : List D} (h : RD K g H (.scr xs) x) : ∃ a vs, x = .ref a ∧ SqL K H a vs ∧ RDs K g H xs vs := by
  cases h with
  | scr h r =>
    rcases h with ⟨h, _⟩ | h
    · exact ⟨_, _, rfl, .inl h, r⟩
    · exact ⟨_, _, rfl, h _, r⟩
theorem RD.of_dic {ks : List Key} {xs : List D} (h : RD K g H (.dic ks xs) x) : ∃ a vs, x = .ref a ∧ H a = some (.dK (ks.zip vs)) ∧ ks.length = vs.length ∧ ¬ g.av a ∧ RDs K g H xs vs := by
  cases h with
  | dic h l n r => exact ⟨_, _, rfl, h, l, n, r⟩

theorem RD.of_dit {ks : List (List Key)} {xs : List D} (h : RD K g H (.dit ks xs) x) : ∃ a vs, x = .ref a ∧ H a = some (.dT (ks.zip vs)) ∧ ks.length = vs.length ∧ ¬ g.av a ∧ RDs K g H xs vs := by
  cases h with
  | dit h l n r => exact ⟨_, _, rfl, h, l, n, r⟩

theorem StR.fresh (r : StR K mg g S H) (hp : H p = none) : ¬ g.av p := fun z => by
  obtain ⟨o, e⟩ := r.tr p z
  rw [hp] at e; cases e
abbrev Gh.push (g : Gh) (p : Addr) : Gh := { g with tmp := p :: g.tmp }
theorem mono_push (hp : H p = none) : Mono K g H (g.push p) (upd H p o) := by
  refine ⟨fun a u e n => ⟨by rw [upd_ne (ne_of_none e hp)]; exact e, fun z => ?_⟩, fun a xs e => ?_, fun _ _ z => z⟩
  · rcases z with z | z | z
    · exact n (.inl z)
    · exact n (.inr (.inl z))
    · rcases List.mem_cons.mp z with z | z
      · exact ne_of_none e hp z
      · exact n (.inr (.inr z))
  · rw [upd_ne (ne_of_none e hp)]; exact e
theorem keep_push (hp : H p = none) : Keep g H (g.push p) (upd H p o) := by
  refine ⟨fun a u e n m => ⟨by rw [upd_ne (ne_of_none e hp)]; exact e, n, m⟩, fun a u e n m t => ?_, fun a xs e => ?_, fun _ _ z => z⟩
  · rcases List.mem_cons.mp t with z | z
    · exact absurd z (ne_of_none e hp)
    · exact z
  · rw [upd_ne (ne_of_none e hp)]; exact e
theorem SlotR.mono (m : Mono K g H g' H') (ho : ∀ a, a ∈ g.own → a ∈ g'.own ∧ H' a = H a) {v : Val} (h : SlotR K mg g H x v) : SlotR K mg g' H' x v := by
  cases v with
  | fz d => exact RD.mono m h
  | own c => obtain ⟨a, e, m', r⟩ := h; exact ⟨a, e, (ho a m').1, r.mono m (ho a m').2⟩
theorem Rel.push (r : Rel K mg g fr S σ H) (hp : H p = none) : Rel K mg (g.push p) fr S σ (upd H p o) := by
  have np := r.st.fresh hp
  refine ⟨r.len, fun i v e => ?_, r.apart, ⟨r.st.len, r.st.nd, fun n c a e q => ?_, fun a z => ⟨(r.st.rt a z).1, fun t => ?_⟩, fun a z t => ?_, fun a z => ?_⟩⟩
  · obtain ⟨x, e1, s⟩ := r.slot i v e
    refine ⟨x, e1, s.mono (mono_push hp) fun a z => ⟨z, ?_⟩⟩
    obtain ⟨u, e2⟩ := r.st.tr a (.inr (.inl z))
    rw [upd_ne (ne_of_none e2 hp)]
  · obtain ⟨u, e2⟩ := r.st.tr a (.inl (List.mem_of_getElem? q))
    exact (r.st.cell n c a e q).mono (mono_push hp) (by rw [upd_ne (ne_of_none e2 hp)])
  · rcases List.mem_cons.mp t with t | t
    · exact np (.inl (t ▸ z))
    · exact (r.st.rt a z).2 t
  · rcases List.mem_cons.mp t with t | t
    · exact np (.inr (.inl (t ▸ z)))
    · exact r.st.ot a z t
  · by_cases e : a = p
    · subst e; exact ⟨o, upd_same⟩
    · rw [upd_ne e]
      refine r.st.tr a ?_
      rcases z with z | z | z
      · exact .inl z
      · exact .inr (.inl z)
      · rcases List.mem_cons.mp z with t | t
        · exact absurd t e
        · exact .inr (.inr t)
theorem Rel.drop {t : List Addr} (r : Rel K mg g fr S σ H) (h : ∀ a, a ∈ t → a ∈ g.tmp) : Rel K mg { g with tmp := t } fr S σ H := by
  have m : Mono K g H { g with tmp := t } H := Mono.less (fun a z => by
    rcases z with z | z | z
    · exact .inl z
    · exact .inr (.inl z)
    · exact .inr (.inr (h a z))) fun _ _ z => z
  refine ⟨r.len, fun i v e => let ⟨x, e1, s⟩ := r.slot i v e; ⟨x, e1, s.mono m fun a z => ⟨z, rfl⟩⟩, r.apart, ⟨r.st.len, r.st.nd, fun n c a e q => (r.st.cell n c a e q).mono m rfl, fun a z => ⟨(r.st.rt a z).1, fun w => (r.st.rt a z).2 (h a w)⟩, fun a z w => r.st.ot a z (h a w), fun a z => r.st.tr a ?_⟩⟩
  rcases z with z | z | z
  · exact .inl z
  · exact .inr (.inl z)
  · exact .inr (.inr (h a z))
theorem mono_drop {t : List Addr} (h : ∀ a, a ∈ t → a ∈ g.tmp) : Mono K g H { g with tmp := t } H := Mono.less (fun a z => by
    rcases z with z | z | z
    · exact .inl z
    · exact .inr (.inl z)
    · exact .inr (.inr (h a z))) fun _ _ z => z
theorem Rel.setFz (r : Rel K mg g fr S σ H) (h : RD K g H d x) : Rel K mg g (fr.set i (some (.fz d))) S (σ.set i (some x)) H := by
  refine ⟨by rw [List.length_set, List.length_set]; exact r.len, fun j v e => ?_, fun j k c c' a ne e1 e2 e3 => ?_, r.st⟩
  · by_cases hj : i = j
    · subst hj
      have hl : i < (fr.set i (some (Val.fz d))).length := (List.getElem?_eq_some_iff.mp e).1
      rw [List.length_set] at hl
      rw [List.getElem?_set_self hl] at e
      cases e
      exact ⟨x, List.getElem?_set_self (by rw [← r.len]; exact hl), h⟩
    · rw [List.getElem?_set_ne hj] at e
      obtain ⟨y, e1, s⟩ := r.slot j v e
      exact ⟨y, by rw [List.getElem?_set_ne hj]; exact e1, s⟩
  · have nj : i ≠ j := fun z => by
      subst z
      have hl : i < (fr.set i (some (Val.fz d))).length := (List.getElem?_eq_some_iff.mp e1).1
      rw [List.length_set] at hl
      rw [List.getElem?_set_self hl] at e1; cases e1
    have nk : i ≠ k := fun z => by
      subst z
      have hl : i < (fr.set i (some (Val.fz d))).length := (List.getElem?_eq_some_iff.mp e2).1
      rw [List.length_set] at hl
      rw [List.getElem?_set_self hl] at e2; cases e2
    rw [List.getElem?_set_ne nj] at e1 e3
    rw [List.getElem?_set_ne nk] at e2
    rw [List.getElem?_set_ne nk]
    exact r.apart j k c c' a ne e1 e2 e3
theorem Rel.setNone (r : Rel K mg g fr S σ H) : Rel K mg g (fr.set i none) S σ H := by
  refine ⟨by rw [List.length_set]; exact r.len, fun j v e => ?_, fun j k c c' a ne e1 e2 e3 => ?_, r.st⟩
  · by_cases hj : i = j
    · subst hj
      have hl : i < (fr.set i (none : Option Val)).length := (List.getElem?_eq_some_iff.mp e).1
      rw [List.length_set] at hl
      rw [List.getElem?_set_self hl] at e; cases e
    · rw [List.getElem?_set_ne hj] at e
      exact r.slot j v e
  · have nj : i ≠ j := fun z => by
      subst z
      have hl : i < (fr.set i (none : Option Val)).length := (List.getElem?_eq_some_iff.mp e1).1
      rw [List.length_set] at hl
      rw [List.getElem?_set_self hl] at e1; cases e1
    have nk : i ≠ k := fun z => by
      subst z
      have hl : i < (fr.set i (none : Option Val)).length := (List.getElem?_eq_some_iff.mp e2).1
      rw [List.length_set] at hl
      rw [List.getElem?_set_self hl] at e2; cases e2
    rw [List.getElem?_set_ne nj] at e1
    rw [List.getElem?_set_ne nk] at e2
    exact r.apart j k c c' a ne e1 e2 e3
theorem Rel.setNoneV (r : Rel K mg g fr S σ H) : Rel K mg g (fr.set i none) S (σ.set i none) H := by
  have q := r.setNone (i := i)
  refine ⟨by rw [List.length_set, List.length_set]; exact r.len, fun j v e => ?_, fun j k c c' a ne e1 e2 e3 => ?_, r.st⟩
  · have hj : i ≠ j := fun hj => by
      subst hj
      have hl : i < (fr.set i (none : Option Val)).length := (List.getElem?_eq_some_iff.mp e).1
      rw [List.length_set] at hl
      rw [List.getElem?_set_self hl] at e; cases e
    obtain ⟨y, e1, s⟩ := q.slot j v e
    exact ⟨y, by rw [List.getElem?_set_ne hj]; exact e1, s⟩
  · have nj : i ≠ j := fun z => by
      subst z
      have hl : i < (fr.set i (none : Option Val)).length := (List.getElem?_eq_some_iff.mp e1).1
      rw [List.length_set] at hl
      rw [List.getElem?_set_self hl] at e1; cases e1
    have nk : i ≠ k := fun z => by
      subst z
      have hl : i < (fr.set i (none : Option Val)).length := (List.getElem?_eq_some_iff.mp e2).1
      rw [List.length_set] at hl
      rw [List.getElem?_set_self hl] at e2; cases e2
    rw [List.getElem?_set_ne nj] at e3
    rw [List.getElem?_set_ne nk]
    exact q.apart j k c c' a ne e1 e2 e3
theorem Rel.setOwn {t : List Addr} (r : Rel K mg g fr S σ H) (ht : g.tmp = a :: t) (na : a ∉ t) (hc : CellR K mg g H a c) :
    Rel K mg ⟨g.rho, a :: g.own, t⟩ (fr.set i (some (.own c))) S (σ.set i (some (.ref a))) H := by
  have m : Mono K g H ⟨g.rho, a :: g.own, t⟩ H := Mono.less (fun b z => by
    rcases z with z | z | z
    · exact .inl z
    · rcases List.mem_cons.mp z with z | z
      · exact .inr (.inr (by rw [ht, z]; exact List.mem_cons_self))
      · exact .inr (.inl z)
    · exact .inr (.inr (by rw [ht]; exact List.mem_cons_of_mem _ z))) fun _ _ z => z
  have nown : a ∉ g.own := fun z => r.st.ot a z (by rw [ht]; exact List.mem_cons_self)
  have nrho : a ∉ g.rho := fun z => (r.st.rt a z).2 (by rw [ht]; exact List.mem_cons_self)
  have own_at : ∀ (j : Nat) c' b, fr[j]? = some (some (.own c')) → σ[j]? = some (some (.ref b)) → b ∈ g.own := fun j c' b e1 e2 => by
    obtain ⟨y, e3, s⟩ := r.slot j _ e1
    obtain ⟨b', e4, hb, _⟩ := s
    rw [e2] at e3; cases e3; cases e4; exact hb
  refine ⟨by rw [List.length_set, List.length_set]; exact r.len, fun j v e => ?_, fun j k c1 c2 b ne e1 e2 e3 => ?_, ⟨r.st.len, r.st.nd, fun n c' b e q => (r.st.cell n c' b e q).mono m rfl, fun b z => ⟨fun w => ?_, fun w => ?_⟩, fun b z w => ?_, fun b z => ?_⟩⟩
  · by_cases hj : i = j
    · subst hj
      have hl : i < (fr.set i (some (Val.own c))).length := (List.getElem?_eq_some_iff.mp e).1
      rw [List.length_set] at hl
      rw [List.getElem?_set_self hl] at e
      cases e
      exact ⟨.ref a, List.getElem?_set_self (by rw [← r.len]; exact hl), a, rfl, List.mem_cons_self, hc.mono m rfl⟩
    · rw [List.getElem?_set_ne hj] at e
      obtain ⟨y, e1, s⟩ := r.slot j v e
      exact ⟨y, by rw [List.getElem?_set_ne hj]; exact e1, s.mono m fun b z => ⟨List.mem_cons_of_mem _ z, rfl⟩⟩
  · by_cases hj : i = j
    · subst hj
      have hl : i < (fr.set i (some (Val.own c))).length := (List.getElem?_eq_some_iff.mp e1).1
      rw [List.length_set] at hl
      rw [List.getElem?_set_self (by rw [← r.len]; exact hl)] at e3
      cases e3
      rw [List.getElem?_set_ne ne] at e2 ⊢
      exact fun z => nown (own_at k c2 a e2 z)
    · rw [List.getElem?_set_ne hj] at e1 e3
      by_cases hk : i = k
      · subst hk
        have hl : i < (fr.set i (some (Val.own c))).length := (List.getElem?_eq_some_iff.mp e2).1
        rw [List.length_set] at hl
        rw [List.getElem?_set_self (by rw [← r.len]; exact hl)]
        intro z
        cases z
        exact nown (own_at j c1 a e1 e3)
      · rw [List.getElem?_set_ne hk] at e2 ⊢
        exact r.apart j k c1 c2 b ne e1 e2 e3
  · rcases List.mem_cons.mp w with w | w
    · exact nrho (w ▸ z)
    · exact (r.st.rt b z).1 w
  · exact (r.st.rt b z).2 (by rw [ht]; exact List.mem_cons_of_mem _ w)
  · rcases List.mem_cons.mp z with z | z
    · exact na (z ▸ w)
    · exact r.st.ot b z (by rw [ht]; exact List.mem_cons_of_mem _ w)
  · refine r.st.tr b ?_
    rcases z with z | z | z
    · exact .inl z
    · rcases List.mem_cons.mp z with z | z
      · exact .inr (.inr (by rw [ht, z]; exact List.mem_cons_self))
      · exact .inr (.inl z)
    · exact .inr (.inr (by rw [ht]; exact List.mem_cons_of_mem _ z))
theorem Rel.freeze (r : Rel K mg g fr S σ H) (e : fr[i]? = some (some (.own c))) (hc : c.frz = some d) (hs : σ[i]? = some (some x)) :
    ∃ g', Keep g H g' H ∧ Rel K mg g' (fr.set i (some (.fz d))) S σ H ∧ g'.tmp = g.tmp ∧ RD K g' H d x := by
  obtain ⟨y, e1, b, e2, hb, hcell⟩ := r.slot i _ e
  rw [hs] at e1; cases e1; subst e2
  let g' : Gh := ⟨g.rho, g.own.filter fun z => decide (z ≠ b), g.tmp⟩
  have mem' : ∀ z, z ∈ g'.own ↔ z ∈ g.own ∧ z ≠ b := fun z => by
    show z ∈ g.own.filter _ ↔ _
    rw [List.mem_filter, decide_eq_true_iff]
  have m : Mono K g H g' H := Mono.less (fun z w => by
    rcases w with w | w | w
    · exact .inl w
    · exact .inr (.inl ((mem' z).mp w).1)
    · exact .inr (.inr w)) fun _ _ z => z
  have nb : ¬ g'.av b := fun w => by
    rcases w with w | w | w
    · exact (r.st.rt b w).1 hb
    · exact ((mem' b).mp w).2 rfl
    · exact r.st.ot b hb w
  have hd : RD K g' H d (.ref b) := by
    cases c with
    | lst xs => cases hc; obtain ⟨vs, h1, h2⟩ := hcell; exact .lst h1 nb (h2.mono m)
    | dK ks xs => cases hc; obtain ⟨vs, h1, h2, h3⟩ := hcell; exact .dic h1 h2 nb (h3.mono m)
    | dT ks xs => cases hc; obtain ⟨vs, h1, h2, h3⟩ := hcell; exact .dit h1 h2 nb (h3.mono m)
    | ins c ns xs => cases hc
    | tab f => cases hc
    | exn c ns xs => cases hc
  refine ⟨g', ⟨fun a o h n w => ⟨h, n, fun z => w ((mem' a).mp z).1⟩, fun _ _ _ _ _ z => z, fun _ _ z => z, fun _ _ z => z⟩, ?_, rfl, hd⟩
  have r1 : Rel K mg g' (fr.set i none) S σ H := by
    have q := r.setNone (i := i)
    refine ⟨q.len, fun j v ej => ?_, q.apart, ⟨r.st.len, r.st.nd, fun n c' a' e' q' => (r.st.cell n c' a' e' q').mono m rfl, fun z w => ⟨fun t => (r.st.rt z w).1 ((mem' z).mp t).1, (r.st.rt z w).2⟩, fun z w => r.st.ot z ((mem' z).mp w).1, fun z w => r.st.tr z ?_⟩⟩
    · have hj : i ≠ j := fun hj => by
        subst hj
        have hl : i < (fr.set i (none : Option Val)).length := (List.getElem?_eq_some_iff.mp ej).1
        rw [List.length_set] at hl
        rw [List.getElem?_set_self hl] at ej; cases ej
      rw [List.getElem?_set_ne hj] at ej
      obtain ⟨y, e1, s⟩ := r.slot j v ej
      refine ⟨y, e1, ?_⟩
      cases v with
      | fz d' => exact RD.mono m s
      | own c' =>
        obtain ⟨b', e2, hb', hc'⟩ := s
        refine ⟨b', e2, (mem' b').mpr ⟨hb', fun z => ?_⟩, hc'.mono m rfl⟩
        subst z; subst e2
        exact r.apart i j c c' b' hj e ej hs e1
    · rcases w with w | w | w
      · exact .inl w
      · exact .inr (.inl ((mem' z).mp w).1)
      · exact .inr (.inr w)
  have r2 := r1.setFz (i := i) hd
  have hl : i < fr.length := (List.getElem?_eq_some_iff.mp e).1
  rw [List.set_set] at r2
  have es : σ.set i (some (V.ref b)) = σ := by
    apply List.ext_getElem?
    intro j
    by_cases hj : i = j
    · subst hj
      rw [List.getElem?_set_self (by rw [← r.len]; exact hl), hs]
    · rw [List.getElem?_set_ne hj]
  rw [es] at r2
  exact r2
theorem Rel.mutS (r : Rel K mg g fr S σ H) (e : S[n]? = some c) (hs : g.rho[n]? = some a) (hc : ∀ g2 H2, Mono K g H g2 H2 → H2 a = some o → CellR K mg g2 H2 a c') :
    Keep g H g (upd H a o) ∧ Rel K mg g fr (S.set n c') σ (upd H a o) := by
  have hcell := r.st.cell n c a e hs
  obtain ⟨o0, ho0, mu⟩ := hcell.some_of
  have hb : a ∈ g.rho := List.mem_of_getElem? hs
  have tups : ∀ z xs, H z = some (.tup xs) → upd H a o z = some (.tup xs) := fun z xs h => by
    have nz : z ≠ a := fun w => by
      subst w
      rw [ho0] at h; exact mu _ (Option.some.inj h)
    rw [upd_ne nz]; exact h
  have m : Mono K g H g (upd H a o) := ⟨fun z u h n => ⟨by rw [upd_ne (fun (w : z = a) => n (.inl (w ▸ hb)))]; exact h, n⟩, tups, fun _ _ z => z⟩
  have hl : n < S.length := (List.getElem?_eq_some_iff.mp e).1
  refine ⟨⟨fun z u h n w => ⟨by rw [upd_ne (fun (q : z = a) => n (q ▸ hb))]; exact h, n, w⟩, fun _ _ _ _ _ z => z, tups, fun _ _ z => z⟩, ?_⟩
  refine ⟨r.len, fun j v ej => ?_, r.apart, ⟨by rw [List.length_set]; exact r.st.len, r.st.nd, fun k c1 b' e' q' => ?_, r.st.rt, r.st.ot, fun z w => ?_⟩⟩
  · obtain ⟨y, f1, s⟩ := r.slot j v ej
    refine ⟨y, f1, s.mono m fun z w => ⟨w, ?_⟩⟩
    rw [upd_ne]
    intro q; subst q
    exact (r.st.rt z hb).1 w
  · by_cases hk : n = k
    · subst hk
      rw [List.getElem?_set_self hl] at e'
      cases e'
      rw [hs] at q'; cases q'
      exact hc g _ m upd_same
    · rw [List.getElem?_set_ne hk] at e'
      refine (r.st.cell k c1 b' e' q').mono m ?_
      rw [upd_ne]
      intro z; subst z
      obtain ⟨h1, e1⟩ := List.getElem?_eq_some_iff.mp hs
      obtain ⟨h2, e2⟩ := List.getElem?_eq_some_iff.mp q'
      exact hk ((List.getElem_inj r.st.nd).mp (e1.trans e2.symm))
  · by_cases hz : z = a
    · subst hz; exact ⟨o, upd_same⟩
    · rw [upd_ne hz]; exact r.st.tr z w
theorem Rel.share {t : List Addr} (r : Rel K mg g fr S σ H) (ht : g.tmp = a :: t) (na : a ∉ t) (hc : CellR K mg g H a c) :
    Rel K mg ⟨g.rho ++ [a], g.own, t⟩ fr (S ++ [c]) σ H := by
  have nrho : a ∉ g.rho := fun z => (r.st.rt a z).2 (by rw [ht]; exact List.mem_cons_self)
  have nown : a ∉ g.own := fun z => r.st.ot a z (by rw [ht]; exact List.mem_cons_self)
  have av : ∀ b, Gh.av ⟨g.rho ++ [a], g.own, t⟩ b → g.av b := fun b z => by
    rcases z with z | z | z
    · rcases List.mem_append.mp z with z | z
      · exact .inl z
      · exact .inr (.inr (by rw [ht, List.mem_singleton.mp z]; exact List.mem_cons_self))
    · exact .inr (.inl z)
    · exact .inr (.inr (by rw [ht]; exact List.mem_cons_of_mem _ z))
  have m : Mono K g H ⟨g.rho ++ [a], g.own, t⟩ H := Mono.less av fun k b z => by
    show (g.rho ++ [a])[k]? = some b
    rw [List.getElem?_append_left (List.getElem?_eq_some_iff.mp z).1]
    exact z
  refine ⟨r.len, fun j v e => let ⟨y, e1, s⟩ := r.slot j v e; ⟨y, e1, s.mono m fun b z => ⟨z, rfl⟩⟩, r.apart, ⟨by show (g.rho ++ [a]).length = _; rw [List.length_append, List.length_append, r.st.len]; rfl, ?_, fun k c1 b e q => ?_, fun b z => ?_, fun b z w => r.st.ot b z (by rw [ht]; exact List.mem_cons_of_mem _ w), fun b z => r.st.tr b (av b z)⟩⟩
  · show (g.rho ++ [a]).Nodup
    rw [List.nodup_append]
    refine ⟨r.st.nd, by simp, fun x hx y hy => ?_⟩
    rw [List.mem_singleton.mp hy]
    exact fun z => nrho (z ▸ hx)
  · have q' : (g.rho ++ [a])[k]? = some b := q
    by_cases hk : k < S.length
    · rw [List.getElem?_append_left hk] at e
      rw [List.getElem?_append_left (by rw [r.st.len]; exact hk)] at q'
      exact (r.st.cell k c1 b e q').mono m rfl
    · have hk' : k = S.length := by
        have h1 := (List.getElem?_eq_some_iff.mp e).1
        rw [List.length_append, List.length_singleton] at h1
        omega
      subst hk'
      rw [List.getElem?_append_right (Nat.le_refl _)] at e
      simp at e
      subst e
      rw [List.getElem?_append_right (by rw [r.st.len]; exact Nat.le_refl _), r.st.len] at q'
      simp at q'
      subst q'
      exact hc.mono m rfl
  · have z' : b ∈ g.rho ++ [a] := z
    rcases List.mem_append.mp z' with w | w
    · exact ⟨(r.st.rt b w).1, fun q => (r.st.rt b w).2 (by rw [ht]; exact List.mem_cons_of_mem _ q)⟩
    · rw [List.mem_singleton.mp w]
      exact ⟨nown, na⟩
theorem keep_share {t : List Addr} (ht : g.tmp = a :: t) (na : a ∉ t) : ∀ {H0 : Hp} {g0 : Gh}, g0.tmp = t → Keep g0 H0 g H → Keep g0 H0 ⟨g.rho ++ [a], g.own, t⟩ H := fun {H0 g0} e k =>
  ⟨fun b o h h1 h2 => by
    obtain ⟨q1, q2, q3⟩ := k.keep b o h h1 h2
    refine ⟨q1, fun z => ?_, q3⟩
    rcases List.mem_append.mp z with z | z
    · exact q2 z
    · rw [List.mem_singleton.mp z] at h h1 h2
      have := k.tmp a o h h1 h2 (by rw [ht]; exact List.mem_cons_self)
      rw [e] at this
      exact na this, fun b o h h1 h2 z => by rw [e]; exact z, k.tups, fun m b z => by
    show (g.rho ++ [a])[m]? = some b
    have z' := k.pre m b z
    rw [List.getElem?_append_left (List.getElem?_eq_some_iff.mp z').1]
    exact z'⟩
theorem Rel.mutT (r : Rel K mg g fr S σ H) (ht : a ∈ g.tmp) {vs : List V} (h0 : H a = some (.lst vs)) : Mono K g H g (upd H a o) ∧ Rel K mg g fr S σ (upd H a o) := by
  have tups : ∀ z xs, H z = some (.tup xs) → upd H a o z = some (.tup xs) := fun z xs h => by
    have nz : z ≠ a := fun w => by
      subst w
      rw [h0] at h; cases h
    rw [upd_ne nz]; exact h
  have m : Mono K g H g (upd H a o) := ⟨fun z u h n => ⟨by rw [upd_ne (fun (w : z = a) => n (.inr (.inr (w ▸ ht))))]; exact h, n⟩, tups, fun _ _ z => z⟩
  refine ⟨m, r.len, fun j v ej => ?_, r.apart, ⟨r.st.len, r.st.nd, fun n c1 b' e' q' => (r.st.cell n c1 b' e' q').mono m ?_, r.st.rt, r.st.ot, fun z w => ?_⟩⟩
  · obtain ⟨y, f1, s⟩ := r.slot j v ej
    refine ⟨y, f1, s.mono m fun z w => ⟨w, ?_⟩⟩
    rw [upd_ne]
    intro q; subst q
    exact r.st.ot z w ht
  · rw [upd_ne]
    intro z
    exact (r.st.rt b' (List.mem_of_getElem? q')).2 (z ▸ ht)
  · by_cases hz : z = a
    · subst hz; exact ⟨o, upd_same⟩
    · rw [upd_ne hz]; exact r.st.tr z w
end
end Eng
end

section
namespace Eng
open PySem PySem.Spec PyProof.Rows L2

def XR (K : PySem.W.Frag) (mg : Str → Option Value) (g : Gh) (H : Hp) (e : Ex) (cls : Value) (d : Option Addr) : Prop :=
  mg e.c = some cls ∧ ∃ vs, RDs K g H e.vs vs ∧ e.ns.length = vs.length ∧ match e.ns with
    | [] => d = none
    | _ => ∃ a, d = some a ∧ H a = some (.xd (e.ns.zip vs))

def Aft {α β : Type} (K : PySem.W.Frag) (mg : Str → Option Value) (W : WX) (R : List Addr → Gh → Hp → α → β → Prop) (g : Gh) (H : Hp) (σ : L2.St) (r : RX α) (Q : β → Hp → Prop) : Prop := match r with
  | .ok a fr' S' => ∀ g' H' b, Keep g H g' H' → Rel K mg g' fr' S' σ H' → R g.tmp g' H' a b → Q b H'
  | .ex e fr' S' => ∀ g' H' c d, Keep g H g' H' → Rel K mg g' fr' S' σ H' → g'.tmp = g.tmp → XR K mg g' H' e c d → W c d σ H'
  | .no => False
def rD (K : PySem.W.Frag) : List Addr → Gh → Hp → D → V → Prop := fun t g H d x => g.tmp = t ∧ RD K g H d x
def rDs (K : PySem.W.Frag) : List Addr → Gh → Hp → List D → List V → Prop := fun t g H d x => g.tmp = t ∧ RDs K g H d x
def rId {α : Type} : List Addr → Gh → Hp → α → α → Prop := fun t g _ a b => g.tmp = t ∧ a = b
def rV (K : PySem.W.Frag) (mg : Str → Option Value) : List Addr → Gh → Hp → Val → V → Prop := fun t g H v x => match v with
  | .fz d => g.tmp = t ∧ RD K g H d x
  | .own c => ∃ a, x = .ref a ∧ g.tmp = a :: t ∧ a ∉ t ∧ CellR K mg g H a c
def tX {α β : Type} (K : PySem.W.Frag) (mg : Str → Option Value) (W : WX) (R : List Addr → Gh → Hp → α → β → Prop) (f : Frame → Store → RX α) : L2.St → Hp → (β → Hp → Prop) → Prop := fun σ H Q =>
  ∃ g fr S, Rel K mg g fr S σ H ∧ Aft K mg W R g H σ (f fr S) Q

section
variable {K : PySem.W.Frag} {mg : Str → Option Value} {W : WX} {g g1 : Gh} {H H1 : Hp} {σ : L2.St} {α β γ δ : Type} {R : List Addr → Gh → Hp → α → β → Prop} {R2 : List Addr → Gh → Hp → γ → δ → Prop}
theorem Aft.imp {r : RX α} {Q Q' : β → Hp → Prop} (h : Aft K mg W R g H σ r Q) (i : ∀ b H', Q b H' → Q' b H') : Aft K mg W R g H σ r Q' := by
  cases r with
  | ok a fr S => exact fun g' H' b k e q => i b H' (h g' H' b k e q)
  | ex e fr S => exact h
  | no => exact h
theorem Aft.shift {r : RX α} {Q : β → Hp → Prop} (k : Keep g H g1 H1) (t : g1.tmp = g.tmp) (h : Aft K mg W R g H σ r Q) : Aft K mg W R g1 H1 σ r Q := by
  cases r with
  | ok a fr S => exact fun g' H' b k' e q => h g' H' b (k.trans k') e (by rw [← t]; exact q)
  | ex e fr S => exact fun g' H' c d k' e t' q => h g' H' c d (k.trans k') e (t'.trans t) q
  | no => exact h
theorem Aft.bind {r : RX α} {k : α → Frame → Store → RX γ} {Q : δ → Hp → Prop} (hR : ∀ t g H a b, R t g H a b → g.tmp = t) (h : Aft K mg W R2 g H σ (r.bind k) Q) :
    Aft K mg W R g H σ r (fun b H1 => ∃ a fr1 S1 g1, Keep g H g1 H1 ∧ Rel K mg g1 fr1 S1 σ H1 ∧ R g1.tmp g1 H1 a b ∧ g1.tmp = g.tmp ∧ Aft K mg W R2 g1 H1 σ (k a fr1 S1) Q) := by
  cases r with
  | ok a fr S => exact fun g' H' b k' e q => ⟨a, fr, S, g', k', e, by rw [hR _ _ _ _ _ q]; exact q, hR _ _ _ _ _ q, Aft.shift k' (hR _ _ _ _ _ q) h⟩
  | ex e fr S => exact h
  | no => exact h
theorem rD_tmp : ∀ t g H a b, rD K t g H a b → g.tmp = t := fun _ _ _ _ _ h => h.1
theorem rDs_tmp : ∀ t g H a b, rDs K t g H a b → g.tmp = t := fun _ _ _ _ _ h => h.1
theorem rId_tmp : ∀ t g H (a b : α), rId t g H a b → g.tmp = t := fun _ _ _ _ _ h => h.1
theorem Aft.frz {r : RX Val} {Q : V → Hp → Prop} (h : Aft K mg W (rD K) g H σ (frzX r) Q) : Aft K mg W (rV K mg) g H σ r Q := by
  cases r with
  | ok v fr S =>
    intro g' H' x k e q
    cases v with
    | fz d => exact h g' H' x k e q
    | own c =>
      obtain ⟨a, rfl, ht, na, hc⟩ := q
      have sub : ∀ z, z ∈ g.tmp → z ∈ g'.tmp := fun z hz => by rw [ht]; exact List.mem_cons_of_mem _ hz
      have e' := e.drop (t := g.tmp) sub
      have m : Mono K g' H' { g' with tmp := g.tmp } H' := mono_drop sub
      have k' : Keep g H { g' with tmp := g.tmp } H' := ⟨fun z o h1 h2 h3 => k.keep z o h1 h2 h3, fun _ _ _ _ _ z => z, k.tups, k.pre⟩
      have ha : a ∈ g'.tmp := by rw [ht]; exact List.mem_cons_self
      have nv : ¬ Gh.av { g' with tmp := g.tmp } a := fun z => by
        rcases z with z | z | z
        · exact (e.st.rt a z).2 ha
        · exact e.st.ot a z ha
        · exact na z
      have h' : Aft K mg W (rD K) g H σ (RX.lift c.frz fr S) Q := h
      cases c with
      | lst xs => obtain ⟨vs, h1, h2⟩ := hc; exact h' _ H' _ k' e' ⟨rfl, .lst h1 nv (h2.mono m)⟩
      | dK ks xs => obtain ⟨vs, h1, h2, h3⟩ := hc; exact h' _ H' _ k' e' ⟨rfl, .dic h1 h2 nv (h3.mono m)⟩
      | dT ks xs => obtain ⟨vs, h1, h2, h3⟩ := hc; exact h' _ H' _ k' e' ⟨rfl, .dit h1 h2 nv (h3.mono m)⟩
      | ins c ns xs => exact h'.elim
      | tab f => exact h'.elim
      | exn c ns xs => exact h'.elim
  | ex e fr S => exact h
  | no => exact h
end

section
variable {K : PySem.W.Frag} {mg : Str → Option Value} {g : Gh} {H : Hp} {S : Store} {d : D} {x : V}
theorem look_ref {n : Nat} {e : D} (h : look S (.ref n) = e) : (∃ xs, S[n]? = some (.lst xs) ∧ e = .lst xs) ∨ (∃ ks xs, S[n]? = some (.dK ks xs) ∧ e = .dic ks xs) ∨ (∃ ks xs, S[n]? = some (.dT ks xs) ∧ e = .dit ks xs) ∨ e = .ref n := by
  have h' : lookC n S[n]? = e := h
  cases q : S[n]? with
  | none => rw [q] at h'; exact .inr (.inr (.inr h'.symm))
  | some c =>
    rw [q] at h'
    cases c with
    | lst xs => exact .inl ⟨xs, rfl, h'.symm⟩
    | dK ks xs => exact .inr (.inl ⟨ks, xs, rfl, h'.symm⟩)
    | dT ks xs => exact .inr (.inr (.inl ⟨ks, xs, rfl, h'.symm⟩))
    | ins c ns xs => exact .inr (.inr (.inr h'.symm))
    | tab f => exact .inr (.inr (.inr h'.symm))
    | exn c ns xs => exact .inr (.inr (.inr h'.symm))
theorem look_lst {xs : List D} (st : StR K mg g S H) (r : RD K g H d x) (e : look S d = .lst xs) : ∃ a vs, x = .ref a ∧ H a = some (.lst vs) ∧ RDs K g H xs vs := by
  cases d with
  | lst ys => cases e; obtain ⟨a, vs, h1, h2, _, h3⟩ := r.tracked_lst; exact ⟨a, vs, h1, h2, h3⟩
  | ref n =>
    obtain ⟨a, rfl, h⟩ := r.of_ref
    rcases look_ref e with ⟨ys, q, z⟩ | ⟨ks, ys, q, z⟩ | ⟨ks, ys, q, z⟩ | z
    · cases z
      obtain ⟨vs, h1, h2⟩ := st.cell n _ a q h
      exact ⟨a, vs, rfl, h1, h2⟩
    · cases z
    · cases z
    · cases z
  | _ => cases e
theorem look_dic {ks : List Key} {xs : List D} (st : StR K mg g S H) (r : RD K g H d x) (e : look S d = .dic ks xs) : ∃ a vs, x = .ref a ∧ H a = some (.dK (ks.zip vs)) ∧ ks.length = vs.length ∧ RDs K g H xs vs := by
  cases d with
  | dic ks ys => cases e; obtain ⟨a, vs, h1, h2, h3, _, h4⟩ := r.of_dic; exact ⟨a, vs, h1, h2, h3, h4⟩
  | ref n =>
    obtain ⟨a, rfl, h⟩ := r.of_ref
    rcases look_ref e with ⟨ys, q, z⟩ | ⟨ks', ys, q, z⟩ | ⟨ks', ys, q, z⟩ | z
    · cases z
    · cases z
      obtain ⟨vs, h1, h2, h3⟩ := st.cell n _ a q h
      exact ⟨a, vs, rfl, h1, h2, h3⟩
    · cases z
    · cases z
  | _ => cases e
theorem look_dit {ks : List (List Key)} {xs : List D} (st : StR K mg g S H) (r : RD K g H d x) (e : look S d = .dit ks xs) : ∃ a vs, x = .ref a ∧ H a = some (.dT (ks.zip vs)) ∧ ks.length = vs.length ∧ RDs K g H xs vs := by
  cases d with
  | dit ks ys => cases e; obtain ⟨a, vs, h1, h2, h3, _, h4⟩ := r.of_dit; exact ⟨a, vs, h1, h2, h3, h4⟩
  | ref n =>
    obtain ⟨a, rfl, h⟩ := r.of_ref
    rcases look_ref e with ⟨ys, q, z⟩ | ⟨ks', ys, q, z⟩ | ⟨ks', ys, q, z⟩ | z
    · cases z
    · cases z
    · cases z
      obtain ⟨vs, h1, h2, h3⟩ := st.cell n _ a q h
      exact ⟨a, vs, rfl, h1, h2, h3⟩
    · cases z
  | _ => cases e
def D.atom : D → Bool
  | .lst _ | .dic _ _ | .dit _ _ => false
  | _ => true
theorem look_same {e : D} (h : look S d = e) (n : e.atom = true) : d = e := by
  cases d with
  | ref k =>
    rcases look_ref h with ⟨ys, q, z⟩ | ⟨ks', ys, q, z⟩ | ⟨ks', ys, q, z⟩ | z
    · subst z; cases n
    · subst z; cases n
    · subst z; cases n
    · exact z.symm
  | _ => exact h

def Vw (K : PySem.W.Frag) (g : Gh) (H : Hp) (x : V) : D → Prop
  | .lst xs => ∃ a vs, x = .ref a ∧ H a = some (.lst vs) ∧ RDs K g H xs vs
  | .dic ks xs => ∃ a vs, x = .ref a ∧ H a = some (.dK (ks.zip vs)) ∧ ks.length = vs.length ∧ RDs K g H xs vs
  | .dit ks xs => ∃ a vs, x = .ref a ∧ H a = some (.dT (ks.zip vs)) ∧ ks.length = vs.length ∧ RDs K g H xs vs
  | d => RD K g H d x
theorem vw_look (st : StR K mg g S H) (r : RD K g H d x) : Vw K g H x (look S d) := by
  cases e : look S d with
  | lst xs => exact look_lst st r e
  | dic ks xs => exact look_dic st r e
  | dit ks xs => exact look_dit st r e
  | tup xs => rw [look_same e rfl] at r; exact r
  | int i => rw [look_same e rfl] at r; exact r
  | bl i => rw [look_same e rfl] at r; exact r
  | str i => rw [look_same e rfl] at r; exact r
  | non => rw [look_same e rfl] at r; exact r
  | scr xs => rw [look_same e rfl] at r; exact r
  | ref n => rw [look_same e rfl] at r; exact r
theorem vw_cell {a : Addr} {c : Cell} (h : CellR K mg g H a c) (e : c.frz = some d) : Vw K g H (.ref a) d := by
  cases c with
  | lst xs => cases e; obtain ⟨vs, h1, h2⟩ := h; exact ⟨a, vs, rfl, h1, h2⟩
  | dK ks xs => cases e; obtain ⟨vs, h1, h2, h3⟩ := h; exact ⟨a, vs, rfl, h1, h2, h3⟩
  | dT ks xs => cases e; obtain ⟨vs, h1, h2, h3⟩ := h; exact ⟨a, vs, rfl, h1, h2, h3⟩
  | ins c ns xs => cases e
  | tab f => cases e
  | exn c ns xs => cases e
end

mutual
theorem toP_plain : ∀ d : D, d.pl = true → d.toP.plain = true
  | .non, _ | .bl _, _ | .int _, _ | .str _, _ => rfl
  | .lst xs, h => toPs_plain xs h
  | .tup xs, h => toPs_plain xs h
  | .dic _ _, h => nomatch h
  | .dit _ _, h => nomatch h
  | .ref _, h => nomatch h
  | .scr _, h => nomatch h
theorem toPs_plain : ∀ ds : List D, D.pls ds = true → PyData.plainAll (D.toPs ds) = true
  | [], _ => rfl
  | x :: xs, h => by
    have h' : (D.pl x && D.pls xs) = true := h
    rw [Bool.and_eq_true] at h'
    show (PyData.plain (D.toP x) && PyData.plainAll (D.toPs xs)) = true
    rw [toP_plain x h'.1, toPs_plain xs h'.2]; rfl
end
mutual
theorem toP_dep : ∀ d : D, d.pl = true → d.toP.depth = d.dep
  | .non, _ | .bl _, _ | .int _, _ | .str _, _ => rfl
  | .lst xs, h => by show PyData.depthAll (D.toPs xs) + 1 = D.deps xs + 1; rw [toPs_dep xs h]
  | .tup xs, h => by show PyData.depthAll (D.toPs xs) + 1 = D.deps xs + 1; rw [toPs_dep xs h]
  | .dic _ _, h => nomatch h
  | .dit _ _, h => nomatch h
  | .ref _, h => nomatch h
  | .scr _, h => nomatch h
theorem toPs_dep : ∀ ds : List D, D.pls ds = true → PyData.depthAll (D.toPs ds) = D.deps ds
  | [], _ => rfl
  | x :: xs, h => by
    have h' : (D.pl x && D.pls xs) = true := h
    rw [Bool.and_eq_true] at h'
    show max (PyData.depth (D.toP x)) (PyData.depthAll (D.toPs xs)) = max (D.dep x) (D.deps xs)
    rw [toP_dep x h'.1, toPs_dep xs h'.2]
end
mutual
theorem toP_eqv : ∀ a b : D, a.pl = true → b.pl = true → PyData.eqv a.toP b.toP = D.eqv a b
  | .non, b, _, h => by cases b <;> first | rfl | cases h
  | .bl _, b, _, h => by cases b <;> first | rfl | cases h
  | .int _, b, _, h => by cases b <;> first | rfl | cases h
  | .str _, b, _, h => by cases b <;> first | rfl | cases h
  | .lst xs, b, g, h => by
    cases b with
    | lst ys => exact toPs_eqv xs ys g h
    | _ => first | rfl | cases h
  | .tup xs, b, g, h => by
    cases b with
    | tup ys => exact toPs_eqv xs ys g h
    | _ => first | rfl | cases h
  | .dic _ _, _, h, _ => nomatch h
  | .dit _ _, _, h, _ => nomatch h
  | .ref _, _, h, _ => nomatch h
  | .scr _, _, h, _ => nomatch h
theorem toPs_eqv : ∀ a b : List D, D.pls a = true → D.pls b = true → PyData.eqvAll (D.toPs a) (D.toPs b) = D.eqvs a b
  | [], b, _, _ => by cases b <;> rfl
  | x :: xs, [], _, _ => rfl
  | x :: xs, y :: ys, g, h => by
    have g' : (D.pl x && D.pls xs) = true := g
    have h' : (D.pl y && D.pls ys) = true := h
    rw [Bool.and_eq_true] at g' h'
    show (PyData.eqv (D.toP x) (D.toP y) && PyData.eqvAll (D.toPs xs) (D.toPs ys)) = (D.eqv x y && D.eqvs xs ys)
    rw [toP_eqv x y g'.1 h'.1, toPs_eqv xs ys g'.2 h'.2]
end
section
variable {K : PySem.W.Frag} {g : Gh} {H : Hp}
mutual
theorem RD.dp : ∀ (d : D) (x : V), RD K g H d x → d.pl = true → Dp K H x d.toP
  | .non, _, .non, _ => .non
  | .bl _, _, .bl _, _ => .bl _
  | .int _, _, .int _, _ => .int _
  | .str _, _, .str _, _ => .str _
  | .lst xs, _, .lst h _ r, p => .lst (SqL.of h) (RDs.dp xs _ r p)
  | .tup xs, _, .tup h r, p => .tup (SqT.of h) (RDs.dp xs _ r p)
  | .dic _ _, _, _, p => nomatch p
  | .dit _ _, _, _, p => nomatch p
  | .ref _, _, _, p => nomatch p
  | .scr _, _, _, p => nomatch p
theorem RDs.dp : ∀ (ds : List D) (xs : List V), RDs K g H ds xs → D.pls ds = true → DpAll K H xs (D.toPs ds)
  | [], _, .nil, _ => .nil
  | x :: xs, _, .cons h t, p => by
    have p' : (D.pl x && D.pls xs) = true := p
    rw [Bool.and_eq_true] at p'
    exact .cons (RD.dp x _ h p'.1) (RDs.dp xs _ t p'.2)
end
theorem Vw.dp {d : D} {x : V} (h : Vw K g H x d) (p : d.pl = true) : Dp K H x d.toP := by
  cases d with
  | lst xs => obtain ⟨a, vs, rfl, h1, h2⟩ := h; exact .lst (SqL.of h1) (RDs.dp xs vs h2 p)
  | dic ks xs => cases p
  | dit ks xs => cases p
  | tup xs => exact RD.dp _ _ h p
  | non => exact RD.dp _ _ h p
  | bl b => exact RD.dp _ _ h p
  | int b => exact RD.dp _ _ h p
  | str b => exact RD.dp _ _ h p
  | ref n => cases p
  | scr xs => cases p
end
end Eng
end

section
namespace Eng
open PySem PySem.Spec PyProof.Rows L2
section
variable {X : Cx} {pins : List (Addr × Obj)} {σ : L2.St} {H : Hp} {s : Shared} {g : Gh}
mutual
theorem rk (I : Inv X pins σ H s) : ∀ (d : D) (v : V) (u : Value), RD X.K g H d v → RelV v u → d.plq = true → ∃ as, Reads s.heap u d.toQ as ∧
    (d.toQ.showable = true → d.toQ.shown.length ≤ sizeLine → ∃ bs, ReadAtMost s.heap d.toQ.depth bs ∧ ReprK X.prog X.w bs s.heap d.toQ.depth u d.toQ.shown)
  | .non, _, _, .non, r, _ => by
    cases r
    unfold D.toQ
    exact ⟨[], .none, fun _ _ => ⟨[], (fun _ h => nomatch h), by simp only [PyData.shown]; exact .of_is ReprIs.none _ _ _⟩⟩
  | .bl b, _, _, .bl _, r, _ => by
    cases r
    unfold D.toQ
    exact ⟨[], .bool b, fun _ _ => ⟨[], (fun _ h => nomatch h), by simp only [PyData.shown]; exact .of_is (ReprIs.bool b) _ _ _⟩⟩
  | .int i, _, _, .int _, r, _ => by
    obtain ⟨t, rfl⟩ := r
    unfold D.toQ
    exact ⟨[], .int i t, fun hs _ => ⟨[], (fun _ h => nomatch h), by simp only [PyData.shown]; exact .of_is (ReprIs.int t (by simpa [PyData.showable] using hs)) _ _ _⟩⟩
  | .str x, _, _, .str _, r, _ => by
    obtain ⟨t, rfl⟩ := r
    unfold D.toQ
    exact ⟨[], .str x t, fun _ hz => ⟨[], (fun _ h => nomatch h), by simp only [PyData.shown]; exact .of_is (ReprIs.str x t (by simpa only [PyData.shown] using hz)) _ _ _⟩⟩
  | .lst xs, _, _, .lst ho _ r, rv, p => by
    cases rv
    obtain ⟨its, rr, ⟨o, n, h1, h2, _, h3⟩, _⟩ := I.list (SqL.of ho)
    obtain ⟨as, q1, q2⟩ := rks I xs _ its r rr p
    unfold D.toQ
    have rd : Reads s.heap (.ref _) (.list (D.toQs xs)) _ := .list h1 h2 h3 q1
    refine ⟨_, rd, fun hs hz => ?_⟩
    have hz' : (listText (PyData.shownAll (D.toQs xs))).length ≤ sizeLine := by simpa only [PyData.shown] using hz
    obtain ⟨bs, hb, hk⟩ := q2 (by simpa [PyData.showable] using hs) fun t ht => Nat.le_trans (listText_mem_le ht) hz'
    have hna := not_mem_of_deeper rd (by simp only [PyData.depth]; omega) hb
    refine ⟨_ :: bs, ReadAtMost.cons rd (by simp only [PyData.depth]; omega) hb, ?_⟩
    simp only [PyData.depth, PyData.shown]
    cases its with
    | nil =>
      generalize D.toQs xs = ys at q1
      cases q1
      simp only [PyData.shownAll, listText_nil]
      exact ReprK.listEmpty h1 h2 h3
    | cons x l => exact ReprK.list h1 h2 h3 hna (by simpa using hk.length_eq) (fun i y e => hk.item i y (by simpa using e))
  | .tup xs, _, _, .tup ho r, rv, p => by
    cases rv
    obtain ⟨its, rr, ⟨o, h1, h2, n, h3⟩, _⟩ := I.tuple (SqT.of ho)
    obtain ⟨as, q1, q2⟩ := rks I xs _ its r rr p
    unfold D.toQ
    have rd : Reads s.heap (.ref _) (.tuple (D.toQs xs)) _ := .tuple h1 h2 h3 q1
    refine ⟨_, rd, fun hs hz => ?_⟩
    have hz' : (tupleText (PyData.shownAll (D.toQs xs))).length ≤ sizeLine := by simpa only [PyData.shown] using hz
    obtain ⟨bs, hb, hk⟩ := q2 (by simpa [PyData.showable] using hs) fun t ht => Nat.le_trans (tupleText_mem_le ht) hz'
    have hna := not_mem_of_deeper rd (by simp only [PyData.depth]; omega) hb
    refine ⟨_ :: bs, ReadAtMost.cons rd (by simp only [PyData.depth]; omega) hb, ?_⟩
    simp only [PyData.depth, PyData.shown]
    exact ReprK.tuple h1 h2 h3 hna hk
  | .dic [.inr k] [x], _, _, .dic ho hl _ r, rv, p => by
    cases rv
    cases r with
    | cons r1 r2 =>
      cases r2
      obtain ⟨_, lo, kvs, kv, ⟨o, es, n, h1, ⟨hc, _, _⟩, h3, _, pr, _⟩⟩ := dk_of I.hok ho
      cases kv with
      | cons k1 k2 =>
        cases k2
        obtain ⟨k1, k2⟩ := k1
        generalize hes : es.toList = el at pr
        cases pr with
        | @cons en kv1 es2 kvs2 p1 p2 p3 =>
          cases p3
          rw [← k1] at p1
          have p1' : keyIs (.inr k) en.key = true := p1
          obtain ⟨i, t, e, _⟩ | ⟨y, t, e, e2⟩ := keyIs_shape p1'
          · exact nomatch e
          · injection e with e
            subst e
            rw [← p2] at k2
            obtain ⟨as, q1, q2⟩ := rk I x _ _ r1 k2 p
            unfold D.toQ
            have rk0 : Reads s.heap en.key (.str k) [] := by rw [e2]; exact .str k t
            have rd : Reads s.heap (.ref _) (.dict [(.str k, D.toQ x)]) _ := .dict h1 hc h3 (by rw [hes]; exact .cons rk0 .nil) (by rw [hes]; exact .cons q1 .nil)
            refine ⟨_, rd, fun hs hz => ?_⟩
            have hz' : (dictText (PyData.shownKv [(.str k, D.toQ x)])).length ≤ sizeLine := by simpa only [PyData.shown] using hz
            have hp : ((PyData.str k).shown ++ ": " ++ (D.toQ x).shown).length ≤ sizeLine := Nat.le_trans (dictText_mem_le (List.mem_cons_self ..)) (by simpa only [PyData.shownKv] using hz')
            have hy : (D.toQ x).shown.length ≤ sizeLine := Nat.le_trans (by rw [Str.length_append]; omega) hp
            have hk : (reprText k).length ≤ sizeLine := Nat.le_trans (by rw [Str.length_append, Str.length_append]; simp only [PyData.shown]; omega) hp
            obtain ⟨bs, hb, hk2⟩ := q2 (by simpa [PyData.showable, PyData.showableKv] using hs) hy
            have hb' : ReadAtMost s.heap (PyData.depthKv [(.str k, D.toQ x)]) bs := hb.mono (by simp only [PyData.depthKv, PyData.depth]; omega)
            have hna := not_mem_of_deeper rd (by simp only [PyData.depth]; omega) hb'
            refine ⟨_ :: bs, ReadAtMost.cons rd (by simp only [PyData.depth]; omega) hb', ?_⟩
            simp only [PyData.depth, PyData.shown, PyData.shownKv]
            refine ReprK.dict h1 hc h3 lo hna ?_
            rw [hes]
            exact .cons (by rw [e2]; exact .of_is (ReprIs.str k t hk) _ _ _) (hk2.level_le (by simp only [PyData.depthKv, PyData.depth]; omega)) .nil
  | .dic [] _, _, _, _, _, p => nomatch p
  | .dic [.inl _] _, _, _, _, _, p => nomatch p
  | .dic [.inr _] [], _, _, _, _, p => nomatch p
  | .dic [.inr _] (_ :: _ :: _), _, _, _, _, p => nomatch p
  | .dic (.inl _ :: _ :: _) _, _, _, _, _, p => nomatch p
  | .dic (.inr _ :: _ :: _) _, _, _, _, _, p => nomatch p
  | .dit _ _, _, _, _, _, p => nomatch p
  | .ref _, _, _, _, _, p => nomatch p
  | .scr _, _, _, _, _, p => nomatch p
theorem rks (I : Inv X pins σ H s) : ∀ (ds : List D) (vs : List V) (us : List Value), RDs X.K g H ds vs → Vals vs us → D.plqs ds = true → ∃ as, ReadsAll s.heap us (D.toQs ds) as ∧
    (PyData.showableAll (D.toQs ds) = true → (∀ t ∈ PyData.shownAll (D.toQs ds), t.length ≤ sizeLine) → ∃ bs, ReadAtMost s.heap (PyData.depthAll (D.toQs ds)) bs ∧ ReprAllK X.prog X.w bs s.heap (PyData.depthAll (D.toQs ds)) us (PyData.shownAll (D.toQs ds)))
  | [], _, _, h, r, _ => by
    cases h
    cases r
    unfold D.toQs
    exact ⟨[], .nil, fun _ _ => ⟨[], (fun _ h => by cases h), by simp only [PyData.shownAll]; exact .nil⟩⟩
  | d :: ds, _, _, h, r, p => by
    cases h with
    | cons h1 h2 =>
    cases r with
    | cons r1 r2 =>
    have p' : (D.plq d && D.plqs ds) = true := p
    rw [Bool.and_eq_true] at p'
    obtain ⟨as, q1, q2⟩ := rk I d _ _ h1 r1 p'.1
    obtain ⟨bs, q3, q4⟩ := rks I ds _ _ h2 r2 p'.2
    unfold D.toQs
    refine ⟨_, .cons q1 q3, fun hs hz => ?_⟩
    have hs' : (D.toQ d).showable = true ∧ PyData.showableAll (D.toQs ds) = true := by simpa [PyData.showableAll] using hs
    obtain ⟨b1, hb1, k1⟩ := q2 hs'.1 (hz _ (by simp only [PyData.shownAll]; exact List.mem_cons_self ..))
    obtain ⟨b2, hb2, k2⟩ := q4 hs'.2 fun t ht => hz t (by simp only [PyData.shownAll]; exact List.mem_cons_of_mem _ ht)
    refine ⟨b1 ++ b2, ?_, ?_⟩
    · exact (hb1.mono (by simp only [PyData.depthAll]; exact Nat.le_max_left ..)).append (hb2.mono (by simp only [PyData.depthAll]; exact Nat.le_max_right ..))
    · simp only [PyData.depthAll, PyData.shownAll]
      exact .cons ((k1.more fun b hb => List.mem_append_left _ hb).level_le (Nat.le_max_left _ _)) (k2.more_le (fun b hb => List.mem_append_right _ hb) (Nat.le_max_right _ _))
end
mutual
theorem rd_free {K : PySem.W.Frag} : ∀ (d : D) (v : V), RD K g H d v → d.plq = true → RD K ⟨[], [], []⟩ H d v
  | .non, _, .non, _ => .non
  | .bl _, _, .bl _, _ => .bl _
  | .int _, _, .int _, _ => .int _
  | .str _, _, .str _, _ => .str _
  | .lst xs, _, .lst h _ r, p => .lst h (by unfold Gh.av; simp) (rds_free xs _ r p)
  | .tup xs, _, .tup h r, p => .tup h (rds_free xs _ r p)
  | .dic ks xs, _, .dic h l _ r, p => .dic h l (by unfold Gh.av; simp) (rds_free xs _ r (by
      match ks, xs, p with
      | [.inr _], [x], p => show (D.plq x && true) = true; rw [show D.plq x = true from p]; rfl
      | [], _, p => cases p
      | [.inl _], _, p => cases p
      | [.inr _], [], p => cases p
      | [.inr _], _ :: _ :: _, p => cases p
      | .inl _ :: _ :: _, _, p => cases p
      | .inr _ :: _ :: _, _, p => cases p))
  | .dit _ _, _, _, p => nomatch p
  | .ref _, _, _, p => nomatch p
  | .scr _, _, _, p => nomatch p
theorem rds_free {K : PySem.W.Frag} : ∀ (ds : List D) (vs : List V), RDs K g H ds vs → D.plqs ds = true → RDs K ⟨[], [], []⟩ H ds vs
  | [], _, .nil, _ => .nil
  | d :: ds, _, .cons h t, p => by
    have p' : (D.plq d && D.plqs ds) = true := p
    rw [Bool.and_eq_true] at p'
    exact .cons (rd_free d _ h p'.1) (rds_free ds _ t p'.2)
end
theorem dic_one {ks : List Key} {xs : List D} (p : D.plq (.dic ks xs) = true) : ∃ k x, ks = [.inr k] ∧ xs = [x] ∧ D.plq x = true := by
  match ks, xs, p with
  | [.inr k], [x], p => exact ⟨k, x, rfl, rfl, p⟩
  | [], _, p => cases p
  | [.inl _], _, p => cases p
  | [.inr _], [], p => cases p
  | [.inr _], _ :: _ :: _, p => cases p
  | .inl _ :: _ :: _, _, p => cases p
  | .inr _ :: _ :: _, _, p => cases p
theorem vw_free {d : D} {v : V} (h : Vw X.K g H v d) (p : d.plq = true) : RD X.K ⟨[], [], []⟩ H d v := by
  cases d with
  | lst xs => obtain ⟨a, vs, rfl, h1, h2⟩ := h; exact .lst h1 (by unfold Gh.av; simp) (rds_free xs vs h2 p)
  | dic ks xs =>
    obtain ⟨k, x, rfl, rfl, px⟩ := dic_one p
    obtain ⟨a, vs, rfl, h1, h2, h3⟩ := h
    exact .dic h1 h2 (by unfold Gh.av; simp) (rds_free _ vs h3 (by show (D.plq x && true) = true; rw [px]; rfl))
  | dit ks xs => cases p
  | tup xs => exact rd_free _ _ h p
  | non => exact rd_free _ _ h p
  | bl b => exact rd_free _ _ h p
  | int b => exact rd_free _ _ h p
  | str b => exact rd_free _ _ h p
  | ref n => cases p
  | scr xs => cases p
theorem call_reprQ (hg : X.A.guards = some []) (hu : X.A.units + 100 < cLine) {us : List Value} {Q : VK} {x : V} {d : D} (I : Inv X pins σ H s) (rx : Vals [x] us) (h : RD X.K g H d x) (p : d.plq = true)
    (hs : d.toQ.showable = true) (hd : d.toQ.depth ≤ 64) (hz : d.toQ.shown.length ≤ sizeLine) (q : Q (.str d.toQ.shown) H) : wpAny (model X.prog X.w) X.A (call (.builtin "repr") us) (EP X pins σ Q) X.xe s := by
  cases rx with
  | cons r1 r2 =>
  cases r2
  have fin : ∀ (h' : Heap) (u : Tok) (tk : Nat), (∀ b o, s.heap.get? b = some o → h'.get? b = some o) → EP X pins σ Q (.str d.toQ.shown u) { s with heap := h', toks := tk } := fun h' u tk k => ⟨.str d.toQ.shown, H, I.kept k, ⟨u, rfl⟩, q⟩
  cases d with
  | non =>
    cases h; cases r1
    unfold D.toQ at fin
    simp only [PyData.shown] at fin
    exact PySem.P.repr_of_none (fin _ _ _ fun _ _ e => e)
  | bl b =>
    cases h; cases r1
    unfold D.toQ at fin
    simp only [PyData.shown] at fin
    exact PySem.P.repr_of_bool (fin _ _ _ fun _ _ e => e)
  | int i =>
    cases h; obtain ⟨t, rfl⟩ := r1
    unfold D.toQ at fin hs
    simp only [PyData.shown] at fin
    exact PySem.P.repr_of_int (by simpa [PyData.showable] using hs) (fin _ _ _ fun _ _ e => e)
  | str y =>
    cases h; obtain ⟨t, rfl⟩ := r1
    unfold D.toQ at fin hz
    simp only [PyData.shown] at fin hz
    exact PySem.P.repr_of_str (fin _ _ _ fun _ _ e => e) hz
  | lst xs =>
    cases h with
    | lst ho _ r =>
    cases r1
    obtain ⟨its, rr, ⟨o, n, h1, h2, _, h3⟩, _⟩ := I.list (SqL.of ho)
    obtain ⟨as, q1, q2⟩ := rks I xs _ its r rr p
    unfold D.toQ at hs hd hz fin
    have rd : Reads s.heap (.ref _) (.list (D.toQs xs)) _ := .list h1 h2 h3 q1
    have hz' : (listText (PyData.shownAll (D.toQs xs))).length ≤ sizeLine := by simpa only [PyData.shown] using hz
    obtain ⟨bs, hb, hk⟩ := q2 (by simpa [PyData.showable] using hs) fun t ht => Nat.le_trans (listText_mem_le ht) hz'
    have hna := not_mem_of_deeper rd (by simp only [PyData.depth]; omega) hb
    simp only [PyData.depth] at hd
    simp only [PyData.shown] at fin
    refine call_repr_slot (by omega) ⟨o, h1, h2⟩ F.slot_list_repr.toG ?_
    cases its with
    | nil =>
      generalize D.toQs xs = ys at q1 fin
      cases q1
      simp only [PyData.shownAll, listText_nil] at fin
      exact call_list_repr_empty ⟨o, h1, h2⟩ h1 h3 ⟨_, _, rfl, fin _ _ _ fun _ _ e => e⟩
    | cons y l => exact call_list_reprK h1 h2 h3 hna (by simpa using hk.length_eq) (fun i y e => hk.item i y (by simpa using e)) hg (fun b _ => Clear.nil b) (by show X.A.units + 1 + _ < cLine; omega) (fun _ _ e => e) (fun h' u tk k => ⟨_, _, rfl, fin h' u tk k⟩) hz'
  | tup xs =>
    cases h with
    | tup ho r =>
    cases r1
    obtain ⟨its, rr, ⟨o, h1, h2, n, h3⟩, _⟩ := I.tuple (SqT.of ho)
    obtain ⟨as, q1, q2⟩ := rks I xs _ its r rr p
    unfold D.toQ at hs hd hz fin
    have rd : Reads s.heap (.ref _) (.tuple (D.toQs xs)) _ := .tuple h1 h2 h3 q1
    have hz' : (tupleText (PyData.shownAll (D.toQs xs))).length ≤ sizeLine := by simpa only [PyData.shown] using hz
    obtain ⟨bs, hb, hk⟩ := q2 (by simpa [PyData.showable] using hs) fun t ht => Nat.le_trans (tupleText_mem_le ht) hz'
    have hna := not_mem_of_deeper rd (by simp only [PyData.depth]; omega) hb
    simp only [PyData.depth] at hd
    simp only [PyData.shown] at fin
    refine call_repr_slot (by omega) ⟨o, h1, h2⟩ F.slot_tuple_repr ?_
    exact call_tuple_reprK h1 h2 h3 hna hk hg (fun b _ => Clear.nil b) (by show X.A.units + 1 + _ < cLine; omega) (fun _ _ e => e) (fun h' u tk k => ⟨_, _, rfl, fin h' u tk k⟩) hz'
  | dic ks xs =>
    obtain ⟨k, y, rfl, rfl, py⟩ := dic_one p
    cases h with
    | dic ho hl _ r =>
    cases r1
    cases r with
    | cons v1 v2 =>
    cases v2
    obtain ⟨_, lo, kvs, kv, ⟨o, es, n, h1, ⟨hc, hc2, hc3⟩, h3, _, pr, _⟩⟩ := dk_of I.hok ho
    cases kv with
    | cons k1 k2 =>
    cases k2
    obtain ⟨k1, k2⟩ := k1
    generalize hes : es.toList = el at pr
    cases pr with
    | @cons en kv1 es2 kvs2 p1 p2 p3 =>
    cases p3
    rw [← k1] at p1
    have p1' : keyIs (.inr k) en.key = true := p1
    obtain ⟨i, t, e, _⟩ | ⟨z, t, e, e2⟩ := keyIs_shape p1'
    · exact nomatch e
    · injection e with e
      subst e
      rw [← p2] at k2
      obtain ⟨as, q1, q2⟩ := rk I y _ _ v1 k2 py
      unfold D.toQ at hs hd hz fin
      have rk0 : Reads s.heap en.key (.str k) [] := by rw [e2]; exact .str k t
      have rd : Reads s.heap (.ref _) (.dict [(.str k, D.toQ y)]) _ := .dict h1 hc h3 (by rw [hes]; exact .cons rk0 .nil) (by rw [hes]; exact .cons q1 .nil)
      have hz' : (dictText (PyData.shownKv [(.str k, D.toQ y)])).length ≤ sizeLine := by simpa only [PyData.shown] using hz
      have hp : ((PyData.str k).shown ++ ": " ++ (D.toQ y).shown).length ≤ sizeLine := Nat.le_trans (dictText_mem_le (List.mem_cons_self ..)) (by simpa only [PyData.shownKv] using hz')
      have hy : (D.toQ y).shown.length ≤ sizeLine := Nat.le_trans (by rw [Str.length_append]; omega) hp
      have hk : (reprText k).length ≤ sizeLine := Nat.le_trans (by rw [Str.length_append, Str.length_append]; simp only [PyData.shown]; omega) hp
      obtain ⟨bs, hb, hk2⟩ := q2 (by simpa [PyData.showable, PyData.showableKv] using hs) hy
      have hb' : ReadAtMost s.heap (PyData.depthKv [(.str k, D.toQ y)]) bs := hb.mono (by simp only [PyData.depthKv, PyData.depth]; omega)
      have hna := not_mem_of_deeper rd (by simp only [PyData.depth]; omega) hb'
      simp only [PyData.depth] at hd
      simp only [PyData.shown, PyData.shownKv] at fin
      simp only [PyData.shownKv, PyData.shown] at hz'
      refine call_repr_slot (by omega) ⟨o, h1, hc⟩ F.slot_dict_repr ?_
      exact call_dict_reprK (d := PyData.depthKv [(.str k, D.toQ y)]) h1 hc h3 lo hna (by
        rw [hes]
        exact .cons (by rw [e2]; exact .of_is (ReprIs.str k t hk) _ _ _) (hk2.level_le (by simp only [PyData.depthKv, PyData.depth]; omega)) .nil) hg (fun b _ => Clear.nil b) (by show X.A.units + 1 + _ < cLine; omega) (fun _ _ e => e) (fun h' u tk k => ⟨_, _, rfl, fin h' u tk k⟩) hz'
  | dit ks xs => cases p
  | ref n => cases p
  | scr xs => cases p
mutual
theorem pl_plq : ∀ d : D, d.pl = true → d.plq = true ∧ d.toQ = d.toP
  | .non, _ | .bl _, _ | .int _, _ | .str _, _ => by unfold D.plq D.toQ D.toP; exact ⟨rfl, rfl⟩
  | .lst xs, h => by unfold D.plq D.toQ D.toP; rw [(pls_plq xs h).2]; exact ⟨(pls_plq xs h).1, rfl⟩
  | .tup xs, h => by unfold D.plq D.toQ D.toP; rw [(pls_plq xs h).2]; exact ⟨(pls_plq xs h).1, rfl⟩
  | .dic _ _, h | .dit _ _, h | .ref _, h | .scr _, h => nomatch h
theorem pls_plq : ∀ ds : List D, D.pls ds = true → D.plqs ds = true ∧ D.toQs ds = D.toPs ds
  | [], _ => by unfold D.plqs D.toQs D.toPs; exact ⟨rfl, rfl⟩
  | x :: xs, h => by
    have h' : (D.pl x && D.pls xs) = true := h
    rw [Bool.and_eq_true] at h'
    unfold D.plqs D.toQs D.toPs
    rw [(pl_plq x h'.1).1, (pl_plq x h'.1).2, (pls_plq xs h'.2).1, (pls_plq xs h'.2).2]
    exact ⟨rfl, rfl⟩
end
theorem call_reprD (hg : X.A.guards = some []) (hu : X.A.units + 100 < cLine) {us : List Value} {Q : VK} {x : V} {d : D} {r : Val} (I : Inv X pins σ H s) (rx : Vals [x] us) (h : Vw X.K g H x d) (e : reprD d = some r)
    (q : ∀ y, r = .fz (.str y) → Q (.str y) H) : wpAny (model X.prog X.w) X.A (call (.builtin "repr") us) (EP X pins σ Q) X.xe s := by
  unfold reprD at e
  split at e
  · rename_i hh
    obtain ⟨p, ep⟩ := pl_plq d hh.1
    cases e
    exact call_reprQ hg hu I rx (vw_free h p) p (by rw [ep]; exact hh.2.1) (by rw [ep, toP_dep d hh.1]; exact hh.2.2.2) (by rw [ep]; exact hh.2.2.1) (by rw [ep]; exact q _ rfl)
  · split at e
    · rename_i hh
      cases e
      exact call_reprQ hg hu I rx (vw_free h hh.1) hh.1 hh.2.1 hh.2.2.2 hh.2.2.1 (q _ rfl)
    · cases e
end
end Eng
end

section
namespace Eng
open PySem PySem.Spec PyProof.Rows L2
section
open Sem PySem.SeqAt
theorem int_eq_declines_dict (b : Int) (u : Tok) (l : Addr) (o : Obj) (es : Array DictEntry) (n : Nat) (dd : Option Addr) (sl : Array (Option Value)) :
    Meets (Builtin.«int.__eq__» ⟨[.int b u, .ref l], []⟩) (fun _ R s => s.heap.get? l = some { cls := .type "dict", dict := dd, data := .dict es n, slots := sl } ∧ R (.ok (.ret .notImplemented)) s) :=
  .of_wp fun prog w A R s h => by obtain ⟨hp, g, d, tk, os⟩ := s; obtain ⟨hl, h⟩ := h; wp_walk using wpAny_loadPart' hl, wpAny_load hl; exact ⟨_, rfl, h⟩
theorem dict_eq_declines_int (l : Addr) (es : Array DictEntry) (n : Nat) (dd : Option Addr) (sl : Array (Option Value)) (b : Int) (u : Tok) :
    Meets (Builtin.«dict.__eq__» ⟨[.ref l, .int b u], []⟩) (fun _ R s => s.heap.get? l = some { cls := .type "dict", dict := dd, data := .dict es n, slots := sl } ∧ R (.ok (.ret .notImplemented)) s) :=
  .of_wp fun prog w A R s h => by obtain ⟨hp, g, d, tk, os⟩ := s; obtain ⟨hl, h⟩ := h; have f1 := F.sub_int_dict; wp_walk using wpAny_loadPart' hl; exact ⟨_, rfl, h⟩
theorem dict_eq_declines_none (l : Addr) (es : Array DictEntry) (n : Nat) (dd : Option Addr) (sl : Array (Option Value)) :
    Meets (Builtin.«dict.__eq__» ⟨[.ref l, .none], []⟩) (fun _ R s => s.heap.get? l = some { cls := .type "dict", dict := dd, data := .dict es n, slots := sl } ∧ R (.ok (.ret .notImplemented)) s) :=
  .of_wp fun prog w A R s h => by obtain ⟨hp, g, d, tk, os⟩ := s; obtain ⟨hl, h⟩ := h; have f1 := F.sub_NoneType_dict; wp_walk using wpAny_loadPart' hl; exact ⟨_, rfl, h⟩
theorem dict_eq_declines_tuple (l b : Addr) (es : Array DictEntry) (items2 : Array Value) (n n2 : Nat) (dd dd2 : Option Addr) (sl sl2 : Array (Option Value)) :
    Meets (Builtin.«dict.__eq__» ⟨[.ref l, .ref b], []⟩) (fun _ R s => s.heap.get? l = some { cls := .type "dict", dict := dd, data := .dict es n, slots := sl } ∧ s.heap.get? b = some { cls := .type "tuple", dict := dd2, data := .seq items2 n2, slots := sl2 } ∧ R (.ok (.ret .notImplemented)) s) :=
  .of_wp fun prog w A R s h => by obtain ⟨hp, g, d, tk, os⟩ := s; obtain ⟨hl, hb, h⟩ := h; have f1 := F.sub_tuple_dict; wp_walk using wpAny_loadPart' hl, wpAny_loadPart' hb; exact ⟨_, rfl, h⟩
theorem tuple_eq_declines_dict (l b : Addr) (items : Array Value) (es2 : Array DictEntry) (n n2 : Nat) (dd dd2 : Option Addr) (sl sl2 : Array (Option Value)) :
    Meets (Builtin.«tuple.__eq__» ⟨[.ref l, .ref b], []⟩) (fun _ R s => s.heap.get? l = some { cls := .type "tuple", dict := dd, data := .seq items n, slots := sl } ∧ s.heap.get? b = some { cls := .type "dict", dict := dd2, data := .dict es2 n2, slots := sl2 } ∧ R (.ok (.ret .notImplemented)) s) :=
  .of_wp fun prog w A R s h => by obtain ⟨hp, g, d, tk, os⟩ := s; obtain ⟨hl, hb, h⟩ := h; have f1 := F.sub_dict_tuple; wp_walk using wpAny_loadPart' hl, wpAny_loadPart' hb; exact ⟨_, rfl, h⟩
end
section
open Sem PySem.SeqAt
variable {A : Around} {s : Shared}
def IsDct (h : Heap) (l : Addr) : Prop := ∃ (es : Array DictEntry) (n : Nat) (dd : Option Addr) (sl : Array (Option Value)), h.get? l = some { cls := .type "dict", dict := dd, data := .dict es n, slots := sl }
theorem rcAt_dict_int {l : Addr} (b : Int) (u : Tok) (hl : IsDct s.heap l) (hu : A.units < cLine) : RcAt A s (.ref l) (.int b u) false := fun prog w E Q h => by
  obtain ⟨es, n, dd, sl, ho⟩ := hl
  exact rc_eq_decline_or (k := false) ⟨_, ho, rfl⟩ (typeIs_int s b u) (by decide) F.sub_int_dict F.slot_dict_eq F.slot_int_eq_refl
    (fun _ hq => call_meets F.slot_dict_eq ⟨_, ho, rfl⟩ F.entry_dict_eq (F.args_dict_eq_2 _ _) (dict_eq_declines_int l es n dd sl b u) ⟨ho, hq⟩)
    (fun _ hq => call_meets F.slot_int_eq_refl (typeIs_int s b u) F.entry_int_eq (F.args_int_eq_2 _ _) (int_eq_declines_dict b u l { cls := .type "dict", dict := dd, data := .dict es n, slots := sl } es n dd sl) ⟨ho, hq⟩)
    (fun _ hq => wpAny_of_eq (rfl : isSame (.ref l) (.int b u) = pure false) hq) (.inr hu) h
theorem eqAt_dict_int {l : Addr} (b : Int) (u : Tok) (hl : IsDct s.heap l) (hu : A.units < cLine) : EqAt A s (.ref l) (.int b u) false := fun prog w E Q h => by
  unfold eqBool
  refine wpAny_holding ?_
  refine wpAny_ite_split (fun hab => absurd (eq_of_beq hab) nofun) (fun _ => ?_)
  exact wpAny_bind (rcAt_dict_int b u hl hu prog w E _ (wpAny_truthy_bool h))
theorem rcAt_int_dict {l : Addr} (b : Int) (u : Tok) (hl : IsDct s.heap l) (hu : A.units < cLine) : RcAt A s (.int b u) (.ref l) false := fun prog w E Q h => by
  obtain ⟨es, n, dd, sl, ho⟩ := hl
  exact rc_eq_decline_or (k := false) (typeIs_int s b u) ⟨_, ho, rfl⟩ (by decide) F.sub_dict_int F.slot_int_eq F.slot_dict_eq_refl
    (fun _ hq => call_meets F.slot_int_eq (typeIs_int s b u) F.entry_int_eq (F.args_int_eq_2 _ _) (int_eq_declines_dict b u l { cls := .type "dict", dict := dd, data := .dict es n, slots := sl } es n dd sl) ⟨ho, hq⟩)
    (fun _ hq => call_meets F.slot_dict_eq_refl ⟨_, ho, rfl⟩ F.entry_dict_eq (F.args_dict_eq_2 _ _) (dict_eq_declines_int l es n dd sl b u) ⟨ho, hq⟩)
    (fun _ hq => wpAny_of_eq (rfl : isSame (.int b u) (.ref l) = pure false) hq) (.inr hu) h
theorem eqAt_int_dict {l : Addr} (b : Int) (u : Tok) (hl : IsDct s.heap l) (hu : A.units < cLine) : EqAt A s (.int b u) (.ref l) false := fun prog w E Q h => by
  unfold eqBool
  refine wpAny_holding ?_
  refine wpAny_ite_split (fun hab => absurd (eq_of_beq hab) nofun) (fun _ => ?_)
  exact wpAny_bind (rcAt_int_dict b u hl hu prog w E _ (wpAny_truthy_bool h))
theorem rcAt_none_dict {l : Addr} (hl : IsDct s.heap l) (hu : A.units < cLine) : RcAt A s .none (.ref l) false := fun prog w E Q h => by
  obtain ⟨es, n, dd, sl, ho⟩ := hl
  exact rc_eq_decline_or (k := false) rfl ⟨_, ho, rfl⟩ (by decide) F.sub_dict_NoneType F.slot_NoneType_eq F.slot_dict_eq_refl
    (fun _ hq => call_gives F.slot_NoneType_eq rfl F.entry_NoneType_eq (F.args_NoneType_eq_2 _ _) (NoneType___eq___none_ref_0 l) hq)
    (fun _ hq => call_meets F.slot_dict_eq_refl ⟨_, ho, rfl⟩ F.entry_dict_eq (F.args_dict_eq_2 _ _) (dict_eq_declines_none l es n dd sl) ⟨ho, hq⟩)
    (fun _ hq => wpAny_of_eq (rfl : isSame .none (.ref l) = Pure.pure false) hq) (.inr hu) h
theorem eqAt_none_dict {l : Addr} (hl : IsDct s.heap l) (hu : A.units < cLine) : EqAt A s .none (.ref l) false := fun prog w E Q h => by
  unfold eqBool
  refine wpAny_holding ?_
  refine wpAny_ite_split (fun hab => absurd (eq_of_beq hab) nofun) (fun _ => ?_)
  exact wpAny_bind (rcAt_none_dict hl hu prog w E _ (wpAny_truthy_bool h))
theorem ne_of_dict_tuple {l b : Addr} {items2 : Array Value} (hl : IsDct s.heap l) (hb : s.heap.IsTuple b items2) : l ≠ b := fun e => by
  subst e
  obtain ⟨es, n, dd, sl, ho⟩ := hl
  obtain ⟨o2, ho2, hc2, _⟩ := hb
  rw [ho] at ho2
  cases ho2
  injection hc2 with hc2
  exact absurd hc2 (by decide)
theorem rcAt_dict_tuple {l b : Addr} {items2 : Array Value} (hl : IsDct s.heap l) (hb : s.heap.IsTuple b items2) (hu : A.units < cLine) : RcAt A s (.ref l) (.ref b) false := fun prog w E Q h => by
  have hne := ne_of_dict_tuple hl hb
  obtain ⟨es, n, dd, sl, ho⟩ := hl
  obtain ⟨⟨cls2, dd2, data2, sl2⟩, ho2, hc2, n2, hd2⟩ := id hb
  simp only at hc2 hd2
  subst hc2 hd2
  exact (rc_eq_decline_or (k := false) ⟨_, ho, rfl⟩ ⟨_, ho2, rfl⟩ (by decide) F.sub_tuple_dict F.slot_dict_eq F.slot_tuple_eq_refl
    (fun _ hq => call_meets F.slot_dict_eq ⟨_, ho, rfl⟩ F.entry_dict_eq (F.args_dict_eq_2 _ _) (dict_eq_declines_tuple l b es items2 n n2 dd dd2 sl sl2) ⟨ho, ho2, hq⟩)
    (fun _ hq => call_meets F.slot_tuple_eq_refl ⟨_, ho2, rfl⟩ F.entry_tuple_eq (F.args_tuple_eq_2 _ _) (tuple_eq_declines_dict b l items2 es n2 n dd2 dd sl2 sl) ⟨ho2, ho, hq⟩)
    (fun _ hq => wpAny_isSame_ref_other hne ho ho2 (by simp) hq) (.inr hu) h)
theorem eqAt_dict_tuple {l b : Addr} {items2 : Array Value} (hl : IsDct s.heap l) (hb : s.heap.IsTuple b items2) (hu : A.units < cLine) : EqAt A s (.ref l) (.ref b) false := .of_refs (ne_of_dict_tuple hl hb) (rcAt_dict_tuple hl hb hu)
end
section
open PySem.SeqAt
variable {X : Cx} {pins : List (Addr × Obj)} {σ : L2.St} {H : Hp} {s : Shared} {g : Gh}
mutual
theorem nt_plq : ∀ e : D, e.nt = true → e.plq = true
  | .int _, _ => by unfold D.plq; rfl
  | .tup xs, h => by unfold D.plq; exact nts_plq xs h
  | .non, n | .bl _, n | .str _, n | .lst _, n | .dic _ _, n | .dit _ _, n | .ref _, n | .scr _, n => nomatch n
theorem nts_plq : ∀ es : List D, D.nts es = true → D.plqs es = true
  | [], _ => by unfold D.plqs; rfl
  | e :: es, h => by
    have h' : (D.nt e && D.nts es) = true := h
    rw [Bool.and_eq_true] at h'
    unfold D.plqs
    rw [nt_plq e h'.1, nts_plq es h'.2]; rfl
end
mutual
theorem rd_one {K : PySem.W.Frag} : ∀ (e d : D) (v : V), RD K g H d v → RD K g H e v → d.plq = true → e.plq = true → d = e
  | .int i, d, _, hd, .int _, p, _ => by cases hd; rfl
  | .non, d, _, hd, .non, p, _ => by cases hd; rfl
  | .bl i, d, _, hd, .bl _, p, _ => by cases hd; rfl
  | .str i, d, _, hd, .str _, p, _ => by cases hd; rfl
  | .tup ys, d, _, hd, .tup h r, p, n => by
    cases hd with
    | tup h2 r2 =>
      rw [h] at h2
      cases h2
      rw [rds_one ys _ _ r2 r p n]
    | lst h2 => rw [h] at h2; cases h2
    | dic h2 => rw [h] at h2; cases h2
    | dit h2 => rw [h] at h2; cases h2
    | ref _ => cases p
    | scr _ _ => cases p
  | .lst ys, d, _, hd, .lst h _ r, p, n => by
    cases hd with
    | lst h2 _ r2 =>
      rw [h] at h2
      cases h2
      rw [rds_one ys _ _ r2 r p n]
    | tup h2 => rw [h] at h2; cases h2
    | dic h2 => rw [h] at h2; cases h2
    | dit h2 => rw [h] at h2; cases h2
    | ref _ => cases p
    | scr _ _ => cases p
  | .dic [.inr k] [y], d, _, hd, .dic h l _ r, p, n => by
    cases hd with
    | dic h2 l2 _ r2 =>
      obtain ⟨k2, x2, rfl, rfl, px⟩ := dic_one p
      rw [h] at h2
      cases r with
      | cons a1 a2 =>
      cases a2
      cases r2 with
      | cons b1 b2 =>
      cases b2
      injection h2 with h2
      injection h2 with h2
      injection h2 with h2
      injection h2 with h3 h4
      injection h3 with h3
      subst h3 h4
      rw [rd_one y _ _ b1 a1 px n]
    | lst h2 => rw [h] at h2; cases h2
    | tup h2 => rw [h] at h2; cases h2
    | dit h2 => rw [h] at h2; cases h2
    | ref _ => cases p
    | scr _ _ => cases p
  | .dic [] _, _, _, _, _, _, n | .dic [.inl _] _, _, _, _, _, _, n | .dic [.inr _] [], _, _, _, _, _, n | .dic [.inr _] (_ :: _ :: _), _, _, _, _, _, n | .dic (.inl _ :: _ :: _) _, _, _, _, _, _, n | .dic (.inr _ :: _ :: _) _, _, _, _, _, _, n | .dit _ _, _, _, _, _, _, n | .ref _, _, _, _, _, _, n | .scr _, _, _, _, _, _, n => nomatch n
theorem rds_one {K : PySem.W.Frag} : ∀ (es ds : List D) (vs : List V), RDs K g H ds vs → RDs K g H es vs → D.plqs ds = true → D.plqs es = true → ds = es
  | [], _, _, hd, .nil, _, _ => by cases hd; rfl
  | e :: es, _, _, hd, .cons h t, p, n => by
    cases hd with
    | @cons d ds _ _ h2 t2 =>
      have p' : (D.plq d && D.plqs ds) = true := p
      have n' : (D.plq e && D.plqs es) = true := n
      rw [Bool.and_eq_true] at p' n'
      rw [rd_one e _ _ h2 h p'.1 n'.1, rds_one es _ _ t2 t p'.2 n'.2]
end
mutual
theorem nt_refl : ∀ e : D, e.nt = true → D.eqv e e = true
  | .int i, _ => by show (i == i) = true; exact beq_self_eq_true i
  | .tup xs, h => nts_refl xs h
  | .non, n | .bl _, n | .str _, n | .lst _, n | .dic _ _, n | .dit _ _, n | .ref _, n | .scr _, n => nomatch n
theorem nts_refl : ∀ es : List D, D.nts es = true → D.eqvs es es = true
  | [], _ => rfl
  | e :: es, h => by
    have h' : (D.nt e && D.nts es) = true := h
    rw [Bool.and_eq_true] at h'
    show (D.eqv e e && D.eqvs es es) = true
    rw [nt_refl e h'.1, nts_refl es h'.2]; rfl
end
def pairD (xs ys : List D) (j : Nat) : Bool := match xs[j]?, ys[j]? with
  | some a, some b => D.eqv a b
  | _, _ => false
theorem pairD_all : ∀ xs ys : List D, ((List.range (min xs.length ys.length)).all (pairD xs ys) && xs.length == ys.length) = D.eqvs xs ys
  | [], [] => rfl
  | [], _ :: _ => by simp [D.eqvs]
  | _ :: _, [] => by simp [D.eqvs]
  | x :: xs, y :: ys => by
    have ih := pairD_all xs ys
    have e : (List.range (min (xs.length + 1) (ys.length + 1))).all (pairD (x :: xs) (y :: ys)) = (D.eqv x y && (List.range (min xs.length ys.length)).all (pairD xs ys)) := by
      rw [Nat.succ_min_succ, List.range_succ_eq_map, List.all_cons, List.all_map]
      rfl
    rw [List.length_cons, List.length_cons, e]
    show _ = (D.eqv x y && D.eqvs xs ys)
    rw [← ih]
    have e2 : (xs.length + 1 == ys.length + 1) = (xs.length == ys.length) := by
      by_cases z : xs.length = ys.length
      · simp [z]
      · simp [z]
    rw [e2, Bool.and_assoc]
mutual
theorem eqAtQ (I : Inv X pins σ H s) : ∀ (d e : D) (A : Around) (v u : Value) (x y : V), RD X.K g H d x → RelV x v → RD X.K g H e y → RelV y u → d.plq = true → e.nt = true → A.units + e.dep < cLine → EqAt A s v u (D.eqv d e)
  | d, .int j, A, v, u, x, y, hd, rx, he, ry, p, n, hu => by
    have hu : A.units < cLine := by omega
    cases he
    obtain ⟨t, rfl⟩ := ry
    cases hd with
    | non => cases rx; exact EqAt.none_int j t
    | bl b => cases rx; exact EqAt.bool_int b j t
    | int i => obtain ⟨t2, rfl⟩ := rx; exact EqAt.int_int i t2 j t
    | str z => obtain ⟨t2, rfl⟩ := rx; exact EqAt.str_int z t2 j t
    | lst h _ r =>
      cases rx
      obtain ⟨its, rr, ⟨o, m, h1, h2, _, h3⟩, _⟩ := I.list (SqL.of h)
      exact EqAt.list_int j t ⟨_, h1, h2, _, h3⟩ hu
    | tup h r =>
      cases rx
      obtain ⟨its, rr, ⟨o, h1, h2, m, h3⟩, _⟩ := I.tuple (SqT.of h)
      exact EqAt.tuple_int j t ⟨_, h1, h2, _, h3⟩ hu
    | dic h l _ r =>
      cases rx
      obtain ⟨_, lo, kvs, kv, ⟨⟨c1, c2, c3, c4⟩, es, m, h1, ⟨hc, _, _⟩, h3, _, _, _⟩⟩ := dk_of I.hok h
      simp only at hc h3
      subst hc h3
      exact eqAt_dict_int j t ⟨_, _, _, _, h1⟩ hu
    | dit _ _ _ _ => cases p
    | ref _ => cases p
    | scr _ _ => cases p
  | d, .tup ys, A, v, u, x, y, hd, rx, he, ry, p, n, hu => by
    have hu0 : A.units < cLine := by omega
    cases he with
    | @tup b _ ws2 k r2 =>
    cases ry
    obtain ⟨its2, rr2, ⟨o2, k1, k2, m2, k3⟩, _⟩ := I.tuple (SqT.of k)
    have ht2 : s.heap.IsTuple _ its2.toArray := ⟨_, k1, k2, _, k3⟩
    cases hd with
    | non => cases rx; exact EqAt.none_tuple ht2 hu0
    | bl b => cases rx; exact EqAt.bool_tuple b ht2 hu0
    | int i => obtain ⟨t2, rfl⟩ := rx; exact EqAt.int_tuple i t2 ht2 hu0
    | str z => obtain ⟨t2, rfl⟩ := rx; exact EqAt.str_tuple z t2 ht2 hu0
    | lst h _ r =>
      cases rx
      obtain ⟨its, rr, ⟨o, m, h1, h2, _, h3⟩, _⟩ := I.list (SqL.of h)
      exact EqAt.list_tuple ⟨_, h1, h2, _, h3⟩ ht2 hu0
    | @tup l xs ws h r =>
      cases rx
      obtain ⟨its, rr, ⟨o, h1, h2, m, h3⟩, _⟩ := I.tuple (SqT.of h)
      have ht : s.heap.IsTuple l its.toArray := ⟨_, h1, h2, _, h3⟩
      show EqAt A s (.ref l) (.ref b) (D.eqvs xs ys)
      by_cases hll : l = b
      · subst hll
        rw [h] at k
        cases k
        rw [rds_one ys _ _ r r2 p (nts_plq ys n), nts_refl ys n]
        exact EqAt.same _
      · rw [← pairD_all xs ys]
        have n1 : xs.length = its.toArray.size := by rw [List.size_toArray, r.length, rr.length]
        have n2 : ys.length = its2.toArray.size := by rw [List.size_toArray, r2.length, rr2.length]
        rw [n1, n2]
        refine EqAt.of_refs hll (RcAt.tuples ht ht2 hu0 fun j j1 j2 => ?_)
        have := eqAtQs I xs ys A.in1 _ _ _ _ r rr r2 rr2 p n (by have : A.units + (D.deps ys + 1) < cLine := hu; show A.units + 1 + D.deps ys < cLine; omega) j (by simpa using j1) (by simpa using j2)
        simpa using this
    | dic h l _ r =>
      cases rx
      obtain ⟨_, lo, kvs, kv, ⟨⟨c1, c2, c3, c4⟩, es, m, h1, ⟨hc, _, _⟩, h3, _, _, _⟩⟩ := dk_of I.hok h
      simp only at hc h3
      subst hc h3
      exact eqAt_dict_tuple ⟨_, _, _, _, h1⟩ ht2 hu0
    | dit _ _ _ _ => cases p
    | ref _ => cases p
    | scr _ _ => cases p
  | _, .non, _, _, _, _, _, _, _, _, _, _, n, _ | _, .bl _, _, _, _, _, _, _, _, _, _, _, n, _ | _, .str _, _, _, _, _, _, _, _, _, _, _, n, _ | _, .lst _, _, _, _, _, _, _, _, _, _, _, n, _ | _, .dic _ _, _, _, _, _, _, _, _, _, _, _, n, _ | _, .dit _ _, _, _, _, _, _, _, _, _, _, _, n, _ | _, .ref _, _, _, _, _, _, _, _, _, _, _, n, _ | _, .scr _, _, _, _, _, _, _, _, _, _, _, n, _ => nomatch n
theorem eqAtQs (I : Inv X pins σ H s) : ∀ (ds es : List D) (A : Around) (vs us : List Value) (xs ys : List V), RDs X.K g H ds xs → Vals xs vs → RDs X.K g H es ys → Vals ys us → D.plqs ds = true → D.nts es = true → A.units + D.deps es < cLine →
    ∀ j (h1 : j < vs.length) (h2 : j < us.length), EqAt A s vs[j] us[j] (pairD ds es j)
  | [], _, _, _, _, _, _, hd, rx, _, _, _, _, _, j, h1, _ => by cases hd; cases rx; exact absurd h1 (Nat.not_lt_zero _)
  | _ :: _, [], _, _, _, _, _, _, _, he, ry, _, _, _, j, _, h2 => by cases he; cases ry; exact absurd h2 (Nat.not_lt_zero _)
  | d :: ds, e :: es, A, _, _, _, _, hd, rx, he, ry, p, n, hu, j, h1, h2 => by
    have p' : (D.plq d && D.plqs ds) = true := p
    have n' : (D.nt e && D.nts es) = true := n
    have hu' : A.units + max (D.dep e) (D.deps es) < cLine := hu
    rw [Bool.and_eq_true] at p' n'
    cases hd with
    | cons a1 a2 =>
    cases rx with
    | cons b1 b2 =>
    cases he with
    | cons c1 c2 =>
    cases ry with
    | cons d1 d2 =>
    cases j with
    | zero => exact eqAtQ I d e A _ _ _ _ a1 b1 c1 d1 p'.1 n'.1 (by omega)
    | succ j => exact eqAtQs I ds es A _ _ _ _ a2 b2 c2 d2 p'.2 n'.2 (by omega) j (Nat.lt_of_succ_lt_succ h1) (Nat.lt_of_succ_lt_succ h2)
end
theorem eqAt_tuple_dict {l b : Addr} {items2 : Array Value} (hl : IsDct s.heap l) (hb : s.heap.IsTuple b items2) {A : Around} (hu : A.units < cLine) : EqAt A s (.ref b) (.ref l) false := .of_refs (Ne.symm (ne_of_dict_tuple hl hb)) fun prog w E Q h => by
  have hne := Ne.symm (ne_of_dict_tuple hl hb)
  obtain ⟨es, n, dd, sl, ho⟩ := hl
  obtain ⟨⟨cls2, dd2, data2, sl2⟩, ho2, hc2, n2, hd2⟩ := id hb
  simp only at hc2 hd2
  subst hc2 hd2
  exact (rc_eq_decline_or (k := false) ⟨_, ho2, rfl⟩ ⟨_, ho, rfl⟩ (by decide) F.sub_dict_tuple F.slot_tuple_eq F.slot_dict_eq_refl
    (fun _ hq => call_meets F.slot_tuple_eq ⟨_, ho2, rfl⟩ F.entry_tuple_eq (F.args_tuple_eq_2 _ _) (tuple_eq_declines_dict b l items2 es n2 n dd2 dd sl2 sl) ⟨ho2, ho, hq⟩)
    (fun _ hq => call_meets F.slot_dict_eq_refl ⟨_, ho, rfl⟩ F.entry_dict_eq (F.args_dict_eq_2 _ _) (dict_eq_declines_tuple l b es items2 n n2 dd dd2 sl sl2) ⟨ho, ho2, hq⟩)
    (fun _ hq => wpAny_isSame_ref_other' hne ho2 ho (by simp) hq) (.inr hu) h)
mutual
theorem eqAtR (I : Inv X pins σ H s) : ∀ (e d : D) (A : Around) (u v : Value) (y x : V), RD X.K g H e y → RelV y u → RD X.K g H d x → RelV x v → e.nt = true → d.plq = true → A.units + e.dep < cLine → EqAt A s u v (D.eqv e d)
  | .int j, d, A, u, v, y, x, he, ry, hd, rx, n, p, hu => by
    have hu : A.units < cLine := by omega
    cases he
    obtain ⟨t, rfl⟩ := ry
    cases hd with
    | non => cases rx; exact EqAt.int_none j t
    | bl b => cases rx; exact EqAt.int_bool j t b
    | int i => obtain ⟨t2, rfl⟩ := rx; exact EqAt.int_int j t i t2
    | str z => obtain ⟨t2, rfl⟩ := rx; exact EqAt.int_str j t z t2
    | lst h _ r =>
      cases rx
      obtain ⟨its, rr, ⟨o, m, h1, h2, _, h3⟩, _⟩ := I.list (SqL.of h)
      exact EqAt.int_list j t ⟨_, h1, h2, _, h3⟩ hu
    | tup h r =>
      cases rx
      obtain ⟨its, rr, ⟨o, h1, h2, m, h3⟩, _⟩ := I.tuple (SqT.of h)
      exact EqAt.int_tuple j t ⟨_, h1, h2, _, h3⟩ hu
    | dic h l _ r =>
      cases rx
      obtain ⟨_, lo, kvs, kv, ⟨⟨c1, c2, c3, c4⟩, es, m, h1, ⟨hc, _, _⟩, h3, _, _, _⟩⟩ := dk_of I.hok h
      simp only at hc h3
      subst hc h3
      exact eqAt_int_dict j t ⟨_, _, _, _, h1⟩ hu
    | dit _ _ _ _ => cases p
    | ref _ => cases p
    | scr _ _ => cases p
  | .tup ys, d, A, u, v, y, x, he, ry, hd, rx, n, p, hu => by
    have hu0 : A.units < cLine := by omega
    cases he with
    | @tup b _ ws2 k r2 =>
    cases ry
    obtain ⟨its2, rr2, ⟨o2, k1, k2, m2, k3⟩, _⟩ := I.tuple (SqT.of k)
    have ht2 : s.heap.IsTuple _ its2.toArray := ⟨_, k1, k2, _, k3⟩
    cases hd with
    | non => cases rx; exact EqAt.tuple_none ht2 hu0
    | bl b => cases rx; exact EqAt.tuple_bool b ht2 hu0
    | int i => obtain ⟨t2, rfl⟩ := rx; exact EqAt.tuple_int i t2 ht2 hu0
    | str z => obtain ⟨t2, rfl⟩ := rx; exact EqAt.tuple_str z t2 ht2 hu0
    | lst h _ r =>
      cases rx
      obtain ⟨its, rr, ⟨o, m, h1, h2, _, h3⟩, _⟩ := I.list (SqL.of h)
      exact EqAt.tuple_list ht2 ⟨_, h1, h2, _, h3⟩ hu0
    | @tup l xs ws h r =>
      cases rx
      obtain ⟨its, rr, ⟨o, h1, h2, m, h3⟩, _⟩ := I.tuple (SqT.of h)
      have ht : s.heap.IsTuple l its.toArray := ⟨_, h1, h2, _, h3⟩
      show EqAt A s (.ref b) (.ref l) (D.eqvs ys xs)
      by_cases hll : b = l
      · subst hll
        rw [h] at k
        cases k
        rw [rds_one ys _ _ r r2 p (nts_plq ys n), nts_refl ys n]
        exact EqAt.same _
      · rw [← pairD_all ys xs]
        have n1 : xs.length = its.toArray.size := by rw [List.size_toArray, r.length, rr.length]
        have n2 : ys.length = its2.toArray.size := by rw [List.size_toArray, r2.length, rr2.length]
        rw [n1, n2]
        refine EqAt.of_refs hll (RcAt.tuples ht2 ht hu0 fun j j1 j2 => ?_)
        have := eqAtRs I ys xs A.in1 _ _ _ _ r2 rr2 r rr n p (by have : A.units + (D.deps ys + 1) < cLine := hu; show A.units + 1 + D.deps ys < cLine; omega) j (by simpa using j1) (by simpa using j2)
        simpa using this
    | dic h l _ r =>
      cases rx
      obtain ⟨_, lo, kvs, kv, ⟨⟨c1, c2, c3, c4⟩, es, m, h1, ⟨hc, _, _⟩, h3, _, _, _⟩⟩ := dk_of I.hok h
      simp only at hc h3
      subst hc h3
      exact eqAt_tuple_dict ⟨_, _, _, _, h1⟩ ht2 hu0
    | dit _ _ _ _ => cases p
    | ref _ => cases p
    | scr _ _ => cases p
  | .non, _, _, _, _, _, _, _, _, _, _, n, _, _ | .bl _, _, _, _, _, _, _, _, _, _, _, n, _, _ | .str _, _, _, _, _, _, _, _, _, _, _, n, _, _ | .lst _, _, _, _, _, _, _, _, _, _, _, n, _, _ | .dic _ _, _, _, _, _, _, _, _, _, _, _, n, _, _ | .dit _ _, _, _, _, _, _, _, _, _, _, _, n, _, _ | .ref _, _, _, _, _, _, _, _, _, _, _, n, _, _ | .scr _, _, _, _, _, _, _, _, _, _, _, n, _, _ => nomatch n
theorem eqAtRs (I : Inv X pins σ H s) : ∀ (es ds : List D) (A : Around) (us vs : List Value) (ys xs : List V), RDs X.K g H es ys → Vals ys us → RDs X.K g H ds xs → Vals xs vs → D.nts es = true → D.plqs ds = true → A.units + D.deps es < cLine →
    ∀ j (h2 : j < us.length) (h1 : j < vs.length), EqAt A s us[j] vs[j] (pairD es ds j)
  | [], _, _, _, _, _, _, he, ry, _, _, _, _, _, j, h2, _ => by cases he; cases ry; exact absurd h2 (Nat.not_lt_zero _)
  | _ :: _, [], _, _, _, _, _, _, _, hd, rx, _, _, _, j, _, h1 => by cases hd; cases rx; exact absurd h1 (Nat.not_lt_zero _)
  | e :: es, d :: ds, A, _, _, _, _, he, ry, hd, rx, n, p, hu, j, h2, h1 => by
    have p' : (D.plq d && D.plqs ds) = true := p
    have n' : (D.nt e && D.nts es) = true := n
    have hu' : A.units + max (D.dep e) (D.deps es) < cLine := hu
    rw [Bool.and_eq_true] at p' n'
    cases hd with
    | cons a1 a2 =>
    cases rx with
    | cons b1 b2 =>
    cases he with
    | cons c1 c2 =>
    cases ry with
    | cons d1 d2 =>
    cases j with
    | zero => exact eqAtR I e d A _ _ _ _ c1 d1 a1 b1 n'.1 p'.1 (by omega)
    | succ j => exact eqAtRs I es ds A _ _ _ _ c2 d2 a2 b2 n'.2 p'.2 (by omega) j (Nat.lt_of_succ_lt_succ h2) (Nat.lt_of_succ_lt_succ h1)
end
theorem eqAtN (I : Inv X pins σ H s) {e d : D} {A : Around} {u v : Value} {y x : V} (he : RD X.K g H e y) (ry : RelV y u) (hd : RD X.K g H d x) (rx : RelV x v) (n : e.ntn = true) (p : d.plq = true) (hu : A.units + e.dep < cLine) : EqAt A s u v (D.eqv e d) := by
  unfold D.ntn at n
  rw [Bool.or_eq_true] at n
  rcases n with n | n
  · exact eqAtR I e d A u v y x he ry hd rx n p hu
  · have hu0 : A.units < cLine := by omega
    cases e with
    | non =>
      cases he
      cases ry
      cases hd with
      | non => cases rx; exact EqAt.same _
      | bl b => cases rx; exact EqAt.none_bool b
      | int i => obtain ⟨t2, rfl⟩ := rx; exact EqAt.none_int i t2
      | str z => obtain ⟨t2, rfl⟩ := rx; exact EqAt.none_str z t2
      | lst h _ r =>
        cases rx
        obtain ⟨its, rr, ⟨o, m, h1, h2, _, h3⟩, _⟩ := I.list (SqL.of h)
        exact EqAt.none_list ⟨_, h1, h2, _, h3⟩ hu0
      | tup h r =>
        cases rx
        obtain ⟨its, rr, ⟨o, h1, h2, m, h3⟩, _⟩ := I.tuple (SqT.of h)
        exact EqAt.none_tuple ⟨_, h1, h2, _, h3⟩ hu0
      | dic h l _ r =>
        cases rx
        obtain ⟨_, lo, kvs, kv, ⟨⟨c1, c2, c3, c4⟩, es, m, h1, ⟨hc, _, _⟩, h3, _, _, _⟩⟩ := dk_of I.hok h
        simp only at hc h3
        subst hc h3
        exact eqAt_none_dict ⟨_, _, _, _, h1⟩ hu0
      | dit _ _ _ _ => cases p
      | ref _ => cases p
      | scr _ _ => cases p
    | _ => cases n
theorem rcAtQ (I : Inv X pins σ H s) {d : D} {ys : List D} {A : Around} {v u : Value} {x y : V} (hd : RD X.K g H d x) (rx : RelV x v) (he : RD X.K g H (.tup ys) y) (ry : RelV y u) (p : d.plq = true) (n : D.nts ys = true) (hu : A.units + 1 + D.deps ys < cLine) : RcAt A s v u (D.eqv d (.tup ys)) := by
    have hu0 : A.units < cLine := by omega
    cases he with
    | @tup b _ ws2 k r2 =>
    cases ry
    obtain ⟨its2, rr2, ⟨o2, k1, k2, m2, k3⟩, _⟩ := I.tuple (SqT.of k)
    have ht2 : s.heap.IsTuple _ its2.toArray := ⟨_, k1, k2, _, k3⟩
    cases hd with
    | non => cases rx; exact RcAt.none_tuple ht2 hu0
    | bl b => cases rx; exact RcAt.bool_tuple b ht2 hu0
    | int i => obtain ⟨t2, rfl⟩ := rx; exact RcAt.int_tuple i t2 ht2 hu0
    | str z => obtain ⟨t2, rfl⟩ := rx; exact RcAt.str_tuple z t2 ht2 hu0
    | lst h _ r =>
      cases rx
      obtain ⟨its, rr, ⟨o, m, h1, h2, _, h3⟩, _⟩ := I.list (SqL.of h)
      exact RcAt.list_tuple ⟨_, h1, h2, _, h3⟩ ht2 hu0
    | @tup l xs ws h r =>
      cases rx
      obtain ⟨its, rr, ⟨o, h1, h2, m, h3⟩, _⟩ := I.tuple (SqT.of h)
      have ht : s.heap.IsTuple l its.toArray := ⟨_, h1, h2, _, h3⟩
      show RcAt A s (.ref l) (.ref b) (D.eqvs xs ys)
      rw [← pairD_all xs ys]
      have n1 : xs.length = its.toArray.size := by rw [List.size_toArray, r.length, rr.length]
      have n2 : ys.length = its2.toArray.size := by rw [List.size_toArray, r2.length, rr2.length]
      rw [n1, n2]
      refine RcAt.tuples ht ht2 hu0 fun j j1 j2 => ?_
      have := eqAtQs I xs ys A.in1 _ _ _ _ r rr r2 rr2 p n hu j (by simpa using j1) (by simpa using j2)
      simpa using this
    | dic h l _ r =>
      cases rx
      obtain ⟨_, lo, kvs, kv, ⟨⟨c1, c2, c3, c4⟩, es, m, h1, ⟨hc, _, _⟩, h3, _, _, _⟩⟩ := dk_of I.hok h
      simp only at hc h3
      subst hc h3
      exact rcAt_dict_tuple ⟨_, _, _, _, h1⟩ ht2 hu0
    | dit _ _ _ _ => cases p
    | ref _ => cases p
    | scr _ _ => cases p
theorem itemsQ (I : Inv X pins σ H s) {a : D} {x : V} {v : Value} (ha : RD X.K g H a x) (rx : RelV x v) (n : a.nt = true) (hu : X.A.units + 1 + a.dep < cLine) {xs : List D} {ws : List V} {its : List Value} (r : RDs X.K g H xs ws) (rr : Vals ws its) (p : D.plqs xs = true) :
    ∃ e : Value → Bool, (∀ y ∈ its, EqAt X.A.in1 s y v (e y)) ∧ its.any e = xs.any fun y => D.eqv y a := by
  classical
  let e : Value → Bool := fun y => decide (∃ (d : D) (z : V), RD X.K g H d z ∧ RelV z y ∧ d.plq = true ∧ D.eqv d a = true)
  have same : ∀ (d : D) (z : V) (y : Value), RD X.K g H d z → RelV z y → d.plq = true → e y = D.eqv d a := fun d z y h1 h2 h3 => by
    cases q : D.eqv d a with
    | true => exact decide_eq_true ⟨d, z, h1, h2, h3, q⟩
    | false =>
      refine decide_eq_false ?_
      rintro ⟨d2, z2, k1, k2, k3, k4⟩
      have ez := L2.RelV.inj h2 k2
      subst ez
      rw [rd_one _ _ _ h1 k1 h3 k3, k4] at q
      cases q
  refine ⟨e, ?_⟩
  induction xs generalizing ws its with
  | nil =>
    cases r
    cases rr
    exact ⟨(fun y hy => by cases hy), rfl⟩
  | cons d ds ih =>
    cases r with
    | cons r1 r2 =>
    cases rr with
    | cons q1 q2 =>
    have p' : (D.plq d && D.plqs ds) = true := p
    rw [Bool.and_eq_true] at p'
    obtain ⟨i1, i2⟩ := ih r2 q2 p'.2
    have e1 := same d _ _ r1 q1 p'.1
    refine ⟨fun y hy => ?_, ?_⟩
    · rcases List.mem_cons.mp hy with rfl | hy
      · rw [e1]
        exact eqAtQ I d a X.A.in1 _ _ _ _ r1 q1 ha rx p'.1 n hu
      · exact i1 y hy
    · rw [List.any_cons, List.any_cons, e1, i2]
theorem itemsN (I : Inv X pins σ H s) {a : D} {x : V} {v : Value} (ha : RD X.K g H a x) (rx : RelV x v) (p : a.plq = true) {xs : List D} {ws : List V} {its : List Value} (r : RDs X.K g H xs ws) (rr : Vals ws its) (n : xs.all D.ntn = true) (hu : X.A.units + 1 + D.deps xs < cLine) :
    ∃ e : Value → Bool, (∀ y ∈ its, EqAt X.A.in1 s y v (e y)) ∧ its.any e = xs.any fun y => D.eqv y a := by
  classical
  let e : Value → Bool := fun y => decide (∃ (d : D) (z : V), RD X.K g H d z ∧ RelV z y ∧ d.ntn = true ∧ D.eqv d a = true)
  have np : ∀ d : D, d.ntn = true → d.plq = true := fun d h => by
    unfold D.ntn at h
    rw [Bool.or_eq_true] at h
    rcases h with h | h
    · exact nt_plq d h
    · cases d with
      | non => unfold D.plq; rfl
      | _ => cases h
  have same : ∀ (d : D) (z : V) (y : Value), RD X.K g H d z → RelV z y → d.ntn = true → e y = D.eqv d a := fun d z y h1 h2 h3 => by
    cases q : D.eqv d a with
    | true => exact decide_eq_true ⟨d, z, h1, h2, h3, q⟩
    | false =>
      refine decide_eq_false ?_
      rintro ⟨d2, z2, k1, k2, k3, k4⟩
      have ez := L2.RelV.inj h2 k2
      subst ez
      rw [rd_one _ _ _ h1 k1 (np _ h3) (np _ k3), k4] at q
      cases q
  refine ⟨e, ?_⟩
  induction xs generalizing ws its with
  | nil =>
    cases r
    cases rr
    exact ⟨(fun y hy => by cases hy), rfl⟩
  | cons d ds ih =>
    cases r with
    | cons r1 r2 =>
    cases rr with
    | cons q1 q2 =>
    rw [List.all_cons, Bool.and_eq_true] at n
    have hu' : X.A.units + 1 + max (D.dep d) (D.deps ds) < cLine := hu
    obtain ⟨i1, i2⟩ := ih r2 q2 n.2 (by omega)
    have e1 := same d _ _ r1 q1 n.1
    refine ⟨fun y hy => ?_, ?_⟩
    · rcases List.mem_cons.mp hy with rfl | hy
      · rw [e1]
        exact eqAtN I r1 q1 ha rx n.1 p (by show X.A.units + 1 + D.dep d < cLine; omega)
      · exact i1 y hy
    · rw [List.any_cons, List.any_cons, e1, i2]
theorem all_ntn_plqs : ∀ {xs : List D}, xs.all D.ntn = true → D.plqs xs = true
  | [], _ => by unfold D.plqs; rfl
  | x :: xs, h => by
    rw [List.all_cons, Bool.and_eq_true] at h
    have hx : x.plq = true := by
      have h := h.1
      unfold D.ntn at h
      rw [Bool.or_eq_true] at h
      rcases h with h | h
      · exact nt_plq x h
      · cases x with
        | non => unfold D.plq; rfl
        | _ => cases h
    unfold D.plqs
    rw [hx, all_ntn_plqs h.2]; rfl
theorem op_inN (I : Inv X pins σ H s) {a b : D} {x y : V} {v u : Value} {Q : VK} (ha : Vw X.K g H x a) (hb : Vw X.K g H y b) (rx : RelV x v) (ry : RelV y u) (pa : a.plq = true) (hu : X.A.units + 66 < cLine) {xs : List D} (hd : D.deps xs ≤ 60) (hc : b = .lst xs ∨ b = .tup xs) (n : xs.all D.ntn = true) (neg : Bool)
    (q : Q (.bl (if neg then !(xs.any fun y => D.eqv y a) else (xs.any fun y => D.eqv y a))) H) : wpAny (model X.prog X.w) X.A (compareOp (if neg then .NotIn else .In) v u) (EP X pins σ Q) X.xe s := by
  have p := all_ntn_plqs n
  have ha' := vw_free ha pa
  have hb' := vw_free hb (by rcases hc with rfl | rfl <;> (unfold D.plq; exact p))
  have hq : EP X pins σ Q (.bool (if neg then !(xs.any fun y => D.eqv y a) else (xs.any fun y => D.eqv y a))) s := ⟨.bl _, H, I, rfl, q⟩
  rcases hc with rfl | rfl
  · cases hb' with
    | lst h _ r =>
    cases ry
    obtain ⟨its, rr, ⟨o, m, h1, h2, _, h3⟩, _⟩ := I.list (SqL.of h)
    obtain ⟨e, e1, e2⟩ := itemsN I ha' rx pa r rr n (by omega)
    have ea : its.toArray.any e = xs.any fun y => D.eqv y a := by rw [List.any_toArray]; exact e2
    rw [← ea] at hq
    cases neg
    · exact in_listAt e ⟨_, h1, h2, _, h3⟩ (fun y hy => e1 y (by simpa using hy)) hq
    · exact notIn_listAt e ⟨_, h1, h2, _, h3⟩ (fun y hy => e1 y (by simpa using hy)) hq
  · cases hb' with
    | tup h r =>
    cases ry
    obtain ⟨its, rr, ⟨o, h1, h2, m, h3⟩, _⟩ := I.tuple (SqT.of h)
    obtain ⟨e, e1, e2⟩ := itemsN I ha' rx pa r rr n (by omega)
    have ea : its.toArray.any e = xs.any fun y => D.eqv y a := by rw [List.any_toArray]; exact e2
    rw [← ea] at hq
    cases neg
    · exact in_tupleAt e ⟨_, h1, h2, _, h3⟩ (fun y hy => e1 y (by simpa using hy)) hq
    · exact notIn_tupleAt e ⟨_, h1, h2, _, h3⟩ (fun y hy => e1 y (by simpa using hy)) hq
theorem op_inQ (I : Inv X pins σ H s) {a b : D} {x y : V} {v u : Value} {Q : VK} (ha : Vw X.K g H x a) (hb : Vw X.K g H y b) (rx : RelV x v) (ry : RelV y u) (n : a.nt = true) (hu : X.A.units + 66 < cLine) (hd : a.dep ≤ 64) {xs : List D} (hc : b = .lst xs ∨ b = .tup xs) (p : D.plqs xs = true) (neg : Bool)
    (q : Q (.bl (if neg then !(xs.any fun y => D.eqv y a) else (xs.any fun y => D.eqv y a))) H) : wpAny (model X.prog X.w) X.A (compareOp (if neg then .NotIn else .In) v u) (EP X pins σ Q) X.xe s := by
  have ha' := vw_free ha (nt_plq a n)
  have hb' := vw_free hb (by rcases hc with rfl | rfl <;> (unfold D.plq; exact p))
  have hq : EP X pins σ Q (.bool (if neg then !(xs.any fun y => D.eqv y a) else (xs.any fun y => D.eqv y a))) s := ⟨.bl _, H, I, rfl, q⟩
  rcases hc with rfl | rfl
  · cases hb' with
    | lst h _ r =>
    cases ry
    obtain ⟨its, rr, ⟨o, m, h1, h2, _, h3⟩, _⟩ := I.list (SqL.of h)
    obtain ⟨e, e1, e2⟩ := itemsQ I ha' rx n (by omega) r rr p
    have ea : its.toArray.any e = xs.any fun y => D.eqv y a := by rw [List.any_toArray]; exact e2
    rw [← ea] at hq
    cases neg
    · exact in_listAt e ⟨_, h1, h2, _, h3⟩ (fun y hy => e1 y (by simpa using hy)) hq
    · exact notIn_listAt e ⟨_, h1, h2, _, h3⟩ (fun y hy => e1 y (by simpa using hy)) hq
  · cases hb' with
    | tup h r =>
    cases ry
    obtain ⟨its, rr, ⟨o, h1, h2, m, h3⟩, _⟩ := I.tuple (SqT.of h)
    obtain ⟨e, e1, e2⟩ := itemsQ I ha' rx n (by omega) r rr p
    have ea : its.toArray.any e = xs.any fun y => D.eqv y a := by rw [List.any_toArray]; exact e2
    rw [← ea] at hq
    cases neg
    · exact in_tupleAt e ⟨_, h1, h2, _, h3⟩ (fun y hy => e1 y (by simpa using hy)) hq
    · exact notIn_tupleAt e ⟨_, h1, h2, _, h3⟩ (fun y hy => e1 y (by simpa using hy)) hq
end
end Eng
end

section
namespace Eng
open PySem PySem.Spec PyProof.Rows L2

section
variable {X : Cx} {W : WX} {g : Gh} {fr : Frame} {S : Store} {H : Hp} {σ σ' : L2.St} {Q : VK}
theorem fin_old {d : D} {x : V} (h : Aft X.K X.mg W (rV X.K X.mg) g H σ (.ok (.fz d) fr S) Q) (rel : Rel X.K X.mg g fr S σ H) (r : RD X.K g H d x) : Q x H := h g H x Keep.refl rel ⟨rfl, r⟩
theorem fin_tup {xs : List D} {vs : List V} {p : Addr} (h : Aft X.K X.mg W (rV X.K X.mg) g H σ (.ok (.fz (.tup xs)) fr S) Q) (rel : Rel X.K X.mg g fr S σ H) (r : RDs X.K g H xs vs) (hp : H p = none) : Q (.ref p) (upd H p (.tup vs)) :=
  h g _ _ (Grows.fresh hp).keep (rel.grows (Grows.fresh hp)) ⟨rfl, .tup upd_same (r.mono (Grows.fresh hp).mono)⟩
theorem fin_lst {xs : List D} {vs : List V} {p : Addr} (h : Aft X.K X.mg W (rV X.K X.mg) g H σ (.ok (.own (.lst xs)) fr S) Q) (rel : Rel X.K X.mg g fr S σ H) (r : RDs X.K g H xs vs) (hp : H p = none) : Q (.ref p) (upd H p (.lst vs)) :=
  h (g.push p) _ _ (keep_push hp) (rel.push hp) ⟨p, rfl, rfl, fun z => rel.st.fresh hp (.inr (.inr z)), vs, upd_same, r.mono (mono_push hp)⟩
end

def BK.op : BK → Operator
  | .add => .Add | .sub => .Sub | .mul => .Mult | .fdiv => .FloorDiv | .mod => .Mod | .pow => .Pow
def CK.op : CK → CmpOp
  | .eq => .Eq | .ne => .NotEq | .lt => .Lt | .le => .LtE | .gt => .Gt | .ge => .GtE | .inn => .In | .nin => .NotIn | .isN => .Is | .isnN => .IsNot

def rBin (X : Cx) (W : WX) (k : BK) : R2 := fun x y H Q => ∃ g fr S σ a b, Rel X.K X.mg g fr S σ H ∧ Vw X.K g H x a ∧ Vw X.K g H y b ∧ Aft X.K X.mg W (rV X.K X.mg) g H σ (RX.lift (binD k a b) fr S) Q
def rCmp (X : Cx) (W : WX) (k : CK) : R2 := fun x y H Q => ∃ g fr S σ a b, Rel X.K X.mg g fr S σ H ∧ Vw X.K g H x a ∧ Vw X.K g H y b ∧
  Aft X.K X.mg W (rV X.K X.mg) g H σ (RX.lift ((cmpD k a b).map fun r => Val.fz (.bl r)) fr S) Q

section
variable {X : Cx} {W : WX}
theorem op_bin (k : BK) : OpR X (binaryOp k.op) (rBin X W k) := by
  intro pins s σ H x y v u Q I rx ry ⟨g, fr, S, σ', a, b, rel, va, vb, h⟩
  cases k with
  | add =>
    cases a <;> cases b <;> first | exact False.elim h | skip
    · obtain rfl := RD.of_int va; obtain rfl := RD.of_int vb
      exact op_add pins s σ H _ _ v u Q I rx ry ⟨_, _, rfl, rfl, fin_old h rel (.int _)⟩
    · obtain rfl := RD.of_str va; obtain rfl := RD.of_str vb
      rename_i i j
      have h' : Aft X.K X.mg W (rV X.K X.mg) g H σ' (RX.lift (if i.length + j.length ≤ sizeLine then some (Val.fz (.str (i ++ j))) else none) fr S) Q := h
      by_cases hc : i.length + j.length ≤ sizeLine
      · rw [if_pos hc] at h'
        exact op_add_str pins s σ H _ _ v u Q I rx ry ⟨_, _, rfl, rfl, hc, fin_old h' rel (.str _)⟩
      · rw [if_neg hc] at h'; exact False.elim h'
    · rename_i xs ys
      obtain ⟨a1, vs, rfl, h1, h2⟩ := va
      obtain ⟨b1, ws, rfl, h3, h4⟩ := vb
      have h' : Aft X.K X.mg W (rV X.K X.mg) g H σ' (RX.lift (if xs.length + ys.length ≤ sizeLine then some (Val.own (.lst (xs ++ ys))) else none) fr S) Q := h
      by_cases hc : xs.length + ys.length ≤ sizeLine
      · rw [if_pos hc] at h'
        exact op_cat pins s σ H _ _ v u Q I rx ry ⟨_, _, _, _, rfl, rfl, h1, h3, by rw [← h2.length, ← h4.length]; exact hc, fun p hp => fin_lst h' rel (h2.append h4) hp⟩
      · rw [if_neg hc] at h'; exact False.elim h'
    · rename_i xs ys
      obtain ⟨a1, vs, rfl, h1, h2⟩ := RD.of_tupX va
      obtain ⟨b1, ws, rfl, h3, h4⟩ := RD.of_tupX vb
      have h' : Aft X.K X.mg W (rV X.K X.mg) g H σ' (RX.lift (if xs.length + ys.length ≤ sizeLine then some (Val.fz (.tup (xs ++ ys))) else none) fr S) Q := h
      by_cases hc : xs.length + ys.length ≤ sizeLine
      · rw [if_pos hc] at h'
        refine op_catA pins s σ H _ _ v u Q I rx ry ⟨_, _, _, _, rfl, rfl, SqT.of h1, SqT.of h3, by rw [← h2.length, ← h4.length]; exact hc, fun e => ?_, fun _ e => ?_, fun _ _ p hp => fin_tup h' rel (h2.append h4) hp⟩
        · subst e
          cases h2
          exact fin_old h' rel (.tup h3 h4)
        · subst e
          cases h4
          rw [List.append_nil] at h'
          exact fin_old h' rel (.tup h1 h2)
      · rw [if_neg hc] at h'; exact False.elim h'
  | sub =>
    cases a <;> cases b <;> first | exact False.elim h | skip
    obtain rfl := RD.of_int va; obtain rfl := RD.of_int vb
    exact op_sub pins s σ H _ _ v u Q I rx ry ⟨_, _, rfl, rfl, fin_old h rel (.int _)⟩
  | mul =>
    cases a <;> cases b <;> first | exact False.elim h | skip
    · obtain rfl := RD.of_int va; obtain rfl := RD.of_int vb
      rename_i i j
      have h' : Aft X.K X.mg W (rV X.K X.mg) g H σ' (RX.lift (if (-(2 ^ 64) < i ∧ i < 2 ^ 64) ∨ (-(2 ^ 64) < j ∧ j < 2 ^ 64) then some (Val.fz (.int (i * j))) else none) fr S) Q := h
      by_cases hc : (-(2 ^ 64) < i ∧ i < 2 ^ 64) ∨ (-(2 ^ 64) < j ∧ j < 2 ^ 64)
      · rw [if_pos hc] at h'
        exact op_mul pins s σ H _ _ v u Q I rx ry ⟨_, _, rfl, rfl, hc, fin_old h' rel (.int _)⟩
      · rw [if_neg hc] at h'; exact False.elim h'
    · rename_i xs k
      obtain ⟨a1, vs, rfl, h1, h2⟩ := va
      obtain rfl := RD.of_int vb
      have h' : Aft X.K X.mg W (rV X.K X.mg) g H σ' (RX.lift (if -(2 ^ 63) ≤ k ∧ k < 2 ^ 63 ∧ xs.length * k.toNat ≤ sizeLine then some (Val.own (.lst (List.replicate k.toNat xs).flatten)) else none) fr S) Q := h
      by_cases hc : -(2 ^ 63) ≤ k ∧ k < 2 ^ 63 ∧ xs.length * k.toNat ≤ sizeLine
      · rw [if_pos hc] at h'
        have rep : ∀ n : Nat, RDs X.K g H (List.replicate n xs).flatten (List.replicate n vs).flatten := fun n => by
          induction n with
          | zero => exact .nil
          | succ n ih => rw [List.replicate_succ, List.replicate_succ, List.flatten_cons, List.flatten_cons]; exact h2.append ih
        exact op_rep pins s σ H _ _ v u Q I rx ry ⟨_, _, _, rfl, rfl, h1, hc.1, hc.2.1, by rw [← h2.length]; exact hc.2.2, fun p hp => fin_lst h' rel (rep _) hp⟩
      · rw [if_neg hc] at h'; exact False.elim h'
    · rename_i xs k
      obtain ⟨a1, vs, rfl, h1, h2⟩ := RD.of_tupX va
      obtain rfl := RD.of_int vb
      have h' : Aft X.K X.mg W (rV X.K X.mg) g H σ' (RX.lift (if xs.isEmpty = false ∧ 2 ≤ k ∧ k ≤ 1000 ∧ xs.length ≤ 1000 then some (Val.fz (.tup (List.replicate k.toNat xs).flatten)) else none) fr S) Q := h
      by_cases hc : xs.isEmpty = false ∧ 2 ≤ k ∧ k ≤ 1000 ∧ xs.length ≤ 1000
      · rw [if_pos hc] at h'
        have rep : ∀ n : Nat, RDs X.K g H (List.replicate n xs).flatten (List.replicate n vs).flatten := fun n => by
          induction n with
          | zero => exact .nil
          | succ n ih => rw [List.replicate_succ, List.replicate_succ, List.flatten_cons, List.flatten_cons]; exact h2.append ih
        have ne : vs ≠ [] := fun z => by
          have := h2.length
          rw [z] at this
          have h0 := hc.1
          rw [List.eq_nil_of_length_eq_zero this] at h0; cases h0
        exact op_repT pins s σ H _ _ v u Q I rx ry ⟨_, _, _, rfl, rfl, SqT.of h1, ne, hc.2.1, hc.2.2.1, by rw [← h2.length]; exact hc.2.2.2, fun p hp => fin_tup h' rel (rep _) hp⟩
      · rw [if_neg hc] at h'; exact False.elim h'
  | fdiv =>
    cases a <;> cases b <;> first | exact False.elim h | skip
    obtain rfl := RD.of_int va; obtain rfl := RD.of_int vb
    rename_i i j
    have h' : Aft X.K X.mg W (rV X.K X.mg) g H σ' (RX.lift (if 0 < j ∧ j < 1073741824 then some (Val.fz (.int (i / j))) else none) fr S) Q := h
    by_cases hc : 0 < j ∧ j < 1073741824
    · rw [if_pos hc] at h'
      exact op_fdiv pins s σ H _ _ v u Q I rx ry ⟨_, _, rfl, rfl, hc, fin_old h' rel (.int _)⟩
    · rw [if_neg hc] at h'; exact False.elim h'
  | mod =>
    cases a <;> cases b <;> first | exact False.elim h | skip
    obtain rfl := RD.of_int va; obtain rfl := RD.of_int vb
    rename_i i j
    have h' : Aft X.K X.mg W (rV X.K X.mg) g H σ' (RX.lift (if 0 < j then some (Val.fz (.int (i % j))) else none) fr S) Q := h
    by_cases hc : 0 < j
    · rw [if_pos hc] at h'
      exact op_mod pins s σ H _ _ v u Q I rx ry ⟨_, _, rfl, rfl, hc, fin_old h' rel (.int _)⟩
    · rw [if_neg hc] at h'; exact False.elim h'
  | pow =>
    cases a <;> cases b <;> first | exact False.elim h | skip
    obtain rfl := RD.of_int va; obtain rfl := RD.of_int vb
    rename_i i j
    have h' : Aft X.K X.mg W (rV X.K X.mg) g H σ' (RX.lift (if 0 ≤ j ∧ j ≤ 1000000 ∧ i.natAbs < 2 ^ 64 then some (Val.fz (.int (i ^ j.toNat))) else none) fr S) Q := h
    by_cases hc : 0 ≤ j ∧ j ≤ 1000000 ∧ i.natAbs < 2 ^ 64
    · rw [if_pos hc] at h'
      exact op_pow pins s σ H _ _ v u Q I rx ry ⟨_, _, rfl, rfl, hc, fin_old h' rel (.int _)⟩
    · rw [if_neg hc] at h'; exact False.elim h'

theorem any_toPs {d : D} (hd : d.pl = true) : ∀ xs : List D, D.pls xs = true → ((D.toPs xs).any fun y => PyData.eqv y d.toP) = xs.any fun y => D.eqv y d
  | [], _ => rfl
  | x :: xs, h => by
    have h' : (D.pl x && D.pls xs) = true := h
    rw [Bool.and_eq_true] at h'
    show (PyData.eqv x.toP d.toP || (D.toPs xs).any _) = (D.eqv x d || xs.any _)
    rw [toP_eqv x d h'.1 hd, any_toPs hd xs h'.2]
section
variable {K : PySem.W.Frag} {g : Gh} {H : Hp}
theorem toKey_rel {d : D} {x : V} {k : Key} (r : RD K g H d x) (e : toKey d = some k) : x = kV k := by
  cases d <;> first | cases e | skip
  · exact RD.of_int r
  · exact RD.of_str r
theorem toKeys_rel : ∀ {ds : List D} {vs : List V} {ks : List Key}, RDs K g H ds vs → toKeys ds = some ks → vs = ks.map kV
  | _, _, _, .nil, e => by cases e; rfl
  | d :: ds, v :: vs, ks, .cons h t, e => by
    have e' : ((toKey d).bind fun k => (toKeys ds).map (k :: ·)) = some ks := e
    cases q : toKey d with
    | none => rw [q] at e'; cases e'
    | some k =>
      rw [q] at e'
      cases q2 : toKeys ds with
      | none => rw [q2] at e'; cases e'
      | some js =>
        rw [q2] at e'
        cases e'
        rw [toKey_rel h q, toKeys_rel t q2]; rfl
theorem keyT_rel {d : D} {x : V} {ks : List Key} (r : RD K g H d x) (e : keyT d = some ks) : ∃ b, x = .ref b ∧ H b = some (.tup (ks.map kV)) := by
  cases d <;> first | cases e | skip
  obtain ⟨b, vs, rfl, h1, h2⟩ := RD.of_tupX r
  rw [toKeys_rel h2 e] at h1
  exact ⟨b, rfl, h1⟩
theorem toKey_atom {d : D} {k : Key} (e : toKey d = some k) : d.atom = true := by cases d <;> first | rfl | cases e
theorem keyT_atom {d : D} {k : List Key} (e : keyT d = some k) : d.atom = true := by cases d <;> first | rfl | cases e
theorem Vw.rd {d : D} {x : V} (h : Vw K g H x d) (e : d.atom = true) : RD K g H d x := by cases d <;> first | exact h | cases e
variable {κ : Type} [DecidableEq κ]
theorem findK_rel {k : κ} : ∀ {ks : List κ} {ds : List D} {vs : List V}, RDs K g H ds vs → (∀ d, findK ks ds k = some d → ∃ v, valV (ks.zip vs) k = some v ∧ RD K g H d v) ∧ (findK ks ds k = none → valV (ks.zip vs) k = none)
  | [], _, _, _ => ⟨(fun _ e => nomatch e), (fun _ => by rw [List.zip_nil_left]; rfl)⟩
  | _ :: _, _, _, .nil => ⟨(fun _ e => nomatch e), (fun _ => by rw [List.zip_nil_right]; rfl)⟩
  | j :: ks, d :: ds, v :: vs, .cons h t => by
    have ih := findK_rel (k := k) (ks := ks) t
    rw [List.zip_cons_cons]
    by_cases e : j = k
    · rw [valV_pos (p := (j, v)) e]
      refine ⟨fun d' q => ⟨v, rfl, ?_⟩, fun q => ?_⟩
      · have q' : (if j = k then some d else findK ks ds k) = some d' := q
        rw [if_pos e] at q'; cases q'; exact h
      · have q' : (if j = k then some d else findK ks ds k) = none := q
        rw [if_pos e] at q'; cases q'
    · rw [valV_neg (p := (j, v)) e]
      have q : findK (j :: ks) (d :: ds) k = findK ks ds k := if_neg e
      rw [q]; exact ih
theorem findK_some {k : κ} {ks : List κ} {ds : List D} {vs : List V} (r : RDs K g H ds vs) : (valV (ks.zip vs) k).isSome = (findK ks ds k).isSome := by
  cases e : findK ks ds k with
  | none => rw [(findK_rel r).2 e]; rfl
  | some d =>
    obtain ⟨v, h, _⟩ := (findK_rel r).1 d e
    rw [h]; rfl
def optR (K : PySem.W.Frag) (g : Gh) (H : Hp) : Option D → Option V → Prop
  | none, none => True
  | some d, some v => RD K g H d v
  | _, _ => False
theorem findK_opt {k : κ} {ks : List κ} {ds : List D} {vs : List V} (rd : RDs K g H ds vs) : optR K g H (findK ks ds k) (valV (ks.zip vs) k) := by
  cases e : findK ks ds k with
  | none => rw [(findK_rel rd).2 e]; trivial
  | some d =>
    obtain ⟨v, h, q⟩ := (findK_rel rd).1 d e
    rw [h]; exact q
theorem dget_rel {a d : D} {x y : V} {r : Option D} (va : Vw K g H x a) (vb : Vw K g H y d) (e : dgetD a d = some r) : ∃ p o, x = .ref p ∧ DGet H p y o ∧ optR K g H r o := by
  cases a with
  | dic ks xs =>
    obtain ⟨p, vs, rfl, h1, h2, h3⟩ := va
    have e' : ((toKey d).map fun k => findK ks xs k) = some r := e
    cases q : toKey d with
    | none => rw [q] at e'; cases e'
    | some k =>
      rw [q] at e'
      obtain rfl := toKey_rel (vb.rd (toKey_atom q)) q
      refine ⟨p, _, rfl, DGet.k h1, ?_⟩
      rw [← Option.some.inj e']
      exact findK_opt h3
  | dit ks xs =>
    obtain ⟨p, vs, rfl, h1, h2, h3⟩ := va
    have e' : ((keyT d).map fun k => findK ks xs k) = some r := e
    cases q : keyT d with
    | none => rw [q] at e'; cases e'
    | some k =>
      rw [q] at e'
      obtain ⟨b, rfl, hb⟩ := keyT_rel (vb.rd (keyT_atom q)) q
      refine ⟨p, _, rfl, DGet.t h1 hb, ?_⟩
      rw [← Option.some.inj e']
      exact findK_opt h3
  | _ => cases e
end
theorem Vw.none_iff {K : PySem.W.Frag} {g : Gh} {H : Hp} {x : V} {d : D} (h : Vw K g H x d) : decide (x = .non) = d.isNon := by
  cases d with
  | non => obtain rfl := RD.of_non h; rfl
  | bl b => obtain rfl := RD.of_bl h; rfl
  | int b => obtain rfl := RD.of_int h; rfl
  | str b => obtain rfl := RD.of_str h; rfl
  | lst xs => obtain ⟨a, vs, rfl, _⟩ := h; rfl
  | dic ks xs => obtain ⟨a, vs, rfl, _⟩ := h; rfl
  | dit ks xs => obtain ⟨a, vs, rfl, _⟩ := h; rfl
  | tup xs => obtain ⟨a, vs, rfl, _⟩ := RD.of_tup h; rfl
  | ref n => obtain ⟨a, rfl, _⟩ := RD.of_ref h; rfl
  | scr xs => obtain ⟨a, vs, rfl, _⟩ := RD.of_scr h; rfl
theorem op_cmp (hu : X.A.units + 66 < cLine) (k : CK) : OpR X (compareOp k.op) (rCmp X W k) := by
  intro pins s σ H x y v u Q I rx ry ⟨g, fr, S, σ', a, b, rel, va, vb, h⟩
  have fin : ∀ r, cmpD k a b = some r → Q (.bl r) H := fun r e => by
    rw [e] at h
    exact fin_old h rel (.bl r)
  have some_of : ∃ r, cmpD k a b = some r := by
    cases e : cmpD k a b with
    | none => rw [e] at h; exact False.elim h
    | some r => exact ⟨r, rfl⟩
  obtain ⟨r, er⟩ := some_of
  have q := fin r er
  have data : D.fit a b = true → ∃ as bs, Reads s.heap v a.toP as ∧ Reads s.heap u b.toP bs ∧ a.toP.plain = true ∧ b.toP.plain = true ∧ X.A.units + min a.toP.depth b.toP.depth < cLine ∧ PyData.eqv a.toP b.toP = D.eqv a b := fun e => by
    unfold D.fit at e
    rw [Bool.and_eq_true, Bool.and_eq_true, decide_eq_true_iff] at e
    obtain ⟨⟨e1, e2⟩, e3⟩ := e
    obtain ⟨as, ra⟩ := Dp.reads I _ _ _ (va.dp e1) rx
    obtain ⟨bs, rb⟩ := Dp.reads I _ _ _ (vb.dp e2) ry
    exact ⟨as, bs, ra, rb, toP_plain a e1, toP_plain b e2, by rw [toP_dep a e1, toP_dep b e2]; omega, toP_eqv a b e1 e2⟩
  have nilc : ∀ r, nilD a b = some r → r = false ∧ ((∃ l m its, v = .ref l ∧ u = .ref m ∧ s.heap.IsList l its ∧ s.heap.IsList m #[] ∧ (its.size != (#[] : Array Value).size) = true) ∨ (∃ l m its, v = .ref l ∧ u = .ref m ∧ s.heap.IsTuple l its ∧ s.heap.IsTuple m #[] ∧ (its.size == (#[] : Array Value).size) = false)) := fun r e => by
    cases a with
    | lst xs => cases xs with
      | nil => cases b <;> cases e
      | cons x xs => cases b with
        | lst ys => cases ys with
          | nil =>
            cases e
            obtain ⟨l, vs, rfl, h1, h2⟩ := va
            obtain ⟨m, ws, rfl, h3, h4⟩ := vb
            cases h4
            cases h2
            cases rx
            cases ry
            obtain ⟨its, rv, ⟨o, n, ho, hc, _, hd⟩, _⟩ := I.list (SqL.of h1)
            obtain ⟨its2, rv2, ⟨o2, n2, ho2, hc2, _, hd2⟩, _⟩ := I.list (SqL.of h3)
            cases rv2
            cases rv
            exact ⟨rfl, .inl ⟨l, m, _, rfl, rfl, ⟨o, ho, hc, n, hd⟩, ⟨o2, ho2, hc2, n2, hd2⟩, by simp⟩⟩
          | cons _ _ => cases e
        | _ => cases e
    | tup xs => cases xs with
      | nil => cases b <;> cases e
      | cons x xs => cases b with
        | tup ys => cases ys with
          | nil =>
            cases e
            obtain ⟨l, vs, rfl, h1, h2⟩ := RD.of_tup va
            obtain ⟨m, ws, rfl, h3, h4⟩ := RD.of_tup vb
            cases h4
            cases h2
            cases rx
            cases ry
            obtain ⟨its, rv, t1, _⟩ := I.tuple h1
            obtain ⟨its2, rv2, t2, _⟩ := I.tuple h3
            cases rv2
            cases rv
            exact ⟨rfl, .inr ⟨l, m, _, rfl, rfl, t1, t2, by simp⟩⟩
          | cons _ _ => cases e
        | _ => cases e
    | _ => cases e
  have ord : ∀ p q, ordD p q a b = some r → (∃ i j, x = .int i ∧ y = .int j ∧ r = p i j) ∨ (r = q a b ∧ ∃ as bs, Reads s.heap v a.toP as ∧ Reads s.heap u b.toP bs ∧ PySem.W.alike a.toP b.toP = true ∧ a.toP ≠ .none ∧ X.A.units + min a.toP.depth b.toP.depth < cLine) := fun p q e => by
    have main : (if D.ordOk a b then some (q a b) else none) = some r → (∃ i j, x = .int i ∧ y = .int j ∧ r = p i j) ∨ (r = q a b ∧ ∃ as bs, Reads s.heap v a.toP as ∧ Reads s.heap u b.toP bs ∧ PySem.W.alike a.toP b.toP = true ∧ a.toP ≠ .none ∧ X.A.units + min a.toP.depth b.toP.depth < cLine) := fun e => by
      by_cases hf : D.ordOk a b = true
      · rw [if_pos hf] at e
        unfold D.ordOk at hf
        rw [Bool.and_eq_true, Bool.and_eq_true, Bool.and_eq_true, Bool.and_eq_true, decide_eq_true_iff] at hf
        obtain ⟨⟨⟨⟨e1, e2⟩, e3⟩, e4⟩, e5⟩ := hf
        obtain ⟨as, ra⟩ := Dp.reads I _ _ _ (va.dp e1) rx
        obtain ⟨bs, rb⟩ := Dp.reads I _ _ _ (vb.dp e2) ry
        refine .inr ⟨(Option.some.inj e).symm, as, bs, ra, rb, e3, ?_, by rw [toP_dep a e1, toP_dep b e2]; omega⟩
        cases a <;> first | (cases e4; done) | (cases e1; done) | (intro z; cases z)
      · rw [if_neg hf] at e; cases e
    cases a with
    | int i =>
      cases b with
      | int j =>
        obtain rfl := RD.of_int va; obtain rfl := RD.of_int vb
        exact .inl ⟨i, j, rfl, rfl, (Option.some.inj e).symm⟩
      | _ => exact main e
    | _ => exact main e
  have inn : ∀ r, inD a b = some r → ∀ (neg : Bool), Q (.bl (if neg then !r else r)) H → wpAny (model X.prog X.w) X.A (compareOp (if neg then .NotIn else .In) v u) (EP X pins σ Q) X.xe s := fun r e neg hq => by
    have main : ∀ (xs : List D) (c : D), (c = .lst xs ∨ c = .tup xs) → b = c → (if a.pl && D.pls xs && decide (min (D.deps xs) a.dep ≤ 64) then some (xs.any fun y => D.eqv y a) else inQ a xs) = some r →
        wpAny (model X.prog X.w) X.A (compareOp (if neg then .NotIn else .In) v u) (EP X pins σ Q) X.xe s := fun xs c hc hb e => by
      by_cases ht : (a.pl && D.pls xs && decide (min (D.deps xs) a.dep ≤ 64)) = true
      · rw [if_pos ht] at e
        rw [Bool.and_eq_true, Bool.and_eq_true, decide_eq_true_iff] at ht
        obtain ⟨⟨e1, e2⟩, e3⟩ := ht
        cases e
        obtain ⟨as, ra⟩ := Dp.reads I _ _ _ (va.dp e1) rx
        have pb : b.pl = true := by rw [hb]; rcases hc with rfl | rfl <;> exact e2
        obtain ⟨bs, rb⟩ := Dp.reads I _ _ _ (vb.dp pb) ry
        have hu' : X.A.units + 1 + min (PyData.depthAll (D.toPs xs)) a.toP.depth < cLine := by rw [toP_dep a e1, toPs_dep xs e2]; omega
        rw [← any_toPs e1 xs e2] at hq
        have hq : EP X pins σ Q (.bool (if neg then !((D.toPs xs).any fun y => PyData.eqv y a.toP) else ((D.toPs xs).any fun y => PyData.eqv y a.toP))) s := ⟨.bl _, H, I, rfl, hq⟩
        rcases hc with rfl | rfl
        · subst hb
          cases neg
          · exact SeqAt.in_list_data rb ra (toPs_plain xs e2) (toP_plain a e1) hu' hq
          · exact SeqAt.notIn_list_data rb ra (toPs_plain xs e2) (toP_plain a e1) hu' hq
        · subst hb
          cases neg
          · exact SeqAt.in_tuple_data rb ra (toPs_plain xs e2) (toP_plain a e1) hu' hq
          · exact SeqAt.notIn_tuple_data rb ra (toPs_plain xs e2) (toP_plain a e1) hu' hq
      · rw [if_neg ht] at e
        unfold inQ at e
        split at e
        · rename_i hq2
          rw [Bool.and_eq_true, Bool.and_eq_true, decide_eq_true_iff] at hq2
          cases e
          exact op_inQ I va vb rx ry hq2.1.1 (by omega) hq2.2 (hb ▸ hc) hq2.1.2 neg hq
        · split at e
          · rename_i hq2
            rw [Bool.and_eq_true, Bool.and_eq_true, decide_eq_true_iff] at hq2
            cases e
            exact op_inN I va vb rx ry hq2.1.1 (by omega) hq2.2 (hb ▸ hc) hq2.1.2 neg hq
          · cases e
    have dict : ∀ p o, y = .ref p → DGet H p x o → o.isSome = r → wpAny (model X.prog X.w) X.A (compareOp (if neg then .NotIn else .In) v u) (EP X pins σ Q) X.xe s := fun p o ey g eo => by
      subst ey
      obtain rfl : u = Value.ref p := ry
      rw [← eo] at hq
      cases neg
      · exact d_in (by omega) I g rx fun s3 I3 => ⟨.bl _, H, I3, rfl, hq⟩
      · exact d_notIn (by omega) I g rx fun s3 I3 => ⟨.bl _, H, I3, rfl, hq⟩
    cases b with
    | lst xs => exact main xs _ (.inl rfl) rfl e
    | tup xs => exact main xs _ (.inr rfl) rfl e
    | dic ks xs =>
      have e' : ((toKey a).map fun k => (findK ks xs k).isSome) = some r := e
      cases q : toKey a with
      | none => rw [q] at e'; cases e'
      | some k =>
        rw [q] at e'
        obtain ⟨p, vs, rfl, h1, h2, h3⟩ := vb
        obtain rfl := toKey_rel (va.rd (toKey_atom q)) q
        exact dict p _ rfl (DGet.k h1) ((findK_some h3).trans (Option.some.inj e'))
    | dit ks xs =>
      have e' : ((keyT a).map fun k => (findK ks xs k).isSome) = some r := e
      cases q : keyT a with
      | none => rw [q] at e'; cases e'
      | some k =>
        rw [q] at e'
        obtain ⟨p, vs, rfl, h1, h2, h3⟩ := vb
        obtain ⟨b1, rfl, hb⟩ := keyT_rel (va.rd (keyT_atom q)) q
        exact dict p _ rfl (DGet.t h1 hb) ((findK_some h3).trans (Option.some.inj e'))
    | str z =>
      cases a with
      | str x1 =>
        obtain rfl := RD.of_str va; obtain rfl := RD.of_str vb
        have e' : (match x1.cps.toList with | [c] => some (decide (c ∈ z.cps.toList)) | _ => none) = some r := e
        cases q : x1.cps.toList with
        | nil => rw [q] at e'; cases e'
        | cons c l =>
          cases l with
          | cons _ _ => rw [q] at e'; cases e'
          | nil =>
            rw [q] at e'
            cases e'
            have ex : x1 = ⟨#[c]⟩ := by
              cases x1 with
              | mk arr => congr 1; exact Array.toList_inj.mp q
            cases neg
            · exact op_in_sign pins s σ H _ _ v u Q I rx ry ⟨c, z, by rw [ex], rfl, hq⟩
            · exact op_notIn_sign pins s σ H _ _ v u Q I rx ry ⟨c, z, by rw [ex], rfl, hq⟩
      | _ => cases e
    | _ => cases e
  cases k with
  | eq =>
    have e : (if D.fit a b then some (D.eqv a b) else eqN a b) = some r := er
    by_cases hf : D.fit a b = true
    · rw [if_pos hf] at e
      cases e
      obtain ⟨as, bs, ra, rb, pa, pb, hd, he⟩ := data hf
      rw [← he] at q
      exact SeqAt.eq_plain ra rb pa pb hd ⟨.bl _, H, I, rfl, q⟩
    · rw [if_neg hf] at e
      have e' : (match nilD a b with | some r => some r | none => eqQ a b) = some r := e
      cases en : nilD a b with
      | some r0 =>
        rw [en] at e'
        cases e'
        obtain ⟨rfl, ⟨l, m, its, rfl, rfl, t1, t2, hz⟩ | ⟨l, m, its, rfl, rfl, t1, t2, hz⟩⟩ := nilc _ en
        · exact SeqAt.RcAt.lists_lengths t1 t2 hz (by omega) _ _ _ _ ⟨.bl _, H, I, rfl, q⟩
        · have := SeqAt.RcAt.tuples (A := X.A) (e := fun _ => true) t1 t2 (by omega) (fun j h1 h2 => absurd h2 (Nat.not_lt_zero _))
          rw [hz, Bool.and_false] at this
          exact this _ _ _ _ ⟨.bl _, H, I, rfl, q⟩
      | none =>
        rw [en] at e'
        have e' : eqQ a b = some r := e'
        cases b with
        | tup ys =>
          have e2 : (if a.plq && D.nts ys && decide (D.deps ys ≤ 60) then some (D.eqv a (.tup ys)) else none) = some r := e'
          split at e2
          · rename_i hq2
            rw [Bool.and_eq_true, Bool.and_eq_true, decide_eq_true_iff] at hq2
            cases e2
            exact rcAtQ I (vw_free va hq2.1.1) rx (vw_free vb (by unfold D.plq; exact nts_plq ys hq2.1.2)) ry hq2.1.1 hq2.1.2 (by omega) _ _ _ _ ⟨.bl _, H, I, rfl, q⟩
          · cases e2
        | _ => cases e'
  | ne =>
    have e : (if D.fit a b then some (!D.eqv a b) else (nilD a b).map (!·)) = some r := er
    by_cases hf : D.fit a b = true
    · rw [if_pos hf] at e
      cases e
      obtain ⟨as, bs, ra, rb, pa, pb, hd, he⟩ := data hf
      rw [← he] at q
      exact SeqAt.ne_plain ra rb pa pb hd ⟨.bl _, H, I, rfl, q⟩
    · rw [if_neg hf] at e
      obtain ⟨r', e', rfl⟩ := Option.map_eq_some_iff.mp e
      obtain ⟨rfl, ⟨l, m, its, rfl, rfl, t1, t2, hz⟩ | ⟨l, m, its, rfl, rfl, t1, t2, hz⟩⟩ := nilc r' e'
      · exact SeqAt.RcNeAt.lists_lengths t1 t2 hz (by omega) _ _ _ _ ⟨.bl _, H, I, rfl, q⟩
      · have := SeqAt.RcNeAt.tuples (A := X.A) (e := fun _ => true) t1 t2 (by omega) (fun j h1 h2 => absurd h2 (Nat.not_lt_zero _))
        rw [hz, Bool.and_false] at this
        exact this _ _ _ _ ⟨.bl _, H, I, rfl, q⟩
  | lt =>
    rcases ord _ _ er with ⟨i, j, rfl, rfl, rfl⟩ | ⟨rfl, as, bs, ra, rb, al, nn, hd⟩
    · exact op_lt pins s σ H _ _ v u Q I rx ry ⟨_, _, rfl, rfl, q⟩
    · exact PySem.W.lt_data ra rb al nn hd ⟨.bl _, H, I, rfl, q⟩
  | le =>
    rcases ord _ _ er with ⟨i, j, rfl, rfl, rfl⟩ | ⟨rfl, as, bs, ra, rb, al, nn, hd⟩
    · exact op_le pins s σ H _ _ v u Q I rx ry ⟨_, _, rfl, rfl, q⟩
    · exact PySem.W.le_data ra rb al nn hd ⟨.bl _, H, I, rfl, q⟩
  | gt =>
    rcases ord _ _ er with ⟨i, j, rfl, rfl, rfl⟩ | ⟨rfl, as, bs, ra, rb, al, nn, hd⟩
    · exact op_gt pins s σ H _ _ v u Q I rx ry ⟨_, _, rfl, rfl, q⟩
    · exact PySem.W.gt_data ra rb al nn hd ⟨.bl _, H, I, rfl, q⟩
  | ge =>
    rcases ord _ _ er with ⟨i, j, rfl, rfl, rfl⟩ | ⟨rfl, as, bs, ra, rb, al, nn, hd⟩
    · exact op_ge pins s σ H _ _ v u Q I rx ry ⟨_, _, rfl, rfl, q⟩
    · exact PySem.W.ge_data ra rb al nn hd ⟨.bl _, H, I, rfl, q⟩
  | inn => exact inn r er false q
  | nin =>
    have e : (inD a b).map (!·) = some r := er
    cases ei : inD a b with
    | none => rw [ei] at e; cases e
    | some t =>
      rw [ei] at e
      cases e
      exact inn t ei true q
  | isN =>
    by_cases hbl : ∃ t, b = .bl t
    · obtain ⟨t, rfl⟩ := hbl
      cases a with
      | bl z =>
        have er : some (z == t) = some r := er
        obtain rfl := RD.of_bl va
        obtain rfl := RD.of_bl vb
        cases rx
        cases ry
        cases er
        refine wpAny_is_plain (by rfl) ?_
        have e : (Value.bool z == Value.bool t) = (z == t) := by cases z <;> cases t <;> rfl
        rw [e]
        exact ⟨.bl _, H, I, rfl, q⟩
      | _ => cases er
    have hb : b = .non := by
      cases b with
      | non => rfl
      | bl t => exact absurd ⟨t, rfl⟩ hbl
      | _ => cases a <;> cases er
    subst hb
    obtain rfl := RD.of_non vb
    have hr : a.isNon = r := Option.some.inj er
    refine op_isN pins s σ H _ _ v u Q I rx ry ⟨rfl, ?_⟩
    rw [va.none_iff, hr]; exact q
  | isnN =>
    have hb : b = .non := by
      cases b <;> first | rfl | cases er
    subst hb
    obtain rfl := RD.of_non vb
    have hr : (!a.isNon) = r := Option.some.inj er
    refine op_notN pins s σ H _ _ v u Q I rx ry ⟨rfl, ?_⟩
    rw [va.none_iff, hr]; exact q
end
end Eng
end

section
namespace Eng
open PySem PySem.Spec PyProof.Rows L2
section
variable {K : PySem.W.Frag} {g : Gh} {H : Hp}
def RVD (K : PySem.W.Frag) (g : Gh) (H : Hp) (v : Value) (d : D) : Prop := ∃ x, RelV x v ∧ RD K g H d x
theorem each_of : ∀ {ys : List D} {vs : List V} {us : List Value}, RDs K g H ys vs → Vals vs us → PySem.W.EachIs (RVD K g H) us ys
  | _, _, _, .nil, h => by cases h; exact .nil
  | _, _, _, .cons h t, r => by
    cases r with
    | cons r1 r2 => exact .cons ⟨_, r1, h⟩ (each_of t r2)
theorem of_each : ∀ {us : List Value} {ys : List D}, PySem.W.EachIs (RVD K g H) us ys → ∃ vs, Vals vs us ∧ RDs K g H ys vs
  | _, _, .nil => ⟨[], .nil, .nil⟩
  | _, _, .cons ⟨x, r, h⟩ t => by
    obtain ⟨vs, r2, h2⟩ := of_each t
    exact ⟨x :: vs, .cons r r2, .cons h h2⟩
theorem each_len {α β : Type} {R : α → β → Prop} : ∀ {as : List α} {bs : List β}, PySem.W.EachIs R as bs → as.length = bs.length
  | _, _, .nil => rfl
  | _, _, .cons _ t => by rw [List.length_cons, List.length_cons, each_len t]
theorem leD_data : PySem.W.dataLe false D.toP = leD := by
  rw [PySem.W.dataLe_eq]; rfl
theorem pls_all : ∀ {xs : List D}, D.pls xs = true → ∀ x ∈ xs, D.pl x = true
  | y :: ys, h, x, hx => by
    have h' : (D.pl y && D.pls ys) = true := h
    rw [Bool.and_eq_true] at h'
    rcases List.mem_cons.mp hx with rfl | hx
    · exact h'.1
    · exact pls_all h'.2 x hx
theorem deps_mem : ∀ {xs : List D} {x : D}, x ∈ xs → x.dep ≤ D.deps xs
  | y :: ys, x, hx => by
    show x.dep ≤ max (D.dep y) (D.deps ys)
    rcases List.mem_cons.mp hx with rfl | hx
    · exact Nat.le_max_left _ _
    · exact Nat.le_trans (deps_mem hx) (Nat.le_max_right _ _)
theorem srtOk_of {ys : List D} (h : srtOk ys = true) : D.pls ys = true ∧ D.deps ys ≤ 60 ∧ PySem.W.AllAlike (ys.map D.toP) ∧ PySem.W.Sortable (ys.map D.toP) ∧ ys.length ≤ sizeLine := by
  unfold srtOk alkD at h
  rw [Bool.and_eq_true, Bool.and_eq_true, Bool.and_eq_true, Bool.and_eq_true, Bool.or_eq_true] at h
  obtain ⟨⟨⟨⟨h1, h2⟩, h3⟩, h4⟩, h5⟩ := h
  have h2 := of_decide_eq_true h2
  rw [List.all_eq_true] at h3
  refine ⟨h1, h2, fun d hd d' hd' => ?_, ?_, of_decide_eq_true h5⟩
  · obtain ⟨a, ha, rfl⟩ := List.mem_map.mp hd
    obtain ⟨b, hb, rfl⟩ := List.mem_map.mp hd'
    have := h3 a ha
    rw [Bool.and_eq_true, List.all_eq_true] at this
    exact this.2 b hb
  · rcases h4 with h4 | h4
    · refine .inl fun d hd => ?_
      obtain ⟨a, ha, rfl⟩ := List.mem_map.mp hd
      have := List.all_eq_true.mp h4 a ha
      cases a with
      | tup zs => cases zs with
        | nil => cases this
        | cons z zs => exact ⟨D.toP z, D.toPs zs, rfl⟩
      | _ => cases this
    · refine .inr fun d hd => ?_
      obtain ⟨a, ha, rfl⟩ := List.mem_map.mp hd
      have := List.all_eq_true.mp h4 a ha
      have np := h3 a ha
      rw [Bool.and_eq_true, Bool.not_eq_true'] at np
      have hp := pls_all h1 a ha
      cases a <;> first | (cases this; done) | (cases hp; done) | (exact absurd np.1 (by decide)) | exact ⟨nofun, nofun⟩
end
section
variable {X : Cx}
theorem reads_each {pins : List (Addr × Obj)} {σ : L2.St} {H : Hp} {s : Shared} {g : Gh} (I : Inv X pins σ H s) : ∀ {us : List Value} {ys : List D}, PySem.W.EachIs (RVD X.K g H) us ys → D.pls ys = true → PySem.W.EachIs (fun v b => ∃ as, Reads s.heap v (D.toP b) as) us ys
  | _, _, .nil, _ => .nil
  | _, y :: ys, .cons ⟨x, r, h⟩ t, p => by
    have p' : (D.pl y && D.pls ys) = true := p
    rw [Bool.and_eq_true] at p'
    exact .cons (Dp.reads I _ _ _ (RD.dp y x h p'.1) r) (reads_each I t p'.2)
def rSortD (X : Cx) : List V → Hp → VK → Prop := fun xs H Q => ∃ (g : Gh) (a : Addr) (ys : List D) (vs : List V), xs = [.ref a] ∧ SqL X.K H a vs ∧ RDs X.K g H ys vs ∧ srtOk ys = true ∧ ∀ p ws, H p = none → RDs X.K g H (srtD ys) ws → Q (.ref p) (upd H p (.lst ws))
theorem cr_sortD (hu : X.A.units + 100 < cLine) : CallR X (.builtin "sorted") (rSortD X) := by
  intro pins s σ H xs us Q I r ⟨g, a, ys, vs, ex, hs, hy, ok, q⟩
  subst ex
  obtain ⟨u, rfl, ru⟩ := vals1 r
  obtain rfl : u = Value.ref a := ru
  obtain ⟨its, rv, hl, hz⟩ := I.list hs
  obtain ⟨o1, o2, o3, o4, o5⟩ := srtOk_of ok
  have e := each_of hy rv
  refine PySem.W.sorted_data (R := RVD X.K g H) (enc := D.toP) hl.isList e (reads_each I e o1) o3 o4 o5 (fun b hb => ?_) fun out ho eo => ?_
  · rw [toP_dep b (pls_all o1 b hb)]
    have := deps_mem hb
    omega
  · rw [leD_data] at eo
    obtain ⟨ws, rw', hw⟩ := of_each eo
    obtain ⟨n, hn⟩ := sortedAll_at s.heap its out.toArray
    have hz2 : ws.length ≤ sizeLine := by rw [← hw.length, List.length_mergeSort]; exact o5
    exact ⟨.ref _, _, I.laid (t' := s.toks) (o := .lst ws) (fun _ _ h => sortedAll_old h) (Nat.le_succ _) ⟨hz2, out, n, rw', hn⟩, rfl, q _ ws (I.hok.fresh (Nat.le_succ _)) hw⟩
def rSortT (X : Cx) : List V → Hp → VK → Prop := fun xs H Q => ∃ (a : Addr) (kvs : List (List Key × V)), xs = [.ref a] ∧ H a = some (.dT kvs) ∧ srtOk (kvs.map fun k => D.tup (k.1.map keyD)) = true ∧
  ∀ g p ws, H p = none → RDs X.K g H (srtD (kvs.map fun k => D.tup (k.1.map keyD))) ws → Q (.ref p) (upd H p (.lst ws))
theorem key_rd {K : PySem.W.Frag} {g : Gh} {H : Hp} (k : Key) : RD K g H (keyD k) (kV k) := by
  cases k with
  | inl i => exact .int i
  | inr x => exact .str x
theorem keys_rd {K : PySem.W.Frag} {g : Gh} {H : Hp} : ∀ ks : List Key, RDs K g H (ks.map keyD) (ks.map kV)
  | [] => .nil
  | k :: ks => .cons (key_rd k) (keys_rd ks)
theorem isKeys_rd {K : PySem.W.Frag} {g : Gh} {H : Hp} : ∀ {kvs : List (List Key × V)} {bs : List Addr}, IsKeys H kvs bs → RDs K g H (kvs.map fun k => D.tup (k.1.map keyD)) (bs.map V.ref)
  | _, _, .nil => .nil
  | _, _, .cons h t => .cons (.tup h (keys_rd _)) (isKeys_rd t)
mutual
theorem reads_there {h : Heap} : ∀ (d : PyData) (v : Value) (as : List Addr), d.plain = true → Reads h v d as → ∀ a ∈ as, ∃ o, h.get? a = some o
  | .none, _, _, _, r, a, ha => by cases r; cases ha
  | .bool _, _, _, _, r, a, ha => by cases r; cases ha
  | .int _, _, _, _, r, a, ha => by cases r; cases ha
  | .str _, _, _, _, r, a, ha => by cases r; cases ha
  | .list xs, _, _, p, r, a, ha => by
    cases r with
    | list h1 h2 h3 h4 =>
      rcases List.mem_cons.mp ha with rfl | ha
      · exact ⟨_, h1⟩
      · exact readsAll_there xs _ _ p h4 a ha
  | .tuple xs, _, _, p, r, a, ha => by
    cases r with
    | tuple h1 h2 h3 h4 => exact readsAll_there xs _ _ p h4 a ha
  | .dict _, _, _, p, _, _, _ => nomatch p
theorem readsAll_there {h : Heap} : ∀ (ds : List PyData) (vs : List Value) (as : List Addr), PyData.plainAll ds = true → ReadsAll h vs ds as → ∀ a ∈ as, ∃ o, h.get? a = some o
  | [], _, _, _, r, a, ha => by cases r; cases ha
  | d :: ds, _, _, p, r, a, ha => by
    have p' : (PyData.plain d && PyData.plainAll ds) = true := p
    rw [Bool.and_eq_true] at p'
    cases r with
    | cons h1 h2 =>
      rcases List.mem_append.mp ha with ha | ha
      · exact reads_there d _ _ p'.1 h1 a ha
      · exact readsAll_there ds _ _ p'.2 h2 a ha
end
theorem each_but {h h' : Heap} (hk : ∀ b u, h.get? b = some u → h'.get? b = some u) : ∀ {us : List Value} {ys : List D}, PySem.W.EachIs (fun v b => ∃ as, Reads h v (D.toP b) as) us ys → D.pls ys = true → PySem.W.EachIs (fun v b => ∃ as, Reads h' v (D.toP b) as ∧ h.objs.size ∉ as) us ys
  | _, _, .nil, _ => .nil
  | _, y :: ys, .cons ⟨as, r⟩ t, p => by
    have p' : (D.pl y && D.pls ys) = true := p
    rw [Bool.and_eq_true] at p'
    refine .cons ⟨as, PyProof.Rows.Reads.keeps hk r, fun z => ?_⟩ (each_but hk t p'.2)
    obtain ⟨o, e⟩ := reads_there _ _ _ (toP_plain y p'.1) r _ z
    exact Nat.lt_irrefl _ (Heap.lt_size e)
theorem keys_acc {prog : Program} {w : World} {ks : List (List Key × Addr × Value)} {es : Array DictEntry} {acc : Array Value} (he : es.toList = ks.map (entryOfKey (tupleKind (mixKind prog w)))) (it : ItemsOf (fun i v => ∃ en : DictEntry, es[i]? = some en ∧ v = en.key) acc es.size) :
    acc.toList = (ks.map fun x => x.2.1).map Value.ref := by
  have l1 : es.size = ks.length := by rw [← Array.length_toList, he, List.length_map]
  rw [List.map_map]
  apply List.ext_getElem?
  intro j
  rw [List.getElem?_map]
  cases hj : acc.toList[j]? with
  | none =>
    have h1 := List.getElem?_eq_none_iff.mp hj
    rw [Array.length_toList, it.1] at h1
    rw [List.getElem?_eq_none (by omega)]; rfl
  | some v =>
    obtain ⟨en, hen, hv⟩ := it.2 j v (by rw [← Array.getElem?_toList]; exact hj)
    have qe : es.toList[j]? = (ks.map (entryOfKey (tupleKind (mixKind prog w))))[j]? := by rw [he]
    rw [Array.getElem?_toList, hen, List.getElem?_map] at qe
    cases hb : ks[j]? with
    | none => rw [hb] at qe; cases qe
    | some b =>
      rw [hb] at qe
      have e2 : en = entryOfKey (tupleKind (mixKind prog w)) b := Option.some.inj qe
      rw [hv, e2]; rfl
theorem cr_sortT (hc : X.calm = true) (hu : X.A.units + 100 < cLine) : CallR X (.builtin "sorted") (rSortT X) := by
  intro pins s σ H xs us Q I r ⟨a, kvs, ex, hd, ok, q⟩
  subst ex
  obtain ⟨u, rfl, ru⟩ := vals1 r
  obtain rfl : u = Value.ref a := ru
  obtain ⟨z, lo, ks, pr, o, es, ep, ho, hx, hdt, he, hn⟩ := (show ObjOk X.prog X.w H s.heap a (.dT kvs) from I.hok a _ hd)
  obtain ⟨o1, o2, o3, o4, o5⟩ := srtOk_of ok
  have l1 : es.size = ks.length := by rw [← Array.length_toList, he, List.length_map]
  have l2 : kvs.length = ks.length := Paired.length pr
  have l3 : es.size ≤ sizeLine := by rw [l1, ← l2]; rw [List.length_map] at o5; exact o5
  refine Calls.call_function_entry kind_sorted plain_sorted entry_sorted (args_sorted1 _) ?_
  unfold Builtin.«sorted»
  refine wpAny_bind (m := checkCount "sorted" 1 1 _) (wpAny_pure ?_)
  refine wpAny_bind (PySem.W.kdu_collect (A := X.A.in1) (kdl_raw lo hx hdt) (I.ok.hd hc) ho l3 fun h1 tk acc kp it => ?_)
  have ea := keys_acc (prog := X.prog) (w := X.w) he it
  have J : Inv X pins σ H { s with heap := h1, toks := tk } := I.kept kp
  have rd : RDs X.K (⟨[], [], []⟩ : Gh) H (kvs.map fun k => D.tup (k.1.map keyD)) ((ks.map fun x => x.2.1).map V.ref) := isKeys_rd (isKeys_of pr)
  have rv : Vals ((ks.map fun x => x.2.1).map V.ref) acc.toList := by rw [ea]; exact vals_refs _
  have e := each_of rd rv
  refine wpAny_bind (wpAny_newList ?_ (by rw [ea, List.length_map, List.length_map, ← l1]; exact l3))
  have hL : (h1.push (seqObj "list" acc.toList.toArray 0)).get? h1.objs.size = some (seqObj "list" acc.toList.toArray 0) := Heap.get?_push_size _ rfl
  show wpAny _ _ _ _ _ { s with heap := h1.push (seqObj "list" acc.toList.toArray 0), toks := tk }
  have er := reads_each J e o1
  have old : ∀ b u, h1.get? b = some u → (h1.push (seqObj "list" acc.toList.toArray 0)).get? b = some u := fun b u e => Heap.get?_push_of_some _ e
  refine wpAny_bind (wpAny_holding (PySem.W.list_sort_data (s := { s with heap := h1.push (seqObj "list" acc.toList.toArray 0), toks := tk }) (R := RVD X.K (⟨[], [], []⟩ : Gh) H) (enc := D.toP) hL e (each_but old er o1) o3 o4 o5 (fun b hb => ?_) fun out ho eo => ?_))
  · rw [toP_dep b (pls_all o1 b hb)]
    have := deps_mem hb
    have hin : X.A.in1.units ≤ X.A.units + 1 := Nat.le_refl _
    omega
  · rw [leD_data] at eo
    obtain ⟨ws, rw', hw⟩ := of_each eo
    obtain ⟨n, hn2⟩ := sortedHeap_at (vs := acc.toList) (out := out.toArray) hL
    have hz2 : ws.length ≤ sizeLine := by rw [← hw.length, List.length_mergeSort]; exact o5
    refine wpAny_pure ⟨_, rfl, .ref h1.objs.size, _, J.laid (t' := tk) (o := .lst ws) (fun b u e => ?_) (Nat.le_refl _) ⟨hz2, out, n, rw', hn2⟩, rfl, q _ _ ws (J.hok.fresh (Nat.le_refl _)) hw⟩
    have hb : b < h1.objs.size := Heap.lt_size e
    rw [sortedHeap_old (Nat.ne_of_lt hb) (by rw [size_push']; exact Nat.lt_succ_of_lt hb)]
    exact old b u e
def rSortP (X : Cx) : List V → Hp → VK → Prop := fun xs H Q => ∃ (g : Gh) (a : Addr) (ys : List D) (vs : List V), xs = [.ref a] ∧ SqT X.K H a vs ∧ RDs X.K g H ys vs ∧ srtOk ys = true ∧ ∀ p ws, H p = none → RDs X.K g H (srtD ys) ws → Q (.ref p) (upd H p (.lst ws))
theorem cr_sortP (hu : X.A.units + 100 < cLine) : CallR X (.builtin "sorted") (rSortP X) := by
  intro pins s σ H xs us Q I r ⟨g, a, ys, vs, ex, hs, hy, ok, q⟩
  subst ex
  obtain ⟨u, rfl, ru⟩ := vals1 r
  obtain rfl : u = Value.ref a := ru
  obtain ⟨its, rv, ⟨o, t1, t2, n, t3⟩, hz⟩ := I.tuple hs
  obtain ⟨o1, o2, o3, o4, o5⟩ := srtOk_of ok
  have e := each_of hy rv
  have l3 : its.length ≤ sizeLine := by
    have := each_len e
    omega
  refine Calls.call_function_entry kind_sorted plain_sorted entry_sorted (args_sorted1 _) ?_
  unfold Builtin.«sorted»
  refine wpAny_bind (m := checkCount "sorted" 1 1 _) (wpAny_pure ?_)
  refine wpAny_bind (wpAny_collect_seq (hsz := by rw [List.size_toArray]; exact l3) (A := X.A.in1) a (.inr rfl) t1 t2 t3 fun h1 kp => ?_)
  have J : Inv X pins σ H { s with heap := h1, toks := s.toks } := I.kept kp
  refine wpAny_bind (wpAny_newList ?_ l3)
  have hL : (h1.push (seqObj "list" its.toArray.toList.toArray 0)).get? h1.objs.size = some (seqObj "list" its.toArray.toList.toArray 0) := Heap.get?_push_size _ rfl
  show wpAny _ _ _ _ _ { s with heap := h1.push (seqObj "list" its.toArray.toList.toArray 0), toks := s.toks }
  have er := reads_each J e o1
  have old : ∀ b u, h1.get? b = some u → (h1.push (seqObj "list" its.toArray.toList.toArray 0)).get? b = some u := fun b u e => Heap.get?_push_of_some _ e
  refine wpAny_bind (wpAny_holding (PySem.W.list_sort_data (s := { s with heap := h1.push (seqObj "list" its.toArray.toList.toArray 0), toks := s.toks }) (R := RVD X.K g H) (enc := D.toP) hL e (each_but old er o1) o3 o4 o5 (fun b hb => ?_) fun out ho eo => ?_))
  · rw [toP_dep b (pls_all o1 b hb)]
    have := deps_mem hb
    have hin : X.A.in1.units ≤ X.A.units + 1 := Nat.le_refl _
    omega
  · rw [leD_data] at eo
    obtain ⟨ws, rw', hw⟩ := of_each eo
    obtain ⟨n, hn2⟩ := sortedHeap_at (vs := its.toArray.toList) (out := out.toArray) hL
    have hz2 : ws.length ≤ sizeLine := by rw [← hw.length, List.length_mergeSort]; exact o5
    refine wpAny_pure ⟨_, rfl, .ref h1.objs.size, _, J.laid (t' := s.toks) (o := .lst ws) (fun b u e => ?_) (Nat.le_refl _) ⟨hz2, out, n, rw', hn2⟩, rfl, q _ ws (J.hok.fresh (Nat.le_refl _)) hw⟩
    have hb : b < h1.objs.size := Heap.lt_size e
    rw [sortedHeap_old (Nat.ne_of_lt hb) (by rw [size_push']; exact Nat.lt_succ_of_lt hb)]
    exact old b u e
end
end Eng
end

section
namespace Eng
open PySem PySem.Spec PyProof.Rows L2
abbrev NL := List (Addr × NestedKey)
def IsN (h : Heap) (k : NestedKey) (b : Addr) : Prop := NestedIs h k (.ref b) ∧ k.depth ≤ 6
theorem IsN.tup {h : Heap} {k : NestedKey} {b : Addr} (x : IsN h k b) : ∃ ks, k = .tup ks := by
  obtain ⟨x, _⟩ := x
  cases x with
  | tup _ _ _ _ => exact ⟨_, rfl⟩
section
variable {P : Program} {w : World}
variable {A : Around} {E : Value → Shared → Prop} {s : Shared}
def rwN (w : World) (L : NL) : List (Int × Value) := L.map fun p => (p.2.hash w, Value.ref p.1)
abbrev hsN (w : World) (L : NL) : List Int := L.map fun p => p.2.hash w
structure SetN (w : World) (h : Heap) (a : Addr) (L : NL) (es : Array (Int × Value)) (ep : Nat) (t : SetTable) : Prop where
  obj : ∃ o, h.get? a = some o ∧ o.ExactSet ∧ o.data = .set es ep t
  row : es.toList = rwN w L
  tbl : TabOk t (hsN w L)
  ndp : (L.map (·.2)).Nodup
  key : ∀ p ∈ L, IsN h p.2 p.1
  see : w.params.followText "set-order" = true ∨ t.led = true
  big : L.length * 5 < t.mask * 3
  few : L.length < 64
variable {a : Addr} {L : NL} {es : Array (Int × Value)} {ep : Nat} {t : SetTable}
structure GotN (ks : NL) (i : Nat) (L : NL) : Prop where
  sub : ∀ p ∈ L, p ∈ ks.take i
  all : ∀ p ∈ ks.take i, p.2 ∈ L.map (·.2)
  len : L.length ≤ i
theorem GotN.zero (ks : NL) : GotN ks 0 [] := ⟨fun p h => (nomatch h), fun p h => (by simp at h), Nat.le_refl _⟩
end
end Eng
end

section
namespace Eng
open PySem PySem.Spec PyProof.Rows L2
end Eng
end

section
namespace Eng
open PySem PySem.Spec PyProof.Rows L2
section
variable {X : Cx} {W : WX}

theorem atI_rel {K : PySem.W.Frag} {g : Gh} {H : Hp} {ds : List D} {vs : List V} {i : Int} {d : D} (r : RDs K g H ds vs) (e : atI ds i = some d) : ∃ v, atI vs i = some v ∧ RD K g H d v := by
  unfold atI at e ⊢
  rw [← r.length]
  cases h : ixN ds.length i with
  | none => rw [h] at e; cases e
  | some j =>
    rw [h] at e
    exact r.get e
def rIxD : R2 := fun x y H Q => ∃ a v, x = .ref a ∧ DGet H a y (some v) ∧ Q v H
theorem ix_dict (hu : X.A.units + 66 < cLine) : IxR X rIxD := by
  intro ve sl pn s σ H x y v u Q I rx ry ⟨a, z, ex, dg, q⟩ hs
  subst ex
  obtain rfl : v = Value.ref a := rx
  have ty := dict_typeIs I dg
  unfold subscriptTail
  refine wpAny_bind ?_
  rw [getitemInPython_of_ne ty.not_modules]
  refine wpAny_bind (wpAny_specialOf ty PySem.F.slot_dict_getitem.lookup ?_)
  have last : wpAny (model X.prog X.w) X.A (subscripted sl false (.ref a) u) (fun r s3 => wpAny (model X.prog X.w) X.A (letTemporaryGo ve (.ref a) r >>= fun _ => pure r) (EP X pn σ Q) X.xe s3) X.xe s := by
    rw [hs]
    exact wpAny_operating (d_getItem (by omega) I dg ry fun u2 s2 J ru => wpAny_bind (wpAny_letTemporaryGo (wpAny_pure ⟨z, H, J, ru, q⟩)))
  first
    | exact wpAny_pure (wpAny_bind last)
    | exact wpAny_bind (wpAny_pure (wpAny_bind last))
    | exact wpAny_bind last
def rSub (X : Cx) (W : WX) : R2 := fun x y H Q => ∃ g fr S σ a b, Rel X.K X.mg g fr S σ H ∧ Vw X.K g H x a ∧ RD X.K g H b y ∧ Aft X.K X.mg W (rV X.K X.mg) g H σ (RX.lift ((subD a b).map Val.fz) fr S) Q
theorem ix_sub (hu : X.A.units + 66 < cLine) : IxR X (rSub X W) := by
  intro value slice pins s σ H x y v u Q I rx ry ⟨g, fr, S, σ', a, b, rel, va, vb, h⟩ hs
  have some_of : ∃ r, subD a b = some r := by
    cases e : subD a b with
    | none => rw [e] at h; exact False.elim h
    | some r => exact ⟨r, rfl⟩
  obtain ⟨r, er⟩ := some_of
  rw [er] at h
  cases a with
  | lst xs =>
    cases b with
    | int i =>
      obtain ⟨p, vs, rfl, h1, h2⟩ := va
      obtain rfl := RD.of_int vb
      obtain ⟨z, e1, e2⟩ := atI_rel h2 er
      exact ix_list value slice pins s σ H _ _ v u Q I rx ry ⟨_, _, _, _, rfl, rfl, SqL.of h1, e1, fin_old h rel e2⟩ hs
    | _ => cases er
  | tup xs =>
    cases b with
    | int i =>
      obtain ⟨p, vs, rfl, h1, h2⟩ := RD.of_tup va
      obtain rfl := RD.of_int vb
      obtain ⟨z, e1, e2⟩ := atI_rel h2 er
      exact ix_tup value slice pins s σ H _ _ v u Q I rx ry ⟨_, _, _, _, rfl, rfl, h1, e1, fin_old h rel e2⟩ hs
    | _ => cases er
  | scr xs =>
    cases b with
    | int i =>
      obtain ⟨p, vs, rfl, h1, h2⟩ := RD.of_scr va
      obtain rfl := RD.of_int vb
      obtain ⟨z, e1, e2⟩ := atI_rel h2 er
      exact ix_list value slice pins s σ H _ _ v u Q I rx ry ⟨_, _, _, _, rfl, rfl, h1, e1, fin_old h rel e2⟩ hs
    | _ => cases er
  | str z =>
    cases b with
    | int i =>
      obtain rfl := RD.of_str va
      obtain rfl := RD.of_int vb
      have er' : (if z.length ≤ sizeLine then (atI z.cps.toList i).map fun c => D.str ⟨#[c]⟩ else none) = some r := er
      by_cases hz : z.length ≤ sizeLine
      · rw [if_pos hz] at er'
        obtain ⟨c, e1, e2⟩ := Option.map_eq_some_iff.mp er'
        subst e2
        exact ix_str value slice pins s σ H _ _ v u Q I rx ry ⟨_, _, c, rfl, rfl, hz, e1, fin_old h rel (.str _)⟩ hs
      · rw [if_neg hz] at er'; cases er'
    | _ => cases er
  | dic ks xs =>
    have er' : ((toKey b).bind fun k => findK ks xs k) = some r := er
    obtain ⟨k, e1, e2⟩ := Option.bind_eq_some_iff.mp er'
    have e3 : dgetD (.dic ks xs) b = some (some r) := by
      show (toKey b).map _ = _
      rw [e1, Option.map_some, e2]
    obtain ⟨p, o, e4, e5, e6⟩ := dget_rel va (show Vw X.K g H y b by cases b <;> first | exact vb | cases e1) e3
    cases o with
    | none => exact e6.elim
    | some w => exact ix_dict hu value slice pins s σ H _ _ v u Q I rx ry ⟨p, w, e4, e5, fin_old h rel e6⟩ hs
  | dit ks xs =>
    have er' : ((keyT b).bind fun k => findK ks xs k) = some r := er
    obtain ⟨k, e1, e2⟩ := Option.bind_eq_some_iff.mp er'
    have e3 : dgetD (.dit ks xs) b = some (some r) := by
      show (keyT b).map _ = _
      rw [e1, Option.map_some, e2]
    obtain ⟨p, o, e4, e5, e6⟩ := dget_rel va (show Vw X.K g H y b by cases b <;> first | exact vb | cases e1) e3
    cases o with
    | none => exact e6.elim
    | some w => exact ix_dict hu value slice pins s σ H _ _ v u Q I rx ry ⟨p, w, e4, e5, fin_old h rel e6⟩ hs
  | _ => cases er

theorem truV_of {H : Hp} {g : Gh} {x : V} {d : D} {k : Bool} (va : Vw X.K g H x d) (e : truD d = some k) : TruV X.K x H k := by
  cases d with
  | non => obtain rfl := RD.of_non va; exact (Option.some.inj e).symm
  | bl b => obtain rfl := RD.of_bl va; exact (Option.some.inj e).symm
  | int b => obtain rfl := RD.of_int va; exact (Option.some.inj e).symm
  | lst xs =>
    obtain ⟨p, vs, rfl, h1, h2⟩ := va
    refine .inl ⟨vs, SqL.of h1, ?_⟩
    have e' : (!xs.isEmpty) = k := Option.some.inj e
    rw [← e']
    cases h2 <;> rfl
  | tup xs =>
    obtain ⟨p, vs, rfl, h1, h2⟩ := RD.of_tup va
    refine .inr (.inl ⟨vs, h1, ?_⟩)
    have e' : (!xs.isEmpty) = k := Option.some.inj e
    rw [← e']
    cases h2 <;> rfl
  | _ => cases e

inductive Vws (K : PySem.W.Frag) (g : Gh) (H : Hp) : List V → List D → Prop
  | nil : Vws K g H [] []
  | cons {x : V} {xs : List V} {d : D} {ds : List D} : Vw K g H x d → Vws K g H xs ds → Vws K g H (x :: xs) (d :: ds)
theorem vws_look {K : PySem.W.Frag} {mg : Str → Option Value} {g : Gh} {H : Hp} {S : Store} (st : StR K mg g S H) : ∀ {ds : List D} {xs : List V}, RDs K g H ds xs → Vws K g H xs (ds.map (look S))
  | _, _, .nil => .nil
  | _, _, .cons h t => .cons (vw_look st h) (vws_look st t)
def rBlt (X : Cx) (W : WX) (k : FK) : List V → Hp → VK → Prop := fun xs H Q => ∃ g fr S σ ds, Rel X.K X.mg g fr S σ H ∧ Vws X.K g H xs ds ∧ Aft X.K X.mg W (rV X.K X.mg) g H σ (RX.lift (bltD k ds) fr S) Q
def FK.name : FK → Str
  | .len => "len" | .all => "all" | .any => "any" | .sum => "sum" | .tuple => "tuple" | .list => "list" | .int => "int" | .max2 => "max" | .min2 => "min" | .repr => "repr" | .sorted => "sorted" | .str => "str"
def FK.val : FK → Value
  | .len => .builtin "len" | .all => .builtin "all" | .any => .builtin "any" | .sum => .builtin "sum" | .tuple => .type "tuple" | .list => .type "list" | .int => .type "int" | .max2 => .builtin "max" | .min2 => .builtin "min" | .repr => .builtin "repr" | .sorted => .builtin "sorted" | .str => .type "str"
theorem boolL_rel {K : PySem.W.Frag} {g : Gh} {H : Hp} : ∀ {ds : List D} {vs : List V} {bs : List Bool}, RDs K g H ds vs → boolL ds = some bs → vs = bs.map V.bl
  | _, _, _, .nil, e => by cases e; rfl
  | d :: ds, v :: vs, bs, .cons h t, e => by
    cases d with
    | bl b =>
      have e' : (boolL ds).map (b :: ·) = some bs := e
      cases q : boolL ds with
      | none => rw [q] at e'; cases e'
      | some cs =>
        rw [q] at e'
        cases e'
        rw [RD.of_bl h, boolL_rel t q]; rfl
    | _ => cases e
theorem intL_rel {K : PySem.W.Frag} {g : Gh} {H : Hp} : ∀ {ds : List D} {vs : List V} {bs : List Int}, RDs K g H ds vs → intL ds = some bs → vs = bs.map V.int
  | _, _, _, .nil, e => by cases e; rfl
  | d :: ds, v :: vs, bs, .cons h t, e => by
    cases d with
    | int b =>
      have e' : (intL ds).map (b :: ·) = some bs := e
      cases q : intL ds with
      | none => rw [q] at e'; cases e'
      | some cs =>
        rw [q] at e'
        cases e'
        rw [RD.of_int h, intL_rel t q]; rfl
    | _ => cases e
theorem ints_rel {K : PySem.W.Frag} {g : Gh} {H : Hp} : ∀ ns : List Int, RDs K g H (ns.map D.int) (ns.map V.int)
  | [] => .nil
  | n :: ns => .cons (.int n) (ints_rel ns)
theorem zip_keys {ks : List (List Key)} {vs : List V} (h : ks.length = vs.length) : ((ks.zip vs).map fun k => D.tup (k.1.map keyD)) = ks.map fun k => D.tup (k.map keyD) := by
  have e : (ks.zip vs).map (·.1) = ks := by rw [List.map_fst_zip]; rw [h]; exact Nat.le_refl _
  have e2 : ((ks.zip vs).map fun k => D.tup (k.1.map keyD)) = ((ks.zip vs).map (·.1)).map fun k => D.tup (k.map keyD) := by rw [List.map_map]; rfl
  rw [e2, e]
theorem keysAny_aux {K : PySem.W.Frag} {g g' : Gh} {H : Hp} : ∀ {ds : List D} {vs : List V}, (∀ d ∈ ds, ∃ k : List Key, d = D.tup (k.map keyD)) → RDs K g H ds vs → RDs K g' H ds vs
  | _, _, _, .nil => .nil
  | d :: ds, v :: vs, hk, .cons h t => by
    refine .cons ?_ (keysAny_aux (fun d hd => hk d (List.mem_cons_of_mem _ hd)) t)
    obtain ⟨k, rfl⟩ := hk d List.mem_cons_self
    obtain ⟨b, vs, rfl, h1, h2⟩ := RD.of_tupX h
    refine .tup h1 ?_
    clear h h1
    induction k generalizing vs with
    | nil => cases h2; exact .nil
    | cons j k ih =>
      cases h2 with
      | cons a b =>
        refine .cons ?_ (ih (fun d hd => ?_) _ b)
        · cases j with
          | inl i => obtain rfl := RD.of_int a; exact .int i
          | inr x => obtain rfl := RD.of_str a; exact .str x
        · rcases List.mem_cons.mp hd with rfl | hd
          · exact ⟨k, rfl⟩
          · exact hk d (List.mem_cons_of_mem _ hd)
theorem RDs.keysAny {K : PySem.W.Frag} {g g' : Gh} {H : Hp} {ks : List (List Key)} {vs : List V} (h : RDs K g H (srtD (ks.map fun k => D.tup (k.map keyD))) vs) : RDs K g' H (srtD (ks.map fun k => D.tup (k.map keyD))) vs := by
  refine keysAny_aux (fun d hd => ?_) h
  have hd : d ∈ (ks.map fun k => D.tup (k.map keyD)).mergeSort leD := hd
  rw [List.mem_mergeSort] at hd
  obtain ⟨k, _, rfl⟩ := List.mem_map.mp hd
  exact ⟨k, rfl⟩
theorem call_blt (hc : X.calm = true) (hgd : X.A.guards = some []) (hun : X.A.units + 100 < cLine) (k : FK) : CallR X k.val (rBlt X W k) := by
  intro pins s σ H xs us Q I rx ⟨g, fr, S, σ', ds, rel, va, h⟩
  have some_of : ∃ r, bltD k ds = some r := by
    cases e : bltD k ds with
    | none => rw [e] at h; exact False.elim h
    | some r => exact ⟨r, rfl⟩
  obtain ⟨r, er⟩ := some_of
  rw [er] at h
  cases va with
  | nil => cases k <;> cases er
  | cons v1 vr =>
    rename_i x xs d ds
    cases vr with
    | nil =>
      cases k with
      | len =>
        cases d with
        | lst ys =>
          cases er
          obtain ⟨p, vs, rfl, h1, h2⟩ := v1
          refine call_len_seq pins s σ H _ us Q I rx ⟨_, vs, rfl, .inl (SqL.of h1), ?_⟩
          rw [← h2.length]; exact fin_old h rel (.int _)
        | tup ys =>
          cases er
          obtain ⟨p, vs, rfl, h1, h2⟩ := RD.of_tup v1
          refine call_len_seq pins s σ H _ us Q I rx ⟨_, vs, rfl, .inr h1, ?_⟩
          rw [← h2.length]; exact fin_old h rel (.int _)
        | scr ys =>
          cases er
          obtain ⟨p, vs, rfl, h1, h2⟩ := RD.of_scr v1
          refine call_len_seq pins s σ H _ us Q I rx ⟨_, vs, rfl, .inl h1, ?_⟩
          rw [← h2.length]; exact fin_old h rel (.int _)
        | dit ks ys =>
          cases er
          obtain ⟨p, vs, rfl, h1, h2, h3⟩ := v1
          refine call_len_dT pins s σ H _ us Q I rx ⟨_, _, rfl, h1, ?_⟩
          rw [List.length_zip, ← h2, Nat.min_self]; exact fin_old h rel (.int _)
        | dic ks ys =>
          cases er
          obtain ⟨p, vs, rfl, h1, h2, h3⟩ := v1
          refine call_lenD pins s σ H _ us Q I rx ⟨_, _, rfl, h1, ?_⟩
          rw [List.length_zip, ← h2, Nat.min_self]; exact fin_old h rel (.int _)
        | str z =>
          have e : (if z.length ≤ sizeLine then some (Val.fz (.int z.length)) else none) = some r := er
          by_cases hz : z.length ≤ sizeLine
          · rw [if_pos hz] at e
            cases e
            obtain rfl := RD.of_str v1
            exact call_len_str pins s σ H _ us Q I rx ⟨_, rfl, hz, fin_old h rel (.int _)⟩
          · rw [if_neg hz] at e; cases e
        | _ => cases er
      | all =>
        cases d with
        | lst ys =>
          obtain ⟨p, vs, rfl, h1, h2⟩ := v1
          have e : (boolL ys).map (fun bs => Val.fz (.bl (bs.all id))) = some r := er
          cases q : boolL ys with
          | none => rw [q] at e; cases e
          | some bs =>
            rw [q] at e
            cases e
            obtain rfl := boolL_rel h2 q
            exact cr_all hc pins s σ H _ us Q I rx ⟨_, _, rfl, SqL.of h1, fin_old h rel (.bl _)⟩
        | _ => cases er
      | any =>
        cases d with
        | lst ys =>
          obtain ⟨p, vs, rfl, h1, h2⟩ := v1
          have e : (boolL ys).map (fun bs => Val.fz (.bl (bs.any id))) = some r := er
          cases q : boolL ys with
          | none => rw [q] at e; cases e
          | some bs =>
            rw [q] at e
            cases e
            obtain rfl := boolL_rel h2 q
            exact cr_any hc pins s σ H _ us Q I rx ⟨_, _, rfl, SqL.of h1, fin_old h rel (.bl _)⟩
        | _ => cases er
      | sum =>
        cases d with
        | lst ys =>
          obtain ⟨p, vs, rfl, h1, h2⟩ := v1
          have e : (intL ys).map (fun bs => Val.fz (.int bs.sum)) = some r := er
          cases q : intL ys with
          | none => rw [q] at e; cases e
          | some bs =>
            rw [q] at e
            cases e
            obtain rfl := intL_rel h2 q
            exact cr_sum hc pins s σ H _ us Q I rx ⟨_, _, rfl, SqL.of h1, fin_old h rel (.int _)⟩
        | _ => cases er
      | tuple =>
        cases d with
        | lst ys =>
          cases er
          obtain ⟨p, vs, rfl, h1, h2⟩ := v1
          exact call_tuple_of pins s σ H _ us Q I rx ⟨_, vs, rfl, .inl ⟨SqL.of h1, fun l hl => fin_tup h rel h2 hl⟩⟩
        | tup ys =>
          cases er
          obtain ⟨p, vs, rfl, h1, h2⟩ := RD.of_tupX v1
          exact call_tuple_of pins s σ H _ us Q I rx ⟨_, vs, rfl, .inr ⟨SqT.of h1, fin_old h rel (.tup h1 h2)⟩⟩
        | _ => cases er
      | list =>
        cases d with
        | lst ys =>
          cases er
          obtain ⟨p, vs, rfl, h1, h2⟩ := v1
          exact call_list_of pins s σ H _ us Q I rx ⟨_, vs, rfl, .inl (SqL.of h1), fun l hl => fin_lst h rel h2 hl⟩
        | tup ys =>
          cases er
          obtain ⟨p, vs, rfl, h1, h2⟩ := RD.of_tup v1
          exact call_list_of pins s σ H _ us Q I rx ⟨_, vs, rfl, .inr h1, fun l hl => fin_lst h rel h2 hl⟩
        | dit ks ys =>
          cases er
          obtain ⟨p, vs, rfl, h1, h2, h3⟩ := v1
          refine call_list_dT hc pins s σ H _ us Q I rx ⟨_, _, rfl, .inl h1, fun p bs hp hk => ?_⟩
          have ek := zip_keys h2
          exact fin_lst h rel (by rw [← ek]; exact isKeys_rd hk) hp
        | _ => cases er
      | int =>
        cases d with
        | int i =>
          cases er
          obtain rfl := RD.of_int v1
          exact call_int1 pins s σ H _ us Q I rx (.inl ⟨_, rfl, fin_old h rel (.int _)⟩)
        | bl i =>
          cases er
          obtain rfl := RD.of_bl v1
          exact call_int1 pins s σ H _ us Q I rx (.inr ⟨_, rfl, fin_old h rel (.int _)⟩)
        | _ => cases er
      | max2 => cases d <;> cases er
      | min2 => cases d <;> cases er
      | repr =>
        have fin : ∀ d : D, Vw X.K g H x d → reprD d = some r → wpAny (model X.prog X.w) X.A (call (.builtin "repr") us) (EP X pins σ Q) X.xe s := fun d hd er =>
          call_reprD hgd hun I rx hd er fun y e => by subst e; exact fin_old h rel (.str _)
        cases d with
        | tup ys => exact fin _ v1 er
        | lst ys => exact fin _ v1 er
        | dic ks ys => exact fin _ v1 er
        | non => exact fin _ v1 er
        | int i => exact fin _ v1 er
        | str z =>
          have er' : (if (PySem.reprText z).length ≤ sizeLine then some (Val.fz (.str (PySem.reprText z))) else none) = some r := er
          by_cases hz : (PySem.reprText z).length ≤ sizeLine
          · rw [if_pos hz] at er'
            cases er'
            cases v1
            cases rx with
            | cons r1 r2 =>
              cases r2
              obtain ⟨t, rfl⟩ := r1
              refine PySem.P.repr_of_str ?_ hz
              exact ⟨.str (PySem.reprText z), H, I.kept fun _ _ e => e, ⟨_, rfl⟩, fin_old h rel (.str _)⟩
          · rw [if_neg hz] at er'; cases er'
        | bl z =>
          cases er
          obtain rfl := RD.of_bl v1
          cases rx with
          | cons r1 r2 =>
            cases r2
            obtain rfl := r1
            refine PySem.P.repr_of_bool ?_
            cases z with
            | true => exact ⟨.str ("True" : Str), H, I.kept fun _ _ e => e, ⟨_, rfl⟩, fin_old h rel (.str _)⟩
            | false => exact ⟨.str ("False" : Str), H, I.kept fun _ _ e => e, ⟨_, rfl⟩, fin_old h rel (.str _)⟩
        | _ => cases er
      | sorted =>
        cases d with
        | lst ys =>
          obtain ⟨p, vs, rfl, h1, h2⟩ := v1
          have e : (match intL ys with | some ns => some (Val.own (.lst ((srtI ns).map .int))) | none => if srtOk ys then some (.own (.lst (srtD ys))) else none) = some r := er
          cases q : intL ys with
          | none =>
            rw [q] at e
            have e : (if srtOk ys then some (Val.own (.lst (srtD ys))) else none) = some r := e
            by_cases ho : srtOk ys = true
            · rw [if_pos ho] at e
              cases e
              exact cr_sortD hun pins s σ H _ us Q I rx ⟨g, _, ys, vs, rfl, SqL.of h1, h2, ho, fun p ws hp hw => fin_lst h rel hw hp⟩
            · rw [if_neg ho] at e; cases e
          | some ns =>
            rw [q] at e
            cases e
            obtain rfl := intL_rel h2 q
            refine cr_sortedI pins s σ H _ us Q I rx ⟨_, ns, rfl, SqL.of h1, fun ms q pm pw hq => ?_⟩
            rw [srtI_one pm pw]
            exact fin_lst h rel (ints_rel _) hq
        | tup ys =>
          obtain ⟨p, vs, rfl, h1, h2⟩ := RD.of_tup v1
          have e : (if srtOk ys then some (Val.own (.lst (srtD ys))) else none) = some r := er
          by_cases ho : srtOk ys = true
          · rw [if_pos ho] at e
            cases e
            exact cr_sortP hun pins s σ H _ us Q I rx ⟨g, _, ys, vs, rfl, h1, h2, ho, fun p ws hp hw => fin_lst h rel hw hp⟩
          · rw [if_neg ho] at e; cases e
        | dit ks ys =>
          obtain ⟨p, vs, rfl, h1, h2, h3⟩ := v1
          have e : (if srtOk (ks.map fun k => D.tup (k.map keyD)) then some (Val.own (.lst (srtD (ks.map fun k => D.tup (k.map keyD))))) else none) = some r := er
          have ek := zip_keys h2
          by_cases ho : srtOk (ks.map fun k => D.tup (k.map keyD)) = true
          · rw [if_pos ho] at e
            cases e
            refine cr_sortT hc hun pins s σ H _ us Q I rx ⟨_, _, rfl, h1, by rw [ek]; exact ho, fun g' p ws hp hw => ?_⟩
            rw [ek] at hw
            exact fin_lst h rel hw.keysAny hp
          · rw [if_neg ho] at e; cases e
        | _ => cases er
      | str =>
        cases d with
        | int i =>
          have e : (if i.natAbs.log2 < 1920 then some (Val.fz (.str (toString i))) else none) = some r := er
          by_cases hz : i.natAbs.log2 < 1920
          · rw [if_pos hz] at e
            cases e
            obtain rfl := RD.of_int v1
            exact call_str_int pins s σ H _ us Q I rx ⟨_, rfl, hz, fin_old h rel (.str _)⟩
          · rw [if_neg hz] at e; cases e
        | str z =>
          cases er
          obtain rfl := RD.of_str v1
          exact SkE.call_str_str pins s σ H _ us Q I rx ⟨_, rfl, fin_old h rel (.str _)⟩
        | _ => cases er
    | cons v2 vr =>
      rename_i y ys e es
      cases vr with
      | nil =>
        cases k with
        | max2 =>
          cases d <;> cases e <;> first | cases er | skip
          obtain rfl := RD.of_int v1; obtain rfl := RD.of_int v2
          exact call_max2 hc pins s σ H _ us Q I rx ⟨_, _, rfl, fin_old h rel (.int _)⟩
        | min2 =>
          cases d <;> cases e <;> first | cases er | skip
          obtain rfl := RD.of_int v1; obtain rfl := RD.of_int v2
          exact call_min2 hc pins s σ H _ us Q I rx ⟨_, _, rfl, fin_old h rel (.int _)⟩
        | _ => cases d <;> cases er
      | cons v3 vr => cases k <;> cases d <;> first | cases er | (cases e <;> cases er)

def TK.tyn : TK → String
  | .int => "int" | .bool => "bool" | .tuple => "tuple" | .str => "str" | .list => "list" | .dict => "dict"
def SK.name : SK → Str
  | .len => "len" | .repr => "repr" | .str => "str" | .bool => "bool"
def SK.dunder : SK → Str
  | .len => "__len__" | .repr => "__repr__" | .str => "__str__" | .bool => "__len__"
def SK.val : SK → Value
  | .len => .builtin "len" | .repr => .builtin "repr" | .str => .type "str" | .bool => .type "bool"
def TK.name : TK → Str
  | .int => "int" | .bool => "bool" | .tuple => "tuple" | .str => "str" | .list => "list" | .dict => "dict"
end
end Eng
end

section
namespace Eng
open PySem PySem.Spec PyProof.Rows L2

structure Cl where
  c : Value
  at_ : Option Nat
  ts : Addr → Value → Option Addr → TS
inductive HdsN (X : Cx) : List ExceptHandler → List Cl → Prop
  | nil : HdsN X [] []
  | plain {x : Str} {c : Value} {ts : Addr → Value → Option Addr → TS} {b0 : Stmt} {bs : List Stmt} {p1 p2 : Pos} {hds : List ExceptHandler} {l : List Cl} (hc : Names X x c)
      (su : ∀ (a : Addr) (o : Obj) (cls : Value) (d : Option Addr) (pn : List (Addr × Obj)), Zc cls d o → (∃ vs, o.data = .fields vs) → PSs (X.suite a ((a, o) :: pn)) (b0 :: bs) (ts a cls d)) (r : HdsN X hds l) :
      HdsN X (.ExceptHandler (some (.Name x p1)) none (b0 :: bs) p2 :: hds) (⟨c, none, ts⟩ :: l)
  | named {x n : Str} {i : Nat} {c : Value} {ts : Addr → Value → Option Addr → TS} {b0 : Stmt} {bs : List Stmt} {p1 p2 : Pos} {hds : List ExceptHandler} {l : List Cl} (hc : Names X x c) (hi : X.N[i]? = some n) (hln : X.env.kindOf n = some .local)
      (su : ∀ (a : Addr) (o : Obj) (cls : Value) (d : Option Addr) (pn : List (Addr × Obj)), Zc cls d o → (∃ vs, o.data = .fields vs) → PSs (X.suite a ((a, o) :: pn)) (b0 :: bs) (ts a cls d)) (r : HdsN X hds l) :
      HdsN X (.ExceptHandler (some (.Name x p1)) (some n) (b0 :: bs) p2 :: hds) (⟨c, some i, ts⟩ :: l)
section
variable {X : Cx} {body : List Stmt} {h0 : ExceptHandler} {hds : List ExceptHandler} {l : List Cl} {pos : Pos} {tb : WX → TS} {Wo : WX}
structure ExFld (K : PySem.W.Frag) (C : Addr) (f : Str) : Prop where
  ga : PySem.W.findIn K (.ref C) "__getattribute__" = some (some (.builtin "BaseException.__getattribute__"))
  gg : PySem.W.findIn K (.ref C) "__getattr__" = some none
  no : PySem.W.findIn K (.ref C) f = some none
  ex : PySem.W.subIn K (.ref C) (.type "BaseException") = some true
  hd : PySem.W.hasDictIn K C = true
end
end Eng
end

section
namespace Eng
open PySem PySem.Spec PyProof.Rows L2 LamX

section
variable {X : Cx}
def hdB (sg : Scope) (Ng : List Str) : List (Str × Hd) → List ExceptHandler → Bool
  | [], [] => true
  | (x, .txt z) :: hs, .ExceptHandler (some (.Name y _)) none [.Return (some (.Constant (.str r) _ _)) _] _ :: hds => decide (x = y) && decide (z = r) && decide (sg.names.lookup x = some .globalImplicit) && !(x == ("__debug__" : Str)) && hdB sg Ng hs hds
  | (x, .fld z f) :: hs, .ExceptHandler (some (.Name y _)) (some n) [.Return (some (.Tuple [.Constant (.str r) _ _, .Attribute (.Name m _) f2 _] _ _)) _] _ :: hds => decide (x = y) && decide (z = r) && decide (sg.names.lookup x = some .globalImplicit) && !(x == ("__debug__" : Str)) && decide (m = n) && decide (f = f2) &&
      Ng.contains n && decide (sg.names.lookup n = some .local) && !(n == ("__debug__" : Str)) && !(n == ("__classdict__" : Str)) && hdB sg Ng hs hds
  | _, _ => false
def catchB (sg : Scope) (Ng : List Str) (a : Str) (hs : List (Str × Hd)) : Option Str → List Stmt → Bool
  | some z, [.Try [.Expr (.Call (.Name b _) [] [] _) _] (hd :: hds) [] [] _, .Return (some (.Constant (.str r) _ _)) _] => decide (a = b) && decide (z = r) && hdB sg Ng hs (hd :: hds)
  | none, [.Try [.Return (some (.Call (.Name b _) [] [] _)) _] (hd :: hds) [] [] _] => decide (a = b) && hdB sg Ng hs (hd :: hds)
  | _, _ => false
def HdC (K : PySem.W.Frag) (mg : Str → Option Value) (hs : List (Str × Hd)) : Prop := ∀ x k, (x, k) ∈ hs → ∃ C, mg x = some (.ref C) ∧ ∀ z f, k = .fld z f → ExFld K C f
end
end Eng
end

section
namespace Eng
open PySem PySem.Spec PyProof.Rows L2

def XH (X : Cx) (W : WX) (L : Addr) (u : Value) (z : Shared) : Prop :=
  ∃ (a : Addr) (B : Heap) (t : Shared) (ps : List (Addr × Obj)) (σ : L2.St) (H : Hp) (k : Value) (d : Option Addr), u = .ref a ∧ Inv X ps σ H t ∧ (∀ b o, t.heap.get? b = some o → b ∉ frs X.stack → B.get? b = some o) ∧
    t.heap.UpToSlots z.heap ∧ (HandSPX.FlyingZ B X.stack a (Zc k d) z.heap ∨ HandSPX.HeldZ B X.stack a (Zc k d) L z.heap) ∧ H a = none ∧ z.os = t.os ∧ AllBare z.gens ∧ W k d σ H
structure Airs (X : Cx) (W : WX) : Prop where
  fr : ∃ L e0 out, X.stack = e0 :: out ∧ e0.frame = some L ∧ X.env.frame = some L ∧ ∀ u z, XH X W L u z → X.xe u z
  ws : ∀ k d σ σ' H, W k d σ H → W k d σ' H

theorem sky_fly {B B' : Heap} {l : List Env} {a L : Addr} {Z Z' : Obj → Prop} {h : Heap} (x : Sky B l a Z L h) (t : HandSPX.TracedZ h B' a Z' .none) : HandSPX.FlyingZ B l a Z h := by
  obtain ⟨oe, vs, T, oT, ts, he, _, hd, h1, _, _, hT, hdT, h3⟩ := t
  rcases x with ⟨_, _, _, oe', vs', he', _, hd', h1'⟩ | x | ⟨_, _, _, oe', vs', T', oT', ts', he', _, hd', h1', _, _, hT', hdT', h3'⟩
  · rw [he] at he'; cases he'
    rw [hd] at hd'; cases hd'
    rw [h1] at h1'; cases h1'
  · exact x
  · rw [he] at he'; cases he'
    rw [hd] at hd'; cases hd'
    rw [h1] at h1'; cases h1'
    rw [hT] at hT'; cases hT'
    rw [hdT] at hdT'; cases hdT'
    rw [h3] at h3'
    exact absurd h3' (by simp [rawInt])

theorem Airs.call {X : Cx} {W : WX} (A : Airs X W) (σ : L2.St) : PassesAt (L2.CX X.prog X.w) X σ (WE W σ) := fun pins H s u z I c => by
  obtain ⟨L, e0, out, hs, h0, hf, go⟩ := A.fr
  have c' := c
  obtain ⟨a, B, H', k, d, rfl, fl, _⟩ := c
  obtain ⟨a', B', t, ps, σ', H1, k', d', e, J, nb, up, sky, na, os, ag, w⟩ := XE.of_call (W := W) I (fun _ _ _ h => h) c'
  cases e
  exact go _ _ ⟨a, B', t, ps, σ', H1, k', d', rfl, J, nb, up, .inl (sky_fly sky fl.2.2.2), na, os, ag, w⟩

theorem airs_of {X : Cx} {W : WX} (hs : X.stack = X.env :: X.outer) (hf : X.env.frame = some X.env.locals) (tk : Takes X W) (ws : ∀ k d σ σ' H, W k d σ H → W k d σ' H) : Airs X W where
  fr := ⟨X.env.locals, X.env, X.outer, hs, hf, hf, fun u z ⟨a, B, t, ps, σ, H, k, d, e, I, nb, up, sky, na, os, ag, w⟩ => tk u z ⟨a, B, t, ps, σ, H, k, d, e, I, nb, up, .inr sky, na, os, ag, w⟩⟩
  ws := ws

def BlkAt (X : Cx) (s : Shared) (H : Hp) (ce : Env) (fp : List Addr) : Prop :=
  ∃ (ps : List (Addr × Obj)) (σ : L2.St), Inv X ps σ H s ∧ (∀ b ∈ fp, FpOk X ps H b ∧ b < s.heap.objs.size) ∧ ce.locals = s.heap.objs.size ∧ ce.frame = X.env.frame
abbrev blkE (X : Cx) (s : Shared) (H : Hp) (sc : Scope) (ce : Env) (fp : List Addr) : Cx := (X.blk s H sc ce fp).wish (notedBy (model X.prog X.w) X.A ce (CompFails (model X.prog X.w) X.A X.xe ce))

theorem frames_but {B h h2 : Heap} {C : Addr} : ∀ {l : List Env}, h.FunFrames B l → (∀ L ∈ frs l, L ≠ C) → (∀ b, b ≠ C → h2.get? b = h.get? b) → h2.FunFrames (PySem.W.hideAll B [C]) l
  | [], _, _, _ => trivial
  | e :: l, ⟨hk, ⟨L, o, hf, hn, ho, hd⟩, hr⟩, hc, k => by
    have hL : L ≠ C := hc L (List.mem_filterMap.mpr ⟨e, List.mem_cons_self, hf⟩)
    refine ⟨hk, ⟨L, o, hf, ?_, (k L hL).trans ho, hd⟩, frames_but hr (fun b hb => hc b ?_) k⟩
    · cases q : (PySem.W.hideAll B [C]).get? L with
      | none => rfl
      | some o' =>
        have z := PySem.W.of_hideAll _ q
        rw [hn] at z; cases z
    · obtain ⟨e', he, q⟩ := List.mem_filterMap.mp hb
      exact List.mem_filterMap.mpr ⟨e', List.mem_cons_of_mem _ he, q⟩
theorem traced_but {B h h2 : Heap} {C a : Addr} {Z : Obj → Prop} {fl : Value} {m : Str → Option Value} (t : HandSPX.TracedZ h B a Z fl) (hn : h.Ns C m) (k : ∀ b, b ≠ C → h2.get? b = h.get? b) : HandSPX.TracedZ h2 (PySem.W.hideAll B [C]) a Z fl := by
  obtain ⟨oe, vs, T, oT, ts, he, hz, hd, h1, hB, hne, hT, hdT, h3⟩ := t
  obtain ⟨oC, es, ep, hC, hdC, _⟩ := hn
  have na : a ≠ C := fun q => by rw [q, hC] at he; cases he; rw [hdC] at hd; cases hd
  have nT : T ≠ C := fun q => by rw [q, hC] at hT; cases hT; rw [hdC] at hdT; cases hdT
  refine ⟨oe, vs, T, oT, ts, (k a na).trans he, hz, hd, h1, ?_, hne, (k T nT).trans hT, hdT, h3⟩
  cases q : (PySem.W.hideAll B [C]).get? T with
  | none => rfl
  | some o' =>
    have z := PySem.W.of_hideAll _ q
    rw [hB] at z; cases z

theorem airs_blk {X : Cx} {W : WX} {s : Shared} {H : Hp} {sc : Scope} {ce : Env} {fp : List Addr} (A : Airs X W) (b : BlkAt X s H ce fp) : Airs (blkE X s H sc ce fp) W := by
  obtain ⟨L, e0, out, hs, h0, hf, go⟩ := A.fr
  obtain ⟨ps0, σ0, I0, hfp, hC, hcf⟩ := b
  refine ⟨⟨L, e0, out, hs, h0, hcf.trans hf, fun u z ⟨a, B, t, ps, σ, H1, k, d, e, I, nb, up, sky, na, os, ag, w⟩ => ?_⟩, A.ws⟩
  subst e
  have hfr : X.A.frames = some (e0 :: out) := by rw [I0.ok.frames, hs]
  have fz : ce.frame = some L := hcf.trans hf
  have nfr : ∀ b ∈ frs X.stack, b ≠ ce.locals := fun b hb q => by
    obtain ⟨_, o, ho, _⟩ := I0.stack.mem hb
    have := Heap.lt_size ho
    rw [q, hC] at this
    exact Nat.lt_irrefl _ this
  obtain ⟨m, hn, _⟩ := I.loc
  have fin : ∀ h1, HandSPX.HeldZ B X.stack a (Zc k d) L h1 → z.heap.UpToSlots h1 → CompFails (model X.prog X.w) X.A X.xe ce (.ref a) { z with heap := h1 } := fun h1 hh up1 => by
    have hn1 : h1.Ns ce.locals m := (up.trans up1).ns hn
    refine ⟨m, hn1, fun h2 m2 hn2 hs2 => ?_⟩
    obtain ⟨k1, k2, k3, k4⟩ := hh
    have tr2 := traced_but k4 hn1 hs2.2
    have held2 : HandSPX.HeldZ (PySem.W.hideAll B [ce.locals]) X.stack a (Zc k d) L h2 := by
      refine ⟨fun b o hb => ?_, ?_, frames_but k3 nfr hs2.2, tr2⟩
      · have hne : b ≠ ce.locals := fun q => by
          rw [PySem.W.hideAll_none [ce.locals] (by rw [q]; exact List.mem_singleton.mpr rfl)] at hb; cases hb
        rw [hs2.2 b hne]
        exact k1 b o (PySem.W.of_hideAll _ hb)
      · cases q : (PySem.W.hideAll B [ce.locals]).get? a with
        | none => rfl
        | some o' =>
          have z := PySem.W.of_hideAll _ q
          rw [k2] at z; cases z
    have tr2' := tr2
    obtain ⟨oe, vs, T, oT, ts, he, hz, hd, h1', _⟩ := tr2'
    unfold PySem.passOn
    refine wpAny_bind (wpAny_field he hd h1' ?_)
    rw [if_neg (show ¬ ((Value.ref T == Value.none) = true) from by simp), fz]
    refine wpAny_bind (HandSPX.setFlight_onZ held2 fun h3 hd3 up3 => wpAny_throw ?_)
    have J1 : Inv X ps0 σ0 H1 t := I0.call' (ch := fp) I.os I.base I.hok I.bare fun b hb => ⟨(hfp b hb).1.2.2.2.1, (hfp b hb).1.2.1, (hfp b hb).1.2.2.2.2.1, (hfp b hb).1.2.2.2.2.2⟩
    have nC : H1 ce.locals = none := I.free
    have fC : FpOk X ps0 H1 ce.locals := I0.fpOk (Nat.le_of_eq hC.symm) nC
    obtain ⟨f0, f1, f2, f3, f4, f5⟩ := fC
    have hid : ∀ b o, b ≠ ce.locals → t.heap.get? b = some o → (PySem.W.hideAll t.heap [ce.locals]).get? b = some o := fun b o hb e => PySem.W.hideAll_get _ e fun q => hb (List.mem_singleton.mp q)
    have J2 := J1.turned (t' := t.toks) hid f0 f1 f3 f4 f5
    refine go _ _ ⟨a, PySem.W.hideAll B [ce.locals], _, ps0, σ0, H1, k, d, rfl, J2, fun b o e hb => ?_, fun b o e hnf => ?_, .inr hd3, na, os, ag, A.ws _ _ _ _ _ w⟩
    · have hne : b ≠ ce.locals := fun q => by
        rw [PySem.W.hideAll_none [ce.locals] (by rw [q]; exact List.mem_singleton.mpr rfl)] at e; cases e
      exact PySem.W.hideAll_get _ (nb b o (PySem.W.of_hideAll _ e) hb) fun q => hne (List.mem_singleton.mp q)
    · have hne : b ≠ ce.locals := fun q => by
        rw [PySem.W.hideAll_none [ce.locals] (by rw [q]; exact List.mem_singleton.mpr rfl)] at e; cases e
      obtain ⟨sl, e1⟩ := (up.trans up1) b o (PySem.W.of_hideAll _ e) hnf
      have e2 : h2.get? b = some { o with slots := sl } := (hs2.2 b hne).trans e1
      obtain ⟨sl2, e3⟩ := up3 b _ e2 hnf
      exact ⟨sl2, e3⟩
  show wpAny (model X.prog X.w) X.A (noteFrame (.ref a) ce) _ _ z
  rw [noteFrame_env (.ref a) (cenv := ce) (env := e0) (fz.trans h0.symm)]
  rcases sky with fl | hh
  · have fl' : HandSPX.FlyingZ B (e0 :: out) a (Zc k d) z.heap := by rw [← hs]; exact fl
    exact HandSPX.looks_onZ Zc.steady hfr h0 fl' fun h1 hh up1 => fin h1 (by rw [hs]; exact hh) up1
  · exact HandSPX.againZ h0 hh.2.2.2 (fin z.heap hh (Heap.UpToSlots.refl _))

section
variable {X : Cx}
def blkX (X : Cx) (ce : Env) : Value → Shared → Prop := notedBy (model X.prog X.w) X.A ce (CompFails (model X.prog X.w) X.A X.xe ce)
theorem lcE_core {pins : List (Addr × Obj)} {q0 : Shared} {σ : L2.St} {G0 : Hp} {Q : VK} {elt tg iter : Expr} {ifs : List Expr} {scope : Scope} {own : List (Str × Nat)} {pos pos' : Pos} {wi : TI} {g : TG} {tt : TT} {te : TE} {use : Option (Value → Sem Unit)} {Qf : Value → Shared → Prop}
    (hc : X.calm = true) (hN : X.N.Nodup) (J0 : Inv X pins σ G0 q0) (hi : PI X tg iter wi) (ok : BlkOk X.N X.env.scope scope own)
    (hg : ∀ (q : Shared) (G : Hp) (C : Addr) (cl : List (Str × Addr)) (fp : List Addr), BlkAt X q G (compEnvC scope cl C X.env) fp → PG (blkE X q G scope (compEnvC scope cl C X.env) fp) tg g)
    (ht : ∀ (q : Shared) (G : Hp) (C : Addr) (cl : List (Str × Addr)) (fp : List Addr), BlkAt X q G (compEnvC scope cl C X.env) fp → PTs (blkE X q G scope (compEnvC scope cl C X.env) fp) ifs tt)
    (he : ∀ (q : Shared) (G : Hp) (C : Addr) (cl : List (Str × Addr)) (fp : List Addr), BlkAt X q G (compEnvC scope cl C X.env) fp → PE (blkE X q G scope (compEnvC scope cl C X.env) fp) elt te) (hs : ∀ x, foldedSetIterable iter X.env x = pure x)
    (wish : tLc wi g tt te (own.map (·.2)) σ G0 Q)
    (hRR : ∀ D C z m G, Inv X pins σ G z → Q (.ref D) G → z.heap.Ns C m → FpOk X pins G C → compPost (model X.prog X.w) X.A X.xe use Qf (.ref D) C (.ok .next) z) :
    wpAny (model X.prog X.w) X.A (comprehension (.ListComp elt [⟨tg, iter, ifs, 0⟩] scope pos) scope X.env pos' (newList []) false (eval iter X.env) use) Qf X.xe q0 := by
  have free : ∀ y ∈ scope.names, y.2 = .free → ∃ c, X.env.cells.lookup y.1 = some c := fun y hy e => (ok.free y hy e).elim (fun k => J0.ok.has _ (.inl k)) fun k => J0.ok.has _ (.inr k)
  refine comprehension_at (use := use) (g := ⟨tg, iter, ifs, 0⟩) (gs := []) rfl hs (closure_ok free) ok.kind (fun y hy e => by rw [ok.uniq y hy, e]) (thn (hi.run pins q0 σ G0 _ J0 wish) fun xv q1 hx => thn hx fun itv q2 h2 => ?_)
  obtain ⟨it, fp, tn, J, G2, e, J2, T, st2, f2, q⟩ := h2
  subst e
  refine wpAny_newObj_type (newEnv_comp ?_) (Nat.zero_le _)
  generalize hD : q2.heap.objs.size = D
  have nD : G2 D = none := J2.hok.fresh (Nat.le_of_eq hD)
  obtain ⟨U, ⟨m0, u0⟩, turn⟩ := q D nD
  generalize hq3 : ({ q2 with heap := q2.heap.push { cls := .type "list", data := .seq ([] : List Value).toArray } } : Shared) = q3
  have e3 : q3.heap = q2.heap.push { cls := .type "list", data := .seq ([] : List Value).toArray } := by rw [← hq3]
  have J3 : Inv X pins σ (upd G2 D (.lst [])) q3 := by
    rw [← hq3]
    refine J2.laid (t' := q2.toks) (fun b o e => Heap.get?_push_of_some _ e) (Nat.le_of_eq hD) ⟨Nat.zero_le _, [], 0, .nil, ?_⟩
    rw [← hD]; exact Heap.get?_push_size _ rfl
  have f3 : ∀ b ∈ fp, FpOk X pins (upd G2 D (.lst [])) b ∧ b < q3.heap.objs.size := fun b hb => by
    obtain ⟨o, e, _⟩ := T.obj _ _ st2 b hb
    have hlt : b < q2.heap.objs.size := Heap.lt_size e
    refine ⟨⟨?_, (f2 b hb).2⟩, by rw [e3, Heap.size_push]; exact Nat.lt_succ_of_lt hlt⟩
    rw [upd_ne (by rw [← hD]; exact Nat.ne_of_lt hlt)]; exact (f2 b hb).1
  have st3 : tn 0 q3.heap := T.keep _ _ _ st2 fun b _ o e => by rw [e3]; exact Heap.get?_push_of_some _ e
  have J4 := block_start J3 ok hN f3
  show codeAny _ _ (.compStart (.ListComp elt [⟨tg, iter, ifs, 0⟩] scope pos) 0 (.ref it) (.ref D) (compEnvC scope (cellsFrom (q3.heap.objs.size + 1) scope.names (cloFrom X.env.cells scope.names [])) q3.heap.objs.size X.env)) (compEnds (model X.prog X.w) X.A X.xe use Qf (.ref D) (compEnvC scope (cellsFrom (q3.heap.objs.size + 1) scope.names (cloFrom X.env.cells scope.names [])) q3.heap.objs.size X.env)) { q3 with heap := pushCells (q3.heap.push { cls := .type "dict", data := .dict #[] }) scope.names }
  have bat : BlkAt X q3 (upd G2 D (.lst [])) (compEnvC scope (cellsFrom (q3.heap.objs.size + 1) scope.names (cloFrom X.env.cells scope.names [])) q3.heap.objs.size X.env) fp := ⟨pins, σ, J3, f3, rfl, rfl⟩
  have pg := hg q3 _ q3.heap.objs.size _ fp bat
  have pt := ht q3 _ q3.heap.objs.size _ fp bat
  have pe := he q3 _ q3.heap.objs.size _ fp bat
  generalize hce : compEnvC scope (cellsFrom (q3.heap.objs.size + 1) scope.names (cloFrom X.env.cells scope.names [])) q3.heap.objs.size X.env = ce at J4 pg pt pe bat ⊢
  have cL : ce.locals = q3.heap.objs.size := by subst hce; rfl
  generalize hG3 : upd G2 D (.lst []) = G3 at J3 J4 pg pt pe bat u0 f3
  generalize hq4 : ({ q3 with heap := pushCells (q3.heap.push { cls := .type "dict", data := .dict #[] }) scope.names } : Shared) = q4 at J4 ⊢
  have st4 : tn 0 q4.heap := T.keep _ _ _ st3 fun b _ o e => by rw [← hq4]; exact pushCells_keeps _ _ _ _ (Heap.get?_push_of_some _ e)
  have K4 : Inv (blkE X q3 G3 scope ce fp) [] (wipe σ (own.map (·.2))) G3 q4 := J4.wish _
  have stay : ∀ {σ' : L2.St} {G' : Hp} {z : Shared}, Inv (blkE X q3 G3 scope ce fp) [] σ' G' z → (∀ b ∈ fp, G' b = none) → ∀ b ∈ fp, FpOk (blkE X q3 G3 scope ce fp) [] G' b := fun {σ' G' z} V hn b hb =>
    ⟨hn b hb, (V.ok.exf b hb).1, V.ok.exfs b hb, .inl hb, fun x c e => (V.ok.exf b hb).2 x c e, fun p hp => nomatch (show p ∈ ([] : List (Addr × Obj)) from hp)⟩
  have hE : notedBy (model X.prog X.w) X.A ce (fun e z => compEnds (model X.prog X.w) X.A X.xe use Qf (.ref D) ce (.error e) z) = blkX X ce := by cases use <;> rfl
  have loop : codeAny (model X.prog X.w) X.A (.compLoop (.ListComp elt [⟨tg, iter, ifs, 0⟩] scope pos) 0 (.ref it) (.ref D) ce) (compEnds (model X.prog X.w) X.A X.xe use Qf (.ref D) ce) q4 := by
    refine compLoop_any (fun n z => ∃ i G', Inv (blkE X q3 G3 scope ce fp) [] (wipe σ (own.map (·.2))) G' z ∧ tn i z.heap ∧ (∀ b ∈ fp, G' b = none) ∧ U i n G') ?_ m0 ⟨0, G3, K4, st4, fun b hb => (f3 b hb).1.1, u0⟩
    rintro n q5 ⟨i, G5, J5, st5, n5, u5⟩
    rw [hE]
    rcases turn i n G5 u5 with ⟨stop, done⟩ | ⟨more, Nx, hNx, step⟩
    · refine thnF (T.done (blkE X q3 G3 scope ce fp) rfl rfl rfl hc i [] q5 _ G5 (fun _ _ => False) J5 (stay J5 n5) st5 stop) fun r q6 ⟨hr, J6⟩ => ?_
      subst hr
      have J7 : Inv X pins σ G5 q6 := J3.call' (ch := fp) J6.os J6.base J6.hok J6.bare fun b hb => ⟨(f3 b hb).1.2.2.2.1, (f3 b hb).1.2.1, (f3 b hb).1.2.2.2.2.1, (f3 b hb).1.2.2.2.2.2⟩
      have nC : G5 ce.locals = none := J6.free
      obtain ⟨mm, hn, _⟩ := J6.loc
      have last := hRR D ce.locals q6 mm G5 J7 done hn (J3.fpOk (Nat.le_of_eq cL.symm) nC)
      cases use <;> exact last
    · refine thnF (T.item (blkE X q3 G3 scope ce fp) rfl rfl rfl hc i [] q5 _ G5 (fun _ _ => False) J5 (stay J5 n5) st5 more) fun r q6 ⟨u, hr, h6⟩ => ?_
      subst hr
      refine thnF h6 fun _ q7 ⟨x, G7, J7, r7, y7, st7, n7⟩ => ?_
      have J7' := J7.pinned (stay J7 n7) (T.obj _ _ st7)
      refine thn (pg.run _ q7 _ G7 x u _ J7' r7 (step x G7 y7)) fun _ q8 ⟨σ8, G8, J8, hw8, h8⟩ => ?_
      refine thn (pt.run _ q8 σ8 G8 _ J8 h8) fun b q9 ⟨G9, J9, h9⟩ => ?_
      have fin : ∀ {z : Shared} {G' : Hp}, Inv (blkE X q3 G3 scope ce fp) ([] ++ pinsAt fp q7.heap) σ8 G' z → Nx G' → ∃ m, m < n ∧ ∃ i G', Inv (blkE X q3 G3 scope ce fp) [] (wipe σ (own.map (·.2))) G' z ∧ tn i z.heap ∧ (∀ b ∈ fp, G' b = none) ∧ U i m G' := fun {z G'} V nx => by
        obtain ⟨m', hm, u'⟩ := hNx G' nx
        have pin' : ∀ b ∈ fp, ∀ o, q7.heap.get? b = some o → z.heap.get? b = some o ∧ G' b = none := fun b hb o e =>
          let y := V.pin (b, o) (List.mem_append_right _ (List.mem_append_right _ (mem_pinsAt hb e)))
          ⟨y.1, y.2.1⟩
        have hl : (wipe σ (own.map (·.2))).length = σ8.length := by rw [← hw8, wipe_length]
        refine ⟨m', hm, i + 1, G', (V.unpinned (pins := [])).weak hl (fun j v e => ?_), T.keep _ _ _ st7 fun b hb o e => (pin' b hb o e).1, fun b hb => ?_, u'⟩
        · rw [← hw8] at e
          exact (wipe_some e).1
        · obtain ⟨o, e, _⟩ := T.obj _ _ st7 b hb
          exact (pin' b hb o e).2
      cases b with
      | false =>
        rw [if_neg Bool.false_ne_true] at h9 ⊢
        exact fin J9 h9
      | true =>
        rw [if_pos rfl] at h9 ⊢
        refine thn (pe.run _ q9 σ8 G9 _ J9 h9) fun w q10 ⟨yv, G10, J10, r10, acc, hD10, hz10, nx⟩ => ?_
        exact app_ok (X := blkE X q3 G3 scope ce fp) J10 hD10 hz10 r10 fun q11 J11 => fin J11 nx
  exact codeAny_compStart_list loop (T.self X.A 0 _ _ _ st4 loop)
theorem pe_lcE {elt tg iter : Expr} {ifs : List Expr} {scope : Scope} {own : List (Str × Nat)} {pos : Pos} {wi : TI} {g : TG} {tt : TT} {te : TE} (hc : X.calm = true) (hN : X.N.Nodup) (hi : PI X tg iter wi) (ok : BlkOk X.N X.env.scope scope own)
    (hg : ∀ (q : Shared) (G : Hp) (C : Addr) (cl : List (Str × Addr)) (fp : List Addr), BlkAt X q G (compEnvC scope cl C X.env) fp → PG (blkE X q G scope (compEnvC scope cl C X.env) fp) tg g)
    (ht : ∀ (q : Shared) (G : Hp) (C : Addr) (cl : List (Str × Addr)) (fp : List Addr), BlkAt X q G (compEnvC scope cl C X.env) fp → PTs (blkE X q G scope (compEnvC scope cl C X.env) fp) ifs tt)
    (he : ∀ (q : Shared) (G : Hp) (C : Addr) (cl : List (Str × Addr)) (fp : List Addr), BlkAt X q G (compEnvC scope cl C X.env) fp → PE (blkE X q G scope (compEnvC scope cl C X.env) fp) elt te) (hs : ∀ x, foldedSetIterable iter X.env x = pure x) :
    PE X (.ListComp elt [⟨tg, iter, ifs, 0⟩] scope pos) (tLc wi g tt te (own.map (·.2))) := by
  refine ⟨fun pins q0 σ G0 Q J0 wish => ?_⟩
  rw [eval_ListComp]
  refine lcE_core hc hN J0 hi ok hg ht he hs wish fun D C z m G J done hn f => ⟨m, hn, fun h' sb => ?_⟩
  obtain ⟨z0, z1, z2, z3, z4, z5⟩ := f
  exact ⟨.ref D, G, J.turned (t' := z.toks) (fun b o hb e => (sb.2 b hb).trans e) z0 z1 z3 z4 z5, rfl, done⟩
theorem ps_setLcE {i : Nat} {y : Str} {py : Pos} {elt tg iter : Expr} {ifs : List Expr} {scope : Scope} {own : List (Str × Nat)} {pos spos : Pos} {wi : TI} {g : TG} {tt : TT} {te : TE} (hc : X.calm = true) (hN : X.N.Nodup) (hy : X.N[i]? = some y)
    (hyl : X.env.scope.names.lookup y = some .local) (hsw : swapsWith (.ListComp elt [⟨tg, iter, ifs, 0⟩] scope pos) (some (.Name y py)) spos.line X.env = pure true) (hi : PI X tg iter wi) (ok : BlkOk X.N X.env.scope scope own)
    (hg : ∀ (q : Shared) (G : Hp) (C : Addr) (cl : List (Str × Addr)) (fp : List Addr), BlkAt X q G (compEnvC scope cl C X.env) fp → PG (blkE X q G scope (compEnvC scope cl C X.env) fp) tg g)
    (ht : ∀ (q : Shared) (G : Hp) (C : Addr) (cl : List (Str × Addr)) (fp : List Addr), BlkAt X q G (compEnvC scope cl C X.env) fp → PTs (blkE X q G scope (compEnvC scope cl C X.env) fp) ifs tt)
    (he : ∀ (q : Shared) (G : Hp) (C : Addr) (cl : List (Str × Addr)) (fp : List Addr), BlkAt X q G (compEnvC scope cl C X.env) fp → PE (blkE X q G scope (compEnvC scope cl C X.env) fp) elt te) (hs : ∀ x, foldedSetIterable iter X.env x = pure x) :
    PS X (.Assign [.Name y py] (.ListComp elt [⟨tg, iter, ifs, 0⟩] scope pos) spos) (tAsg (tLc wi g tt te (own.map (·.2))) (gName i)) := by
  refine ⟨fun pins q0 σ G0 D J0 h => ?_⟩
  rw [exec_Assign_Name_used _ _ _ _ hsw]
  refine wpAny_bind (wpAny_standAt (wpAny_bind ?_))
  show wpAny _ X.A (do let _ ← comprehension (.ListComp elt [⟨tg, iter, ifs, 0⟩] scope pos) scope X.env (firstIterPos [⟨tg, iter, ifs, 0⟩] pos) (newList []) false (eval iter X.env) (some (assign (.Name y py) X.env))) _ _ q0
  have wish : tLc wi g tt te (own.map (·.2)) σ G0 (fun x H1 => gName i x σ H1 D.nx) := h
  refine wpAny_bind (thn (lcE_core (Qf := fun _ z => SP X pins D .next z) hc hN J0 hi ok hg ht he hs wish fun L C z m G J done hn f => ?_) fun _ z hq => wpAny_pure (wpAny_pure hq))
  obtain ⟨z0, z1, z2, z3, z4, z5⟩ := f
  show wpAny _ _ (assign (.Name y py) X.env (.ref L)) _ _ _
  refine wpAny_assign_Name (store_ok2 (v := V.ref L) J hN hy (.inl hyl) rfl (fun r J2 ⟨a, sb, ha⟩ => ?_) (.inr hyl))
  have haC : C ≠ a := ha.elim (fun w => by rw [w]; exact z1) fun w e => z4 y a w e.symm
  exact ⟨m, hn.sameBut sb haC, fun h3 sb3 => ⟨_, G, J2.turned (t' := r.toks) (fun b o hb e => (sb3.2 b hb).trans e) z0 z1 z3 z4 z5, done⟩⟩
end
end Eng
end

section
namespace Eng
open PySem PySem.Spec PyProof.Rows L2

theorem oexB_ok {K : PySem.W.Frag} {C : Addr} (q : oexB K C = true) : OexC K C := by
  unfold oexB at q
  rw [Bool.and_eq_true, Bool.and_eq_true, Bool.and_eq_true, Bool.and_eq_true] at q
  obtain ⟨⟨⟨⟨q, h1⟩, h2⟩, h3⟩, h4⟩ := q
  refine ⟨?_, of_decide_eq_true h1, of_decide_eq_true h2, of_decide_eq_true h3, h4⟩
  split at q
  · rename_i dd cd sl ho
    split at q
    · rename_i C' bm k0 k1 k2 k3 n k5 hm hs
      simp only [Bool.and_eq_true, beq_iff_eq, Bool.not_eq_true'] at q
      obtain ⟨⟨⟨⟨rfl, rfl⟩, hdel⟩, hdict⟩, ht⟩ := q
      obtain ⟨nm, bs, mro, ns, qn, hd, sn, sub, ab, col, del⟩ := cd
      dsimp only at hm hdel hdict
      subst hm hdel hdict
      obtain ⟨l⟩ := sl
      have hs : l = _ := hs
      subst hs
      exact ⟨nm, qn, ns, bs, bm, sn, sub, ab, col, dd, k0, k1, k2, k3, k5, ho, ht⟩
    · cases q
  · cases q
structure NInit (K : PySem.W.Frag) (N : Addr) : Prop where
  rd : PySem.W.readsIn K N (.type "type") = true
  ga : PySem.W.specialIn K (.ref N) "__getattribute__" = some (some (.builtin "type.__getattribute__"))
  at_ : PySem.W.findCls K (.ref N) (.type "type") "__init__" = some (.val (.builtin "ValueError.__init__"))
def spXi (C : Addr) (f : Str) : Sp := fun vs H Q _ => ∃ (a : Addr) (v : V), vs = [.ref a, v] ∧ H a = some (exo a C none) ∧ ∀ dx, H dx = none → dx ≠ a → Q .non (upd (upd H dx (exd dx [(f, v)])) a (exo a C (some dx)))
section
variable {X : Cx} {e : Expr} {es : List Expr} {ta : TA} {p1 p2 pos : Pos}
theorem pe_ninit {nd : Str} {Nd : Addr} {pl : Sem Bool} (hg : Gl X nd) (hm : X.mg nd = some (.ref Nd)) (hdb : (nd == ("__debug__" : Str)) = false) (T : NInit X.K Nd) (ha : PA X (e :: es) ta)
    (hc : eval (.Call (.Attribute (.Name nd p1) "__init__" p2) (e :: es) [] pos) X.env = (do
      let ov ← eval (.Name nd p1) X.env
      standAt p2.atName
      let (f, first) ← holding [ov] (getMethod ov "__init__" pl)
      callWith pos f first (backTo pos (starEach (e :: es) X.env)) (backToKw pos (keywordEach [] X.env))))
    (he : starEach (e :: es) X.env = (false, eval e X.env) :: starEach es X.env) (hpl : (backTo pos (starEach es X.env)).any (·.1) = false) :
    PE X (.Call (.Attribute (.Name nd p1) "__init__" p2) (e :: es) [] pos) (tVeI X.K ta) := by
  refine ⟨fun pins s σ H Q I h => ?_⟩
  refine PySem.W.methodCall_KW (ld_glob I hg hm ?_ hdb) hc
  refine PySem.W.method_cls (I.tok _).kIn T.ga (PySem.W.cls_value (I.tok _).kIn T.rd T.at_ (by decide +kernel) ?_)
  show wpAny _ _ (callWith pos (Value.builtin "ValueError.__init__") [] (backTo pos (starEach (e :: es) X.env)) []) _ _ _
  refine PyProof.Rows.callWith_method1 (thn (ha.run pos pins _ σ H _ ((I.tok _).tok _) h) fun us s1 ⟨vs, H1, I1, r1, a, C, ws, ev, hl, T, ea, q⟩ => ?_) he hpl
  subst ev
  cases r1 with
  | @cons _ u0 _ ur ra rw2 =>
    obtain rfl : u0 = Value.ref a := ra
    have few : ur.length ≤ sizeLine := by
      rw [← Paired.length rw2, sizeLine_eq]
      omega
    exact oinit_ok T I1 ea few fun s' J => ⟨.non, H1, J, rfl, q⟩
end
def xiB (N : List Str) (sc : Scope) (nd f sf by_ : Str) : List Stmt → Bool
  | [.Expr (.Call (.Attribute (.Name a _) m ap) [.Name b _, .Constant (.str _) _ _] [] cp) _, .Assign [.Attribute (.Name c _) g _] (.Name d _) _] => decide (a = nd) && decide (m = "__init__") && decide (b = sf) && decide (c = sf) && decide (g = f) && decide (d = by_) && decide (N = [sf, by_]) &&
      decide (sc.names.lookup nd = some .globalImplicit) && decide (sc.names.lookup sf = some .local) && decide (sc.names.lookup by_ = some .local) && !(nd == ("__debug__" : Str)) && !(sf == ("__debug__" : Str)) && !(sf == ("__classdict__" : Str)) && !(by_ == ("__debug__" : Str)) && !(by_ == ("__classdict__" : Str)) && (ap.endLine == cp.line)
  | _ => false
end Eng
end

section
namespace Eng
open PySem PySem.Spec PyProof.Rows L2

structure AR where
  lo : Nat
  hi : Nat
  kw : List KQ
structure SC where
  sc : Scope
  N : List Str
  fs : List Str
  gl : Str → Option D
  xs : List Str
  top : Bool
  /-- how many arguments a def takes: at least, at most -/
  ar : Str → AR := fun _ => ⟨0, 0, []⟩
  /-- methods: the def's qualified name, its class, its name -/
  ms : List (Str × Str × Str) := []
  /-- classes -/
  cs : List Str := []
  /-- fields of classes -/
  ats : List (Str × Str) := []
  /-- own exceptions with a field -/
  xf : List (Str × Str) := []
  xz : XZ := {}
  /-- the def itself, the defs with tables, the defs that catch -/
  me : Str := ""
  tbs : List Str := []
  hk : List (Str × (List (Str × Hd) × Option Str)) := []
def pln : Expr → Bool
  | .Starred .. => false
  | .Set .. => false
  | .Slice .. => false
  | _ => true
def isVis : Option NameKind → Bool
  | some .local => true
  | some .cell => true
  | some .free => true
  | _ => false
def isLoc (top : Bool) : Option NameKind → Bool
  | some .local => true
  | some .cell => top
  | _ => false
def isGl : Option NameKind → Bool
  | some .globalImplicit => true
  | _ => false
def visB (c : SC) (i : Nat) (x : Str) : Bool := decide (c.N[i]? = some x) && isVis (c.sc.names.lookup x) && !(x == "__debug__") && !(x == "__classdict__")
def glB (c : SC) (x : Str) : Bool := isGl (c.sc.names.lookup x) && !(x == "__debug__")
def conOk : D → Const → Bool
  | .non, .none => true
  | .bl b, .bool k => b == k
  | .int i, .int j => decide (i = j)
  | .str x, .str y => decide (x = y)
  | _, _ => false
def Tg.own (N : List Str) (tg : Tg) : List (Str × Nat) := tg.slots.map fun i => (N.getD i Str.empty, i)
mutual
def chkG (c : SC) : Tg → Expr → Bool
  | .nm i, .Name x _ => decide (c.N[i]? = some x) && isLoc c.top (c.sc.names.lookup x)
  | .tp ts, .Tuple es _ _ => chkGs c ts es
  | _, _ => false
def chkGs (c : SC) : Tgs → List Expr → Bool
  | .nil, [] => true
  | .cons t ts, e :: es => chkG c t e && chkGs c ts es
  | _, _ => false
end
def isTupleE : Expr → Bool
  | .Tuple .. => true
  | _ => false
structure CK2 where
  v : Expr → Bool
  t : Expr → Bool
def chkO (m : Xp) (f : Expr → Bool) (o : Option Expr) : Bool := match m, o with
  | .omit, none => true
  | .omit, some _ => false
  | _, some x => f x
  | _, none => false
def xItc : Expr → Option (Expr × List Expr × Nat × Pos × Str × Pos × Str × Pos × Pos × List Expr × Scope × Pos)
  | .ListComp el [⟨.Tuple es k tp, .Call (.Attribute (.Name x px) m ap) [] [] cp, fs, 0⟩] sc p => some (el, es, k, tp, x, px, m, ap, cp, fs, sc, p)
  | _ => none
def xEnc : Expr → Option (Expr × List Expr × Nat × Pos × Str × Str × List Expr × Scope)
  | .ListComp el [⟨.Tuple es k tp, .Call (.Name f _) [.Name x _] [] _, fs, 0⟩] sc _ => some (el, es, k, tp, f, x, fs, sc)
  | _ => none
def xNmc : Expr → Option (Expr × Expr × Str × List Expr × Scope)
  | .ListComp el [⟨t, .Name x _, fs, 0⟩] sc _ => some (el, t, x, fs, sc)
  | _ => none
def xSv : Expr → Option (Str × Pos × Str × Pos × Str × Pos × Pos × Pos)
  | .Call (.Name f p0) [.Call (.Attribute (.Name y py) m ap) [] [] cp] [] p => some (f, p0, y, py, m, ap, cp, p)
  | _ => none
def xMeth : Expr → Option (Expr × Str × Pos × List Expr × Pos)
  | .Call (.Attribute o m ap) es [] p => some (o, m, ap, es, p)
  | _ => none
theorem xMeth_eq {e : Expr} {o : Expr} {m : Str} {ap p : Pos} {es : List Expr} (h : xMeth e = some (o, m, ap, es, p)) : e = .Call (.Attribute o m ap) es [] p := by
  unfold xMeth at h
  split at h
  · cases h; rfl
  · cases h
def xFnK : Expr → Option (Str × Pos × List Expr × List Keyword × Pos)
  | .Call (.Name x q) es ks p => some (x, q, es, ks, p)
  | _ => none
def xMethK : Expr → Option (Expr × Str × Pos × List Expr × List Keyword × Pos)
  | .Call (.Attribute o m ap) es ks p => some (o, m, ap, es, ks, p)
  | _ => none
def kwNm : List Keyword → List Str → Bool
  | [], [] => true
  | ⟨some k, _, _⟩ :: r, x :: xs => decide (k = x) && kwNm r xs
  | _, _ => false
def xFn : Expr → Option (Str × Pos × List Expr × Pos)
  | .Call (.Name x q) es [] p => some (x, q, es, p)
  | _ => none
theorem xFn_eq {e : Expr} {x : Str} {q p : Pos} {es : List Expr} (h : xFn e = some (x, q, es, p)) : e = .Call (.Name x q) es [] p := by
  unfold xFn at h
  split at h
  · cases h; rfl
  · cases h
def xAttr : Expr → Option (Expr × Str × Pos)
  | .Attribute o f p => some (o, f, p)
  | _ => none
theorem xAttr_eq {e o : Expr} {f : Str} {p : Pos} (h : xAttr e = some (o, f, p)) : e = .Attribute o f p := by
  unfold xAttr at h
  split at h
  · cases h; rfl
  · cases h
def xCmp : Expr → Option (Expr × CmpOp × Expr)
  | .Compare l [o] [r] _ => some (l, o, r)
  | _ => none
theorem xCmp_eq {e l r : Expr} {o : CmpOp} (h : xCmp e = some (l, o, r)) : ∃ p, e = .Compare l [o] [r] p := by
  unfold xCmp at h
  split at h
  · cases h; exact ⟨_, rfl⟩
  · cases h
def xRev : Expr → Option Expr
  | .Subscript x (.Slice none none (some (.UnaryOp .USub (.Constant (.int 1) _ _) _)) _) _ => some x
  | _ => none
def xName : Expr → Option Str
  | .Name x _ => some x
  | _ => none
def noSup : Expr → Bool
  | .Call (.Name _ _) [] [] _ => false
  | _ => true
def MK.name : MK → Str
  | .upper => "upper" | .get1 => "get" | .get2 => "get" | .join => "join" | .split => "split" | .isdigit => "isdigit"
def MK.ar : MK → Nat
  | .upper => 0 | .get1 => 1 | .get2 => 2 | .join => 1 | .split => 1 | .isdigit => 0
def xAsk : Expr → Option (Str × Pos × Arguments × Expr × Scope × Pos × Pos)
  | .Call (.Name x q) [.Lambda ps b sc lp] [] p => some (x, q, ps, b, sc, lp, p)
  | _ => none
def noPar (ps : Arguments) : Bool := ps.posonlyargs.isEmpty && ps.args.isEmpty && ps.vararg.isNone && ps.kwonlyargs.isEmpty && ps.kw_defaults.isEmpty && ps.kwarg.isNone && ps.defaults.isEmpty
def callB : Expr → Bool
  | .Call .. => true
  | .Name .. => true
  | _ => false
def kqB (c : SC) (f : Str) (q : KQ) : Bool := (c.ar f).kw.any fun r => KQ.same r q
def arB (c : SC) (f : Str) (n : Nat) : Bool := decide ((c.ar f).1 ≤ n) && decide (n ≤ (c.ar f).2)
def eqOp : Bool → CmpOp
  | true => .NotEq
  | false => .Eq
mutual
def chk2 : Xp → SC → CK2
  | .con d, c => ⟨fun e => match e with | .Constant k _ _ => conOk d k | _ => false, fun _ => false⟩
  | .var i, c => let f := fun e => match e with | .Name x _ => visB c i x | _ => false; ⟨f, f⟩
  | .glo x, c => ⟨fun _ => false, fun _ => false⟩
  | .bin k a b, c => ⟨fun e => match e with | .BinOp l o r _ => decide (o = k.op) && (chk2 a c).v l && (chk2 b c).v r | _ => false, fun _ => false⟩
  | .cmp k a b, c => let f := fun e => match e with | .Compare l [o] [r] _ => decide (o = k.op) && pln r && (chk2 a c).v l && (chk2 b c).v r | _ => false; ⟨f, f⟩
  | .chain k l a b d, c => ⟨fun _ => false, fun _ => false⟩
  | .not a, c => ⟨fun e => match e with | .UnaryOp .Not x _ => (chk2 a c).v x | _ => false, fun e => match e with | .UnaryOp .Not x _ => (chk2 a c).t x | _ => false⟩
  | .and a b, c => ⟨fun e => match e with
    | .BoolOp .And [x, y] _ => (chk2 a c).v x && (chk2 b c).v y
    | .BoolOp .And (x :: y :: z :: r) p => (chk2 a c).v x && (chk2 b c).v (.BoolOp .And (y :: z :: r) p)
    | _ => false, fun e => match e with
    | .BoolOp .And [x, y] _ => (chk2 a c).t x && (chk2 b c).t y
    | .BoolOp .And (x :: y :: z :: r) p => (chk2 a c).t x && (chk2 b c).t (.BoolOp .And (y :: z :: r) p)
    | _ => false⟩
  | .or a b, c => ⟨fun e => match e with
    | .BoolOp .Or [x, y] _ => (chk2 a c).v x && (chk2 b c).v y
    | .BoolOp .Or (x :: y :: z :: r) p => (chk2 a c).v x && (chk2 b c).v (.BoolOp .Or (y :: z :: r) p)
    | _ => false, fun e => match e with
    | .BoolOp .Or [x, y] _ => (chk2 a c).t x && (chk2 b c).t y
    | .BoolOp .Or (x :: y :: z :: r) p => (chk2 a c).t x && (chk2 b c).t (.BoolOp .Or (y :: z :: r) p)
    | _ => false⟩
  | .ife t a b, c => ⟨fun _ => false, fun _ => false⟩
  | .tup es, c => ⟨fun e => match e with | .Tuple l _ _ => chks es c l | _ => false, fun _ => false⟩
  | .lst es, c => ⟨fun e => match e with | .List l _ => chks es c l | _ => false, fun _ => false⟩
  | .sub a b, c => ⟨fun _ => false, fun _ => false⟩
  | .slice a lo hi, c => ⟨fun _ => false, fun _ => false⟩
  | .omit, _ => ⟨fun _ => false, fun _ => false⟩
  | .call f es, c => let g := fun e => match e with | .Call (.Name x _) (y :: ys) [] _ => decide (f = x) && c.fs.contains x && glB c x && arB c f (ys.length + 1) && chks es c (y :: ys) | .Call (.Name x _) [] [] _ => decide (f = x) && c.fs.contains x && glB c x && arB c f 0 && chks es c [] | _ => false; ⟨g, g⟩
  | .blt k es, c => let g := fun e => match e with | .Call (.Name x _) (y :: ys) [] _ => decide (x = k.name) && glB c x && chks es c (y :: ys) | _ => false; ⟨g, g⟩
  | .isi t a, c => ⟨fun _ => false, fun _ => false⟩
  | .bltv k i, c => let g := fun e => match e with | .Call (.Name x _) [.Name y _] [] _ => decide (x = k.name) && glB c x && visB c i y | _ => false; ⟨g, g⟩
  | .subv i b, c => let g := fun e => match e with | .Subscript (.Name x _) y _ => pln y && visB c i x && (chk2 b c).v y | _ => false; ⟨g, g⟩
  | .cmpv k a i, c => let g := fun e => match e with | .Compare l [o] [.Name x _] _ => decide (o = k.op) && visB c i x && (chk2 a c).v l | _ => false; ⟨g, g⟩
  | .popv i b, c => ⟨fun _ => false, fun _ => false⟩
  | .comp elt tg it cs, c => ⟨fun e => match e with
    | .ListComp el [⟨t, i, fs, 0⟩] sc _ => blkC c.N c.sc sc (tg.own c.N) && pln i && chkW it c t i && chkG { c with sc := relS sc c.sc, top := false } tg t && chkC cs { c with sc := relS sc c.sc, top := false } fs &&
        (chk2 elt { c with sc := relS sc c.sc, top := false }).v el
    | _ => false, fun _ => false⟩
  | .comps elt tg it cs, c => ⟨fun _ => false, fun _ => false⟩
  | .share a, c => ⟨(chk2 a c).v, fun _ => false⟩
  | .listrg b, c => ⟨fun _ => false, fun _ => false⟩
  | .lenset a, c => ⟨fun _ => false, fun _ => false⟩
  | .neg a, c => ⟨fun _ => false, fun _ => false⟩
  | .never, _ => ⟨fun _ => true, fun _ => true⟩
  | .rev a, c => ⟨fun _ => false, fun _ => false⟩
  | .dic0 _, _ => ⟨fun _ => false, fun _ => false⟩
  | .sortset a, c => ⟨fun _ => false, fun _ => false⟩
  | .mind a b, c => ⟨fun _ => false, fun _ => false⟩
  | .mth k a es, c => ⟨fun _ => false, fun _ => false⟩
  | .mthv k i es, c => ⟨fun _ => false, fun _ => false⟩
  | .fld cl f a, c => ⟨fun _ => false, fun _ => false⟩
  | .meth cl m f a es, c => ⟨fun _ => false, fun _ => false⟩
  | .make cl f es, c => ⟨fun _ => false, fun _ => false⟩
  | .orv a b, c => ⟨fun _ => false, fun _ => false⟩
  | .isc cl a, c => ⟨fun _ => false, fun _ => false⟩
  | .isr cl t a, c => ⟨fun _ => false, fun _ => false⟩
  | .cmpl k i b, c => let g := fun e => match xCmp e with
    | some (.Name x _, o, r) => decide (o = k.op) && pln r && visB c i x && (chk2 b c).v r
    | _ => false; ⟨g, g⟩
  | .tuprg b, c => ⟨fun _ => false, fun _ => false⟩
  | .mml mx a, c => ⟨fun _ => false, fun _ => false⟩
  | .ask k me f hs df a, c => ⟨fun _ => false, fun _ => false⟩
  | .eqo ne cl f a b, c => ⟨fun _ => false, fun _ => false⟩
  | .neol cl f a b, c => ⟨fun _ => false, fun _ => false⟩
  | .tlen cl f a, c => ⟨fun _ => false, fun _ => false⟩
  | .callk f q es ks, c => ⟨fun _ => false, fun _ => false⟩
  | .methk cl m f q a es ks, c => ⟨fun _ => false, fun _ => false⟩
  | .makek cl f q es ks, c => ⟨fun _ => false, fun _ => false⟩
  | .compi elt tg i cs, c => ⟨fun _ => false, fun _ => false⟩
  | .compw elt tg true i cs, c => ⟨fun _ => false, fun _ => false⟩
  | .compw elt tg false i cs, c => ⟨fun _ => false, fun _ => false⟩
  | .mmlv mx i, c => ⟨fun _ => false, fun _ => false⟩
  | .suml a b, c => ⟨fun _ => false, fun _ => false⟩
  | .sumv i, c => ⟨fun _ => false, fun _ => false⟩
  | .lcnt i b, c => ⟨fun e => match xMeth e with
    | some (.Name y _, m, ap, [z], p) => decide (m = "count") && (ap.endLine == p.line) && visB c i y && pln z && (chk2 b c).v z
    | _ => false, fun _ => false⟩
  | .dprs a, c => ⟨fun _ => false, fun _ => false⟩
  | .fmt a, c => ⟨fun _ => false, fun _ => false⟩
  | .fstr es, c => ⟨fun _ => false, fun _ => false⟩
  | .owc k cl f a, c => ⟨fun _ => false, fun _ => false⟩
  | .isx cl yes no a, c => let g := fun e => match xFn e with
    | some (x, _, [y, .Name z _], _) => decide (x = "isinstance") && decide (z = cl) && glB c x && glB c z && !yes.isEmpty && (yes.all fun k => decide (c.xz.xi k cl = some true)) && (no.all fun k => decide (c.xz.xi k cl = some false)) && pln y && (chk2 a c).v y
    | _ => false; ⟨g, g⟩
  | .mkx cl a, c => ⟨fun e => match xFn e with
    | some (x, _, [y], _) => decide (x = cl) && c.xs.contains x && glB c x && pln y && (chk2 a c).v y
    | _ => false, fun _ => false⟩
  | .mkxf cl f a, c => ⟨fun e => match xFn e with
    | some (x, _, [y], _) => decide (x = cl) && c.top && c.xf.contains (x, f) && glB c x && pln y && (chk2 a c).v y
    | _ => false, fun _ => false⟩
  | .xfld cl f a, c => ⟨fun e => match xAttr e with
    | some (o, f', _) => decide (f = f') && noSup o && c.xz.xg.contains (cl, f) && (chk2 a c).v o
    | none => false, fun _ => false⟩
  | .lidx i b, c => ⟨fun e => match xMeth e with
    | some (.Name y _, m, ap, [z], p) => decide (m = "index") && (ap.endLine == p.line) && visB c i y && pln z && (chk2 b c).v z
    | _ => false, fun _ => false⟩
  | .dcopy a, c => ⟨fun _ => false, fun _ => false⟩
  | .cmpe ne i b, c => ⟨fun _ => false, fun _ => false⟩
  | .disp k v, c => ⟨fun _ => false, fun _ => false⟩
def chks : Xs → SC → List Expr → Bool
  | .nil, _ => fun l => l.isEmpty
  | .cons e es, c => fun l => match l with | x :: xs => pln x && (chk2 e c).v x && chks es c xs | [] => false
def chkC : Xs → SC → List Expr → Bool
  | .nil, _ => fun l => l.isEmpty
  | .cons e es, c => match es with
    | .nil => fun l => match l with | [x] => (chk2 e c).t x | _ => false
    | .cons _ _ => fun _ => false
def chkW : Wk → SC → Expr → Expr → Bool
  | .seq e, c => fun _ x => (chk2 e c).v x
  | .rng1 a, c => fun _ x => match x with | .Call (.Name f _) [y] [] _ => decide (f = "range") && glB c f && pln y && (chk2 a c).v y | _ => false
  | .rng2 a b, c => fun _ x => match x with | .Call (.Name f _) [y, z] [] _ => decide (f = "range") && glB c f && pln y && pln z && (chk2 a c).v y && (chk2 b c).v z | _ => false
  | .enm a, c => fun t x => match t, x with | .Tuple _ _ _, .Call (.Name f _) [y] [] _ => decide (f = "enumerate") && glB c f && pln y && (chk2 a c).v y | _, _ => false
  | .zip a b, c => fun t x => match t, x with | .Tuple _ _ _, .Call (.Name f _) [y, z] [] _ => decide (f = "zip") && glB c f && pln y && pln z && (chk2 a c).v y && (chk2 b c).v z | _, _ => false
  | .rng3 a b d, c => fun _ x => match x with | .Call (.Name f _) [y, z, u] [] _ => decide (f = "range") && glB c f && pln y && pln z && pln u && (chk2 a c).v y && (chk2 b c).v z && (chk2 d c).v u | _ => false
def chkWs : Wk → SC → Expr → Expr → Bool
  | .seq e, c => fun _ x => (chk2 e c).v x
  | .rng1 _, _ => fun _ _ => false
  | .rng2 _ _, _ => fun _ _ => false
  | .enm _, _ => fun _ _ => false
  | .zip a b, c => fun t x => match t, x with | .Tuple _ _ _, .Call (.Name f _) [y, z] [] _ => decide (f = "zip") && glB c f && pln y && pln z && (chk2 a c).v y && (chk2 b c).v z | _, _ => false
  | .rng3 _ _ _, _ => fun _ _ => false
end
def chk (c : SC) (m : Xp) (e : Expr) : Bool := (chk2 m c).v e
def spC (K : PySem.W.Frag) (mg : Str → Option Value) (m : List D → Store → RC) (ar : Nat) : Sp := fun vs H Q E => vs.length = ar ∧ ∃ g S ds, g.own = [] ∧ StR K mg g S H ∧ RDs K g H ds vs ∧ match m ds S with
  | .ok v S' => ∀ g' H' x, Keep g H g' H' → g'.own = [] → StR K mg g' S' H' → rV K mg g.tmp g' H' v x → Q x H'
  | .ex e S' => ∀ g' H' c d, Keep g H g' H' → g'.own = [] → StR K mg g' S' H' → g'.tmp = g.tmp → XR K mg g' H' e c d → E c d H'
  | .no => False
structure FnG (prog : Program) (w : World) (K : PySem.W.Frag) (mg : Str → Option Value) (base : Heap) (n : Nat) (fa : Addr) (fd : FuncData) (qs : List Str) (sp : Sp) : Prop where
  ar : ∀ xs H Q E, sp xs H Q E → xs.length = qs.length
  go : ∀ (A : Around) (out : List Env) (s : Shared) (H : Hp) (ags : Args) (us : List Value) (xs : List V) (Q : VK) (E : XK), A.guards = some [] → Room n A → Env0 prog w K mg base A out s H →
    BindsTo s fd ags (qs.zip us) → Vals xs us → sp xs H Q E → codeAny (model prog w) A (.call (.ref fa) ags) (CR (L2.CX prog w) out prog w H s Q E) s
def KwOk (K : PySem.W.Frag) (fd : FuncData) (ps : List Str) (q : KQ) : Prop := q.pm.length = ps.length ∧ ∃ gg gV, KBn K fd ps q.n q.ks gg gV ∧ ∀ g H xs vs ys zs, RDs K g H xs vs → RDs K g H ys zs → RDs K g H (arrD q.pm xs ys) (gV vs zs)
def Callee0 (X : Cx) (cf : CF) (f : Str) (a : Addr) (k : Nat) (ar : AR) : Prop := ∃ fd ps dD, FnG X.prog X.w X.K X.mg X.base k a fd ps (spC X.K X.mg (cf f) ps.length) ∧ ps.length = ar.2 ∧ (∀ n, ar.1 ≤ n → n ≤ ps.length → ps.length ≤ n + List.length dD ∧ ∃ dvs ds, Vals dvs ds ∧ Binds X.K fd ps ds ∧ (∀ g H, RDs X.K g H (dD.drop (n + dD.length - ps.length)) dvs)) ∧
    (∀ ds S, ds.length ≤ ps.length → ps.length ≤ ds.length + dD.length → cf f ds S = cf f (ds ++ dD.drop (ds.length + dD.length - ps.length)) S) ∧ ∀ q ∈ ar.kw, KwOk X.K fd ps q
def Callee (X : Cx) (cf : CF) (f : Str) (ar : AR) : Prop := ∃ k a, Callee0 X cf f a k ar ∧ Room k X.A ∧ X.mg f = some (.ref a) ∧ PySem.W.keepIn X.K (.ref a) = true
def CalleeM (X : Cx) (cf : CF) (f cl m : Str) (ar : AR) : Prop := ∃ k a C, Callee0 X cf f a k ar ∧ Room (k + 1) X.A ∧ X.mg cl = some (.ref C) ∧ Cls X.K C ∧ Meth X.K C m a ∧ (m = "__init__" → Mk X.K C a)
def IsCls (K : PySem.W.Frag) (C : Addr) : Prop := isClsB K C = true ∧ insClsB K C = true ∧ neClsB K C = true
def ExcOk (X : Cx) (x : Str) : Prop := ∃ C, X.mg x = some (.ref C) ∧ PySem.W.excIn X.K C [.type "ValueError", .type "Exception", .type "BaseException", .type "object"] "ValueError.__new__" = true ∧
  PySem.W.keepIn X.K (.ref C) = true ∧ PySem.W.subIn X.K (.ref C) (.type "BaseException") = some true ∧ PySem.W.typeIn X.K (.ref C) = some (.type "type")
def CatchOk (K : PySem.W.Frag) (mg : Str → Option Value) (f : Str) (hs : List (Str × Hd)) (df : Option Str) : Prop := ∃ (g : Addr) (pg : Arguments) (bg : List Stmt) (sg : Scope) (dV kV doc pm cg ct oc : Value) (an od : Option Addr) (osl : Array (Option Value)) (Ng : List Str) (a : Str),
  mg f = some (.ref g) ∧ PySem.W.keepIn K (.ref g) = true ∧ K.lookup g = some ⟨oc, od, .func (PySem.W.fnOf f f pg bg sg dV kV doc pm an cg ct), osl⟩ ∧ PySem.W.codeIn K cg f = true ∧ Binds K (PySem.W.fnOf f f pg bg sg dV kV doc pm an cg ct) [a] [] ∧
    FnScope Ng [a] sg ∧ Ng[0]? = some a ∧ Vis sg a ∧ (a == ("__debug__" : Str)) = false ∧ (a == ("__classdict__" : Str)) = false ∧ catchB sg Ng a hs df bg = true ∧ HdC K mg hs ∧
    (∀ x z y w, (x, z) ∈ hs → (y, w) ∈ hs → ∀ C D, mg x = some C → mg y = some D → PySem.W.exmOne K C D = some (decide (x = y)))
def LamOk (c : SC) (X : Cx) (cf : CF) : Prop := ∃ co r, X.env.code = .ref co ∧ LamX.TabB X.base X.mg co (He.cT X.K (c.me, none)).2 ∧ X.env.qual ++ "<lambda>" = lamQ c.me ∧ Room (r + 2) X.A ∧
  (∀ f, c.fs.contains f = true → ∃ k a, k ≤ r ∧ Callee0 X cf f a k (c.ar f) ∧ X.mg f = some (.ref a) ∧ PySem.W.keepIn X.K (.ref a) = true) ∧
  (∀ f cl m, c.ms.contains (f, cl, m) = true → ∃ k a C, k + 1 ≤ r ∧ Callee0 X cf f a k (c.ar f) ∧ X.mg cl = some (.ref C) ∧ Cls X.K C ∧ Meth X.K C m a ∧ (m = "__init__" → Mk X.K C a))
def XfOk (X : Cx) (x f : Str) : Prop := ∃ (C fI : Addr) (fd : FuncData) (ps : List Str) (k : Nat), X.mg x = some (.ref C) ∧ OexC X.K C ∧ PySem.W.findIn X.K (.ref C) "__init__" = some (some (.ref fI)) ∧ PySem.W.typeIn X.K (.ref fI) = some (.type "function") ∧
  FnOk X.prog X.w X.K X.mg X.base C8.CX0 k fI fd ps (spXi C f) ∧ Room (k + 1) X.A ∧ Binds X.K fd ps []
def XiOk (K : PySem.W.Frag) (mg : Str → Option Value) (k cl : Str) (b : Bool) : Prop := ∃ (D : Addr) (cv : Value), mg k = some (.ref D) ∧ ((∃ C, mg cl = some (.ref C) ∧ cv = .ref C) ∨ (cl = "ValueError" ∧ cv = .type "ValueError")) ∧ ExcC K D ∧ PySem.W.kitOne K (.ref D) cv = some b
def XgOk (K : PySem.W.Frag) (mg : Str → Option Value) (x f : Str) : Prop := ∃ C, mg x = some (.ref C) ∧ ExFld K C f
theorem excCB_ok {K : PySem.W.Frag} {D : Addr} (h : excCB K D = true) : ExcC K D := by
  unfold excCB at h
  obtain ⟨h1, h⟩ := and2 h
  obtain ⟨h2, h⟩ := and2 h
  obtain ⟨h3, h⟩ := and2 h
  obtain ⟨h4, h⟩ := and2 h
  obtain ⟨h5, h⟩ := and2 h
  obtain ⟨h6, h⟩ := and2 h
  obtain ⟨h7, h8⟩ := and2 h
  exact ⟨of_decide_eq_true h1, of_decide_eq_true h2, of_decide_eq_true h3, h4, of_decide_eq_true h5, of_decide_eq_true h6, of_decide_eq_true h7, of_decide_eq_true h8⟩
structure Good (c : SC) (X : Cx) (W : WX) (cf : CF) : Prop where
  sc : X.env.scope = c.sc
  N : X.N = c.N
  nd : c.N.Nodup
  calm : X.calm = true
  tk : c.top = true → Takes X W
  po : c.top = true → PassesOwn (model X.prog X.w) X.A X.env X.xe
  air : Airs X W
  un : X.A.units + 100 < cLine
  gd : X.A.guards = some []
  fn : ∀ f, c.fs.contains f = true → Callee X cf f (c.ar f)
  blt : ∀ x ∈ bltNames, X.mg x = none
  gl : ∀ x d, c.gl x = some d → ∃ u v, X.mg x = some u ∧ RelV v u ∧ ∀ g H, RD X.K g H d v
  exc : ∀ x, c.xs.contains x = true → ExcOk X x
  ms : ∀ f cl m, c.ms.contains (f, cl, m) = true → CalleeM X cf f cl m (c.ar f)
  cs : ∀ cl, c.cs.contains cl = true → ∃ C, X.mg cl = some (.ref C) ∧ Cls X.K C ∧ IsCls X.K C
  ats : ∀ cl f, c.ats.contains (cl, f) = true → c.cs.contains cl = true → ∃ C, X.mg cl = some (.ref C) ∧ NoAttr X.K C f
  top : c.top = true → ∀ x, X.fn x = true
  hk : ∀ f hs df, c.hk.lookup f = some (hs, df) → CatchOk X.K X.mg f hs df
  lam : c.top = true → c.tbs.contains c.me = true → LamOk c X cf
  xf : c.top = true → ∀ x f, c.xf.contains (x, f) = true → XfOk X x f
  xi : ∀ k cl b, c.xz.xi k cl = some b → XiOk X.K X.mg k cl b
  xg : ∀ x f, c.xz.xg.contains (x, f) = true → XgOk X.K X.mg x f

section
variable {X : Cx} {e : Expr} {es : List Expr}
theorem _root_.L2.PE.weak {t t' : TE} (h : PE X e t) (i : ∀ σ H Q, t' σ H Q → t σ H Q) : PE X e t' := ⟨fun pins s σ H Q I q => h.run pins s σ H Q I (i σ H Q q)⟩
theorem _root_.L2.PT.weak {t t' : TT} (h : PT X e t) (i : ∀ σ H Q, t' σ H Q → t σ H Q) : PT X e t' := ⟨fun pins s σ H Q I q => h.run pins s σ H Q I (i σ H Q q)⟩
theorem _root_.L2.PW.weak {t t' : TT} (h : PW X e t) (i : ∀ σ H Q, t' σ H Q → t σ H Q) : PW X e t' := ⟨fun w pins s σ H Q I q => h.run w pins s σ H Q I (i σ H Q q)⟩
theorem _root_.L2.PA.weak {t t' : TA} (h : PA X es t) (i : ∀ σ H Q, t' σ H Q → t σ H Q) : PA X es t' := ⟨fun pos pins s σ H Q I q => h.run pos pins s σ H Q I (i σ H Q q)⟩
theorem _root_.L2.PO.weak {o : Option Expr} {t t' : TO} (h : PO X o t) (i : ∀ σ H Q, t' σ H Q → t σ H Q) : PO X o t' := ⟨fun pins s σ H Q I q => h.run pins s σ H Q I (i σ H Q q)⟩
theorem _root_.L2.PTs.weak {t t' : TT} (h : PTs X es t) (i : ∀ σ H Q, t' σ H Q → t σ H Q) : PTs X es t' := ⟨fun pins s σ H Q I q => h.run pins s σ H Q I (i σ H Q q)⟩
theorem _root_.L2.PG.weak {t t' : TG} (h : PG X e t) (i : ∀ v σ H Q, t' v σ H Q → t v σ H Q) : PG X e t' := ⟨fun pins s σ H v u Q I r q => h.run pins s σ H v u Q I r (i v σ H Q q)⟩
theorem _root_.L2.PGs.weak {t t' : TGs} (h : PGs X es t) (i : ∀ v σ H Q, t' v σ H Q → t v σ H Q) : PGs X es t' := ⟨fun pins s σ H v u Q I r q => h.run pins s σ H v u Q I r (i v σ H Q q)⟩
theorem _root_.L2.PI.weak {tg : Expr} {t t' : TI} (h : PI X tg e t) (i : ∀ σ H R, t' σ H R → t σ H R) : PI X tg e t' := ⟨fun pins s σ H R I q => h.run pins s σ H R I (i σ H R q)⟩
theorem _root_.L2.PI.or {tg : Expr} {t t' : TI} (h : PI X tg e t) (h' : PI X tg e t') : PI X tg e (fun σ H R => t σ H R ∨ t' σ H R) := ⟨fun pins s σ H R I q => q.elim (h.run pins s σ H R I) (h'.run pins s σ H R I)⟩
theorem _root_.L2.PS.weak {st : Stmt} {t t' : TS} (h : PS X st t) (i : ∀ D σ H, t' D σ H → t D σ H) : PS X st t' := ⟨fun pins s σ H D I q => h.run pins s σ H D I (i D σ H q)⟩
theorem _root_.L2.PSs.weak {st : List Stmt} {t t' : TS} (h : PSs X st t) (i : ∀ D σ H, t' D σ H → t D σ H) : PSs X st t' := ⟨fun pins s σ H D I q => h.run pins s σ H D I (i D σ H q)⟩
theorem pln_star (h : pln e = true) (env : Env) : starEach (e :: es) env = (false, eval e env) :: starEach es env := by
  cases e <;> first | rfl | cases h
theorem pln_sub (h : pln e = true) : PlainIx e := by
  intro o i
  cases e <;> first | rfl | cases h
theorem pln_in (h : pln e = true) (op : CmpOp) : behindInMarks op e = false := by
  cases e <;> first | rfl | cases h
theorem pln_fold (h : pln e = true) (env : Env) (x : Value) : foldedSetIterable e env x = pure x := by
  cases e <;> first | rfl | cases h
theorem chks_plain {c : SC} : ∀ (ms : Xs) (es : List Expr), chks ms c es = true → ∀ (env : Env) (pos : Pos), (backTo pos (starEach es env)).any (·.1) = false
  | .nil, [], _, _, _ => rfl
  | .nil, _ :: _, h, _, _ => nomatch h
  | .cons _ _, [], h, _, _ => nomatch h
  | .cons m ms, x :: xs, h, env, pos => by
    have h' : (pln x && chk c m x && chks ms c xs) = true := h
    rw [Bool.and_eq_true, Bool.and_eq_true] at h'
    rw [pln_star h'.1.1 env]
    have ih := chks_plain ms xs h'.2 env pos
    show (false || _) = false
    exact ih
theorem frzPE {K : PySem.W.Frag} {mg : Str → Option Value} {W : WX} {f : Frame → Store → RX Val} (h : PE X e (tX K mg W (rV K mg) f)) : PE X e (tX K mg W (rD K) fun fr S => frzX (f fr S)) :=
  h.weak fun _ _ _ ⟨g, fr, S, rel, a⟩ => ⟨g, fr, S, rel, a.frz⟩
end
section
variable {c : SC} {X : Cx} {W : WX} {cf : CF}
theorem Good.vis (G : Good c X W cf) {i : Nat} {x : Str} (h : visB c i x = true) : X.N[i]? = some x ∧ Vis X.env.scope x ∧ (x == ("__debug__" : Str)) = false ∧ (x == ("__classdict__" : Str)) = false := by
  unfold visB at h
  rw [Bool.and_eq_true, Bool.and_eq_true, Bool.and_eq_true, decide_eq_true_iff, Bool.not_eq_true', Bool.not_eq_true'] at h
  obtain ⟨⟨⟨h1, h2⟩, h3⟩, h4⟩ := h
  refine ⟨by rw [G.N]; exact h1, ?_, h3, h4⟩
  unfold Vis
  rw [G.sc]
  cases e : c.sc.names.lookup x with
  | none => rw [e] at h2; cases h2
  | some k =>
    rw [e] at h2
    cases k with
    | «local» => exact .inl rfl
    | cell => exact .inr (.inl rfl)
    | free => exact .inr (.inr rfl)
    | globalExplicit => cases h2
    | globalImplicit => cases h2
theorem Good.glob (G : Good c X W cf) {x : Str} (h : glB c x = true) : Gl X x ∧ (x == ("__debug__" : Str)) = false := by
  unfold glB at h
  rw [Bool.and_eq_true, Bool.not_eq_true'] at h
  refine ⟨?_, h.2⟩
  show X.env.scope.names.lookup x = some .globalImplicit
  rw [G.sc]
  have h2 := h.1
  cases e : c.sc.names.lookup x with
  | none => rw [e] at h2; cases h2
  | some k =>
    rw [e] at h2
    cases k <;> first | rfl | cases h2
theorem Good.blk (G : Good c X W cf) (sc : Scope) (s : Shared) (H : Hp) (C : Addr) (cl : List (Str × Addr)) (fp : List Addr) (b : BlkAt X s H (compEnvC sc cl C X.env) fp) :
    Good { c with sc := relS sc c.sc, top := false } (blkE X s H sc (compEnvC sc cl C X.env) fp) W cf where
  sc := by
    show relabel sc X.env = relS sc c.sc
    rw [← G.sc]; rfl
  N := G.N
  nd := G.nd
  calm := G.calm
  tk := fun z => nomatch z
  po := fun z => nomatch z
  air := airs_blk G.air b
  un := G.un
  gd := G.gd
  fn := G.fn
  blt := G.blt
  gl := G.gl
  exc := G.exc
  ms := G.ms
  cs := G.cs
  ats := G.ats
  top := fun z => nomatch z
  hk := G.hk
  lam := fun z => nomatch z
  xf := fun z => nomatch z
  xi := G.xi
  xg := G.xg
end
end Eng
end

section
namespace Eng
open PySem PySem.Spec PyProof.Rows L2

abbrev tV (c : SC) (X : Cx) (W : WX) (cf : CF) (m : Xp) : TE := tX X.K X.mg W (rV X.K X.mg) (ev cf c.gl m)
abbrev tF (c : SC) (X : Cx) (W : WX) (cf : CF) (m : Xp) : TE := tX X.K X.mg W (rD X.K) (fun fr S => frzX (ev cf c.gl m fr S))
abbrev tTs (c : SC) (X : Cx) (W : WX) (cf : CF) (m : Xp) : TT := tX X.K X.mg W rId (evT cf c.gl m)
abbrev tAs (c : SC) (X : Cx) (W : WX) (cf : CF) (m : Xs) : TA := tX X.K X.mg W (rDs X.K) (evs cf c.gl m)

section
variable {c : SC} {X : Cx} {W : WX} {cf : CF} {pos : Pos}
theorem se_con (d : D) {k : Const} {j : Nat} (h : conOk d k = true) : PE X (.Constant k j pos) (tV c X W cf (.con d)) := by
  cases d <;> cases k <;> first | cases h | skip
  · exact pe_non.weak fun σ H Q ⟨g, fr, S, rel, a⟩ => fin_old a rel .non
  · rename_i b k
    have h' : (b == k) = true := h
    obtain rfl : b = k := by simpa using h'
    exact pe_bl.weak fun σ H Q ⟨g, fr, S, rel, a⟩ => fin_old a rel (.bl _)
  · rename_i b k
    obtain rfl : b = k := of_decide_eq_true h
    exact pe_int.weak fun σ H Q ⟨g, fr, S, rel, a⟩ => fin_old a rel (.int _)
  · rename_i b k
    obtain rfl : b = k := of_decide_eq_true h
    exact pe_str.weak fun σ H Q ⟨g, fr, S, rel, a⟩ => fin_old a rel (.str _)

theorem varX_own {i : Nat} {fr : Frame} {S : Store} {cl : Cell} {d : D} (e : fr[i]? = some (some (.own cl))) (h : cl.frz = some d) : varX i fr S = .ok (.fz d) (fr.set i (some (.fz d))) S := by
  unfold varX; rw [e]; dsimp only; rw [h]
theorem se_var (G : Good c X W cf) {i : Nat} {x : Str} (h : visB c i x = true) : PE X (.Name x pos) (tV c X W cf (.var i)) := by
  obtain ⟨h1, h2, h3, h4⟩ := G.vis h
  refine (pe_var h1 h2 h3 h4).weak fun σ H Q ⟨g, fr, S, rel, a⟩ => ?_
  have a' : Aft X.K X.mg W (rV X.K X.mg) g H σ (varX i fr S) Q := a
  cases e : fr[i]? with
  | none => unfold varX at a'; rw [e] at a'; exact a'.elim
  | some o =>
    cases o with
    | none => unfold varX at a'; rw [e] at a'; exact a'.elim
    | some v =>
      obtain ⟨x, e1, s⟩ := rel.slot i v e
      cases v with
      | fz d =>
        unfold varX at a'; rw [e] at a'
        exact ⟨x, e1, fin_old a' rel s⟩
      | own cl =>
        cases q : cl.frz with
        | none => unfold varX at a'; rw [e] at a'; dsimp only at a'; rw [q] at a'; exact a'.elim
        | some d =>
          rw [varX_own e q] at a'
          obtain ⟨g', k', rel', t', r'⟩ := rel.freeze e q e1
          exact ⟨x, e1, a' g' H x k' rel' ⟨t', r'⟩⟩
variable {a b d : Xp} {l r z : Expr}
theorem se_bin (k : BK) (ha : PE X l (tV c X W cf a)) (hb : PE X r (tV c X W cf b)) : PE X (.BinOp l k.op r pos) (tV c X W cf (.bin k a b)) := by
  refine (pe_op (op_bin (W := W) k) (frzPE ha) (frzPE hb)).weak fun σ H Q ⟨g, fr, S, rel, h⟩ => ⟨g, fr, S, rel, ?_⟩
  refine (Aft.bind rD_tmp h).imp fun x H1 ⟨d1, fr1, S1, g1, k1, rel1, r1, t1, h1⟩ => ⟨g1, fr1, S1, rel1, ?_⟩
  refine (Aft.bind rD_tmp h1).imp fun y H2 ⟨d2, fr2, S2, g2, k2, rel2, r2, t2, h2⟩ => ?_
  exact ⟨g2, fr2, S2, σ, _, _, rel2, vw_look rel2.st (r1.2.mono k2.mono), vw_look rel2.st r2.2, h2⟩
theorem wk_cmp (k : CK) : ∀ σ H Q, tV c X W cf (.cmp k a b) σ H Q → tOp (rCmp X W k) (tF c X W cf a) (tF c X W cf b) σ H Q := fun σ H Q ⟨g, fr, S, rel, h⟩ => by
  refine ⟨g, fr, S, rel, ?_⟩
  refine (Aft.bind rD_tmp h).imp fun x H1 ⟨d1, fr1, S1, g1, k1, rel1, r1, t1, h1⟩ => ⟨g1, fr1, S1, rel1, ?_⟩
  refine (Aft.bind rD_tmp h1).imp fun y H2 ⟨d2, fr2, S2, g2, k2, rel2, r2, t2, h2⟩ => ?_
  exact ⟨g2, fr2, S2, σ, _, _, rel2, vw_look rel2.st (r1.2.mono k2.mono), vw_look rel2.st r2.2, h2⟩
theorem hu_of' (G : Good c X W cf) : X.A.units + 66 < cLine := by have := G.un; omega
theorem se_cmp (G : Good c X W cf) (k : CK) (ha : PE X l (tV c X W cf a)) (hb : PE X r (tV c X W cf b)) (hp : pln r = true) : PE X (.Compare l [k.op] [r] pos) (tV c X W cf (.cmp k a b)) :=
  (pe_cmpR (op_cmp (W := W) (hu_of' G) k) (frzPE ha) (frzPE hb) (pln_in hp _)).weak (wk_cmp k)
theorem se_not (ha : PE X l (tV c X W cf a)) : PE X (.UnaryOp .Not l pos) (tV c X W cf (.not a)) := by
  refine (pe_not (frzPE ha)).weak fun σ H Q ⟨g, fr, S, rel, h⟩ => ⟨g, fr, S, rel, ?_⟩
  refine (Aft.bind rD_tmp h).imp fun x H1 ⟨d1, fr1, S1, g1, k1, rel1, r1, t1, h1⟩ => ?_
  cases d1 with
  | bl t =>
    obtain rfl := RD.of_bl r1.2
    exact ⟨t, rfl, fin_old h1 rel1 (.bl _)⟩
  | _ => exact h1.elim
theorem wk_and : ∀ σ H Q, tV c X W cf (.and a b) σ H Q → tAndV (tF c X W cf a) (tV c X W cf b) σ H Q := fun σ H Q ⟨g, fr, S, rel, h⟩ => by
  refine ⟨g, fr, S, rel, ?_⟩
  refine (Aft.bind rD_tmp h).imp fun x H1 ⟨d1, fr1, S1, g1, k1, rel1, r1, t1, h1⟩ => ?_
  cases d1 with
  | bl t =>
    obtain rfl := RD.of_bl r1.2
    refine ⟨t, rfl, ?_⟩
    cases t with
    | true => exact iteT ⟨g1, fr1, S1, rel1, h1⟩
    | false => exact iteF (fin_old h1 rel1 (.bl _))
  | _ => exact h1.elim
theorem wk_or : ∀ σ H Q, tV c X W cf (.or a b) σ H Q → tOrV (tF c X W cf a) (tV c X W cf b) σ H Q := fun σ H Q ⟨g, fr, S, rel, h⟩ => by
  refine ⟨g, fr, S, rel, ?_⟩
  refine (Aft.bind rD_tmp h).imp fun x H1 ⟨d1, fr1, S1, g1, k1, rel1, r1, t1, h1⟩ => ?_
  cases d1 with
  | bl t =>
    obtain rfl := RD.of_bl r1.2
    refine ⟨t, rfl, ?_⟩
    cases t with
    | true => exact iteT (fin_old h1 rel1 (.bl _))
    | false => exact iteF ⟨g1, fr1, S1, rel1, h1⟩
  | _ => exact h1.elim
theorem se_and1 (ha : PE X l (tV c X W cf a)) (hb : PE X r (tV c X W cf b)) : PE X (.BoolOp .And [l, r] pos) (tV c X W cf (.and a b)) := (pe_and (frzPE ha) (pe_one hb)).weak wk_and
theorem se_and {rs : List Expr} (ha : PE X l (tV c X W cf a)) (hb : PE X (.BoolOp .And (r :: z :: rs) pos) (tV c X W cf b)) : PE X (.BoolOp .And (l :: r :: z :: rs) pos) (tV c X W cf (.and a b)) := (pe_and (frzPE ha) hb).weak wk_and
theorem se_or1 (ha : PE X l (tV c X W cf a)) (hb : PE X r (tV c X W cf b)) : PE X (.BoolOp .Or [l, r] pos) (tV c X W cf (.or a b)) := (pe_or (frzPE ha) (pe_one hb)).weak wk_or
theorem se_or {rs : List Expr} (ha : PE X l (tV c X W cf a)) (hb : PE X (.BoolOp .Or (r :: z :: rs) pos) (tV c X W cf b)) : PE X (.BoolOp .Or (l :: r :: z :: rs) pos) (tV c X W cf (.or a b)) := (pe_or (frzPE ha) hb).weak wk_or
theorem sa_nil : PA X [] (tAs c X W cf .nil) := pa_nil.weak fun σ H Q ⟨g, fr, S, rel, h⟩ => h g H [] Keep.refl rel ⟨rfl, .nil⟩
theorem sa_cons {ms : Xs} {es : List Expr} (ha : PE X l (tV c X W cf a)) (hb : PA X es (tAs c X W cf ms)) (hp : pln l = true) : PA X (l :: es) (tAs c X W cf (.cons a ms)) := by
  refine (pa_cons (frzPE ha) hb (pln_star hp _)).weak fun σ H Q ⟨g, fr, S, rel, h⟩ => ⟨g, fr, S, rel, ?_⟩
  refine (Aft.bind rD_tmp h).imp fun x H1 ⟨d1, fr1, S1, g1, k1, rel1, r1, t1, h1⟩ => ⟨g1, fr1, S1, rel1, ?_⟩
  refine (Aft.bind rDs_tmp h1).imp fun y H2 ⟨d2, fr2, S2, g2, k2, rel2, r2, t2, h2⟩ => ?_
  exact h2 g2 H2 _ Keep.refl rel2 ⟨rfl, .cons (r1.2.mono k2.mono) r2.2⟩
theorem se_tup {ms : Xs} {es : List Expr} {k : Nat} (h : PA X es (tAs c X W cf ms)) : PE X (.Tuple es k pos) (tV c X W cf (.tup ms)) := by
  refine (pe_tup h).weak fun σ H Q ⟨g, fr, S, rel, h⟩ => ⟨g, fr, S, rel, ?_⟩
  refine (Aft.bind rDs_tmp h).imp fun x H1 ⟨ds, fr1, S1, g1, k1, rel1, r1, t1, h1⟩ => ?_
  by_cases hz : ds.length ≤ sizeLine
  · rw [if_pos hz] at h1
    exact ⟨by rw [← r1.2.length]; exact hz, fun p hp => fin_tup h1 rel1 r1.2 hp⟩
  · rw [if_neg hz] at h1
    exact h1.elim
theorem se_lst {ms : Xs} {es : List Expr} (h : PA X es (tAs c X W cf ms)) : PE X (.List es pos) (tV c X W cf (.lst ms)) := by
  refine (pe_lst h).weak fun σ H Q ⟨g, fr, S, rel, h⟩ => ⟨g, fr, S, rel, ?_⟩
  refine (Aft.bind rDs_tmp h).imp fun x H1 ⟨ds, fr1, S1, g1, k1, rel1, r1, t1, h1⟩ => ?_
  by_cases hz : ds.length ≤ sizeLine
  · rw [if_pos hz] at h1
    exact ⟨by rw [← r1.2.length]; exact hz, fun p hp => fin_lst h1 rel1 r1.2 hp⟩
  · rw [if_neg hz] at h1
    exact h1.elim
abbrev Gh.down (g : Gh) : Gh := ⟨g.rho, [], g.own ++ g.tmp⟩
theorem down_av {g : Gh} {x : Addr} : g.down.av x ↔ g.av x := by
  constructor
  · intro z
    rcases z with z | z | z
    · exact .inl z
    · exact nomatch z
    · rcases List.mem_append.mp z with z | z
      · exact .inr (.inl z)
      · exact .inr (.inr z)
  · intro z
    rcases z with z | z | z
    · exact .inl z
    · exact .inr (.inr (List.mem_append.mpr (.inl z)))
    · exact .inr (.inr (List.mem_append.mpr (.inr z)))
theorem mono_down {K : PySem.W.Frag} {g : Gh} {H : Hp} : Mono K g H g.down H := Mono.less (fun _ z => down_av.mp z) fun _ _ z => z
theorem Rel.down {K : PySem.W.Frag} {mg : Str → Option Value} {g : Gh} {fr : Frame} {S : Store} {σ : L2.St} {H : Hp} (r : Rel K mg g fr S σ H) : StR K mg g.down S H :=
  ⟨r.st.len, r.st.nd, fun n c a e q => (r.st.cell n c a e q).mono mono_down rfl, fun a z => ⟨fun w => (nomatch w), fun w => (List.mem_append.mp w).elim (r.st.rt a z).1 (r.st.rt a z).2⟩, fun a z => (nomatch z), fun a z => r.st.tr a (down_av.mp z)⟩
theorem Rel.up {K : PySem.W.Frag} {mg : Str → Option Value} {g g' : Gh} {fr : Frame} {S S' : Store} {σ : L2.St} {H H' : Hp} {t : List Addr} (r : Rel K mg g fr S σ H) (k : Keep g.down H g' H') (st : StR K mg g' S' H') (e0 : g'.own = [])
    (et : g'.tmp = t ++ (g.own ++ g.tmp)) (nt : ∀ a ∈ t, a ∉ g.own ∧ a ∉ g.tmp) : Keep g H ⟨g'.rho, g.own, t ++ g.tmp⟩ H' ∧ Rel K mg ⟨g'.rho, g.own, t ++ g.tmp⟩ fr S' σ H' ∧ Mono K g' H' ⟨g'.rho, g.own, t ++ g.tmp⟩ H' := by
  have av1 : ∀ x, Gh.av ⟨g'.rho, g.own, t ++ g.tmp⟩ x → g'.av x := fun x z => by
    rcases z with z | z | z
    · exact .inl z
    · exact .inr (.inr (by rw [et]; exact List.mem_append.mpr (.inr (List.mem_append.mpr (.inl z)))))
    · rcases List.mem_append.mp z with z | z
      · exact .inr (.inr (by rw [et]; exact List.mem_append.mpr (.inl z)))
      · exact .inr (.inr (by rw [et]; exact List.mem_append.mpr (.inr (List.mem_append.mpr (.inr z)))))
  have m : Mono K g' H' ⟨g'.rho, g.own, t ++ g.tmp⟩ H' := Mono.less av1 fun _ _ z => z
  have kp : Keep g H ⟨g'.rho, g.own, t ++ g.tmp⟩ H' := by
    refine ⟨fun a o h h1 h2 => ?_, fun a o h h1 h2 z => ?_, k.tups, k.pre⟩
    · obtain ⟨q1, q2, q3⟩ := k.keep a o h h1 (fun w => nomatch w)
      exact ⟨q1, q2, h2⟩
    · rcases List.mem_append.mp z with w | w
      · have := k.tmp a o h h1 (fun w => nomatch w) (by rw [et]; exact List.mem_append.mpr (.inl w))
        rcases List.mem_append.mp this with y | y
        · exact absurd y (nt a w).1
        · exact y
      · exact w
  refine ⟨kp, ⟨r.len, fun i v e => ?_, r.apart, ⟨st.len, st.nd, fun n c a e q => (st.cell n c a e q).mono m rfl, fun a z => ⟨fun w => ?_, fun w => ?_⟩, fun a z w => ?_, fun a z => st.tr a (av1 a z)⟩⟩, m⟩
  · obtain ⟨x, e1, s⟩ := r.slot i v e
    refine ⟨x, e1, ?_⟩
    cases v with
    | fz d => exact RD.mono kp.mono s
    | own cl =>
      obtain ⟨a, e2, ha, hc⟩ := s
      refine ⟨a, e2, ha, hc.mono kp.mono ?_⟩
      obtain ⟨o, ho, _⟩ := hc.some_of
      rw [(k.keep a o ho (fun w => (r.st.rt a w).1 ha) (fun w => nomatch w)).1, ho]
  · exact (st.rt a z).2 (by rw [et]; exact List.mem_append.mpr (.inr (List.mem_append.mpr (.inl w))))
  · refine (st.rt a z).2 ?_
    rw [et]
    rcases List.mem_append.mp w with w | w
    · exact List.mem_append.mpr (.inl w)
    · exact List.mem_append.mpr (.inr (List.mem_append.mpr (.inr w)))
  · rcases List.mem_append.mp w with w | w
    · exact (nt a w).1 z
    · exact r.st.ot a z w
theorem XR.mono {K : PySem.W.Frag} {mg : Str → Option Value} {g g' : Gh} {H : Hp} {e : Ex} {cl : Value} {d : Option Addr} (m : Mono K g H g' H) (h : XR K mg g H e cl d) : XR K mg g' H e cl d := by
  obtain ⟨h1, vs, h2, h3, h4⟩ := h
  exact ⟨h1, vs, h2.mono m, h3, h4⟩
theorem call_sp {g : Gh} {fr : Frame} {S : Store} {σ : L2.St} {H : Hp} {Q : VK} {m : List D → Store → RC} {ds : List D} {vs : List V} {ar : Nat} (rel : Rel X.K X.mg g fr S σ H) (r : RDs X.K g H ds vs) (hl : ds.length ≠ ar → m ds S = .no)
    (h : Aft X.K X.mg W (rV X.K X.mg) g H σ ((m ds S).back fr) Q) : spC X.K X.mg m ar vs H Q (WE W σ) := by
  have hlen : vs.length = ar := by
    by_cases e : ds.length = ar
    · rw [← r.length]; exact e
    · rw [hl e] at h; exact h.elim
  refine ⟨hlen, g.down, S, ds, rfl, rel.down, r.mono mono_down, ?_⟩
  cases e : m ds S with
  | no => rw [e] at h; exact h
  | ok v S' =>
    rw [e] at h
    intro g' H' x k e0 st rv
    cases v with
    | fz d =>
      obtain ⟨et, rd⟩ := rv
      obtain ⟨k', rel', m'⟩ := rel.up (t := []) k st e0 et (fun _ z => nomatch z)
      exact h _ H' x k' rel' ⟨rfl, rd.mono m'⟩
    | own cl =>
      obtain ⟨a, rfl, et, na, hc⟩ := rv
      obtain ⟨k', rel', m'⟩ := rel.up (t := [a]) k st e0 et (fun b z => by
        obtain rfl : b = a := List.mem_singleton.mp z
        exact ⟨fun w => na (List.mem_append.mpr (.inl w)), fun w => na (List.mem_append.mpr (.inr w))⟩)
      exact h _ H' _ k' rel' ⟨a, rfl, rfl, fun w => na (List.mem_append.mpr (.inr w)), hc.mono m' rfl⟩
  | ex e' S' =>
    rw [e] at h
    intro g' H' cl d k e0 st et xr
    obtain ⟨k', rel', m'⟩ := rel.up (t := []) k st e0 et (fun _ z => nomatch z)
    exact h _ H' cl d k' rel' rfl (xr.mono m')
theorem run_G {n : Nat} {fa : Addr} {fd : FuncData} {qs : List Str} {sp : Sp} {E : XK} {dvs : List V} {ds : List Value} {pn : List (Addr × Obj)} {σ : L2.St} {H : Hp} {s : Shared} {Q : VK} {us : List Value} {xs : List V} (F : FnG X.prog X.w X.K X.mg X.base n fa fd qs sp) (hq : X.A.guards = some []) (hr : Room n X.A)
    (hb : Binds X.K fd qs ds) (hd : Vals dvs ds) (hx : PassesAt (L2.CX X.prog X.w) X σ E) (J : Inv X pn σ H s) (rx : Vals xs us) (hs : sp (xs ++ dvs) H Q E) : wpAny (model X.prog X.w) X.A (call (.ref fa) us) (EP X pn σ Q) X.xe s := by
  have r2 : Vals (xs ++ dvs) (us ++ ds) := rx.append hd
  have hl : (us ++ ds).length = qs.length := by rw [← r2.length]; exact F.ar _ _ _ _ hs
  refine wpAny_call (codeAny_mono (F.go X.A X.stack s H ⟨us, []⟩ (us ++ ds) (xs ++ dvs) Q E hq hr J.env0 (hb s us J.kIn hl) r2 hs) fun r s2 z => ?_)
  match r, z with
  | .error e, z => exact hx pn H s e s2 J z
  | .ok (.ret u), z => exact J.after z
  | .ok .next, z => exact z.elim
  | .ok .brk, z => exact z.elim
  | .ok .cont, z => exact z.elim
theorem pe_callG {n : Nat} {fa : Addr} {fd : FuncData} {qs : List Str} {sp : Sp} {U : L2.St → XK} {dvs : List V} {ds : List Value} {x : Str} {p pos : Pos} {y : Expr} {ys : List Expr} {t : TA} (F : FnG X.prog X.w X.K X.mg X.base n fa fd qs sp) (hq : X.A.guards = some []) (hr : Room n X.A) (g1 : Gl X x)
    (hm : X.mg x = some (.ref fa)) (hk : PySem.W.keepIn X.K (.ref fa) = true) (hb : Binds X.K fd qs ds) (hd : Vals dvs ds) (hx : ∀ σ, PassesAt (L2.CX X.prog X.w) X σ (U σ)) (ha : PA X (y :: ys) t) (g2 : (x == ("__debug__" : Str)) = false)
    (h1 : starEach (y :: ys) X.env = (false, eval y X.env) :: starEach ys X.env) (h2 : (backTo pos (starEach ys X.env)).any (·.1) = false) :
    PE X (.Call (.Name x p) (y :: ys) [] pos) (fun σ H Q => t σ H fun xs H1 => sp (xs ++ dvs) H1 Q (U σ)) := by
  refine ⟨fun pn s σ H Q I h => wpAny_Call_Name_kw (ld_glob I g1 hm (PySem.W.callWith_K (h₀ := X.base) I.ok.mod.kin hk (thn (ha.run pos pn s σ H _ I h) fun us s1 q => ?_) h1 h2) g2)⟩
  obtain ⟨xs, H1, J, rx, hs⟩ := q
  exact ⟨J.kIn, run_G F hq hr hb hd (hx σ) J rx hs⟩
theorem pe_callG0 {n : Nat} {fa : Addr} {fd : FuncData} {qs : List Str} {sp : Sp} {U : L2.St → XK} {dvs : List V} {ds : List Value} {x : Str} {p pos : Pos} (F : FnG X.prog X.w X.K X.mg X.base n fa fd qs sp) (hq : X.A.guards = some []) (hr : Room n X.A) (g1 : Gl X x)
    (hm : X.mg x = some (.ref fa)) (hk : PySem.W.keepIn X.K (.ref fa) = true) (hb : Binds X.K fd qs ds) (hd : Vals dvs ds) (hx : ∀ σ, PassesAt (L2.CX X.prog X.w) X σ (U σ)) (g2 : (x == ("__debug__" : Str)) = false) :
    PE X (.Call (.Name x p) [] [] pos) (fun σ H Q => sp ([] ++ dvs) H Q (U σ)) := by
  refine ⟨fun pn s σ H Q I h => wpAny_Call_Name_kw (ld_glob I g1 hm (PySem.W.callWith_K0 (first := []) I.kIn hk (run_G (us := []) (xs := []) F hq hr hb hd (hx σ) I .nil h)) g2)⟩
def Xs.len : Xs → Nat
  | .nil => 0
  | .cons _ es => es.len + 1
theorem evs_len (cf : CF) (gl : Str → Option D) : ∀ (es : Xs) (fr : Frame) (S : Store) (xs : List D) (fr' : Frame) (S' : Store), evs cf gl es fr S = .ok xs fr' S' → xs.length = es.len
  | .nil, _, _, _, _, _, h => by cases h; rfl
  | .cons e es, fr, S, xs, fr', S', h => by
    have h' : ((frzX (ev cf gl e fr S)).bind fun x fr S => (evs cf gl es fr S).bind fun xs fr S => .ok (x :: xs) fr S) = RX.ok xs fr' S' := h
    cases q : frzX (ev cf gl e fr S) with
    | no => rw [q] at h'; cases h'
    | ex x f s => rw [q] at h'; cases h'
    | ok x f s =>
      rw [q] at h'
      have h2 : ((evs cf gl es f s).bind fun xs fr S => .ok (x :: xs) fr S) = RX.ok xs fr' S' := h'
      cases q2 : evs cf gl es f s with
      | no => rw [q2] at h2; cases h2
      | ex x f s => rw [q2] at h2; cases h2
      | ok ys f2 s2 =>
        rw [q2] at h2
        cases h2
        show ys.length + 1 = es.len + 1
        rw [evs_len cf gl es f s ys _ _ q2]
theorem chks_len {c : SC} : ∀ (es : Xs) (l : List Expr), chks es c l = true → l.length = es.len
  | .nil, [], _ => rfl
  | .nil, _ :: _, h => nomatch h
  | .cons _ _, [], h => nomatch h
  | .cons m ms, x :: xs, h => by
    have h' : (pln x && chk c m x && chks ms c xs) = true := h
    rw [Bool.and_eq_true] at h'
    show xs.length + 1 = ms.len + 1
    rw [chks_len ms xs h'.2]
theorem chks_head {c : SC} {ms : Xs} {y : Expr} {ys : List Expr} (h : chks ms c (y :: ys) = true) (env : Env) (pos : Pos) : pln y = true ∧ (backTo pos (starEach ys env)).any (·.1) = false := by
  cases ms with
  | nil => exact nomatch h
  | cons m ms =>
    have h' : (pln y && chk c m y && chks ms c ys) = true := h
    rw [Bool.and_eq_true, Bool.and_eq_true] at h'
    exact ⟨h'.1.1, chks_plain ms ys h'.2 _ _⟩
theorem Aft.args {es : Xs} {fr : Frame} {S : Store} {g : Gh} {H : Hp} {σ : L2.St} {Q : List V → Hp → Prop} (h : Aft X.K X.mg W (rDs X.K) g H σ (evs cf c.gl es fr S) Q) :
    Aft X.K X.mg W (rDs X.K) g H σ (evs cf c.gl es fr S) (fun vs H' => vs.length = es.len ∧ Q vs H') := by
  cases e : evs cf c.gl es fr S with
  | no => rw [e] at h; exact h
  | ex x f s => rw [e] at h; exact h
  | ok xs f s =>
    rw [e] at h
    exact fun g' H' vs k r q => ⟨by rw [← q.2.length, evs_len _ _ _ _ _ _ _ _ e], h g' H' vs k r q⟩
theorem callee_sp {f : Str} {k : Nat} {ps : List Str} {dD : List D} {dvs : List V} {g : Gh} {fr : Frame} {S : Store} {σ : L2.St} {H : Hp} {Q : VK} {ds : List D} {vs : List V}
    (hpad : ∀ ds S, ds.length ≤ ps.length → ps.length ≤ ds.length + dD.length → cf f ds S = cf f (ds ++ dD.drop (ds.length + dD.length - ps.length)) S) (hn : ds.length = k) (h1 : k ≤ ps.length) (h2 : ps.length ≤ k + dD.length)
    (rel : Rel X.K X.mg g fr S σ H) (r : RDs X.K g H ds vs) (rd : RDs X.K g H (dD.drop (k + dD.length - ps.length)) dvs) (h : Aft X.K X.mg W (rV X.K X.mg) g H σ ((cf f ds S).back fr) Q) : spC X.K X.mg (cf f) ps.length (vs ++ dvs) H Q (WE W σ) := by
  subst hn
  rw [hpad ds S h1 h2] at h
  refine call_sp rel (r.append rd) (fun hne => absurd ?_ hne) h
  rw [List.length_append, List.length_drop]
  omega
theorem arB_of {c : SC} {f : Str} {n : Nat} (h : arB c f n = true) : (c.ar f).1 ≤ n ∧ n ≤ (c.ar f).2 := by
  unfold arB at h
  rw [Bool.and_eq_true] at h
  exact ⟨of_decide_eq_true h.1, of_decide_eq_true h.2⟩
theorem se_call (G : Good c X W cf) {f : Str} {ms : Xs} {y : Expr} {ys : List Expr} {p : Pos} (hf : c.fs.contains f = true) (hg : glB c f = true) (har : arB c f (ys.length + 1) = true) (ha : PA X (y :: ys) (tAs c X W cf ms)) (hc : chks ms c (y :: ys) = true) :
    PE X (.Call (.Name f p) (y :: ys) [] pos) (tV c X W cf (.call f ms)) := by
  obtain ⟨k, a, ⟨fd, ps, dD, F, hps, hb, hpad, _⟩, hr, hm, hk⟩ := G.fn f hf
  obtain ⟨g1, g2⟩ := G.glob hg
  obtain ⟨hy, hys⟩ := chks_head hc X.env pos
  have hl : ys.length + 1 = ms.len := chks_len ms (y :: ys) hc
  obtain ⟨a1, a2⟩ := arB_of har
  rw [hl] at a1 a2
  rw [← hps] at a2
  obtain ⟨a3, dvs, ds, hv, hbn, hrd⟩ := hb ms.len a1 a2
  refine (pe_callG F G.gd hr g1 hm hk hbn hv (fun σ => G.air.call σ) ha g2 (pln_star hy _) hys).weak fun σ H Q ⟨g, fr, S, rel, h⟩ => ⟨g, fr, S, rel, ?_⟩
  refine (Aft.args (Aft.bind rDs_tmp h)).imp fun x H1 ⟨hlen, ds, fr1, S1, g1, k1, rel1, r1, t1, h1⟩ => ?_
  exact callee_sp hpad (by rw [r1.2.length]; exact hlen) a2 a3 rel1 r1.2 (hrd g1 H1) h1
theorem se_call0 (G : Good c X W cf) {f : Str} {p : Pos} (hf : c.fs.contains f = true) (hg : glB c f = true) (har : arB c f 0 = true) :
    PE X (.Call (.Name f p) [] [] pos) (tV c X W cf (.call f .nil)) := by
  obtain ⟨k, a, ⟨fd, ps, dD, F, hps, hb, hpad, _⟩, hr, hm, hk⟩ := G.fn f hf
  obtain ⟨g1, g2⟩ := G.glob hg
  obtain ⟨a1, a2⟩ := arB_of har
  rw [← hps] at a2
  obtain ⟨a3, dvs, ds, hv, hbn, hrd⟩ := hb 0 a1 a2
  refine (pe_callG0 F G.gd hr g1 hm hk hbn hv (fun σ => G.air.call σ) g2).weak fun σ H Q ⟨g, fr, S, rel, h⟩ => ?_
  exact callee_sp (ds := []) (vs := []) hpad rfl a2 a3 rel .nil (hrd g H) h
end
end Eng
end

section
namespace Eng
open PySem PySem.Spec PyProof.Rows L2
section
variable {c : SC} {X : Cx} {W : WX} {cf : CF} {pos : Pos} {a : Xp} {l : Expr}
def tFs (c : SC) (X : Cx) (W : WX) (cf : CF) : Xs → List TE
  | .nil => []
  | .cons e es => tF c X W cf e :: tFs c X W cf es
theorem pj_nil : PJ X [] (tFs c X W cf .nil) := .nil
theorem pj_cons {e : Xp} {es : Xs} {x : Expr} {xs : List Expr} (h : PE X x (tV c X W cf e)) (r : PJ X xs (tFs c X W cf es)) : PJ X (x :: xs) (tFs c X W cf (.cons e es)) := .cons (frzPE h) r
end
end Eng
end

section
namespace Eng
open PySem PySem.Spec PyProof.Rows L2
section
variable {c : SC} {X : Cx} {W : WX} {cf : CF} {pos : Pos} {a b d : Xp} {l r z : Expr}

theorem FK.mem (k : FK) : k.name ∈ bltNames := by cases k <;> decide +kernel
theorem FK.ne (k : FK) : k.name ≠ "__name__" := by cases k <;> decide +kernel
theorem FK.boot (k : FK) : bootBuiltins k.name = some k.val := by cases k <;> decide +kernel
theorem chks_cons {ms : Xs} {y : Expr} {ys : List Expr} (hc : chks ms c (y :: ys) = true) (env : Env) (pos : Pos) : pln y = true ∧ (backTo pos (starEach ys env)).any (·.1) = false := by
  cases ms with
  | nil => exact nomatch hc
  | cons m ms =>
    have h' : (pln y && chk c m y && chks ms c ys) = true := hc
    rw [Bool.and_eq_true, Bool.and_eq_true] at h'
    exact ⟨h'.1.1, chks_plain ms ys h'.2 _ _⟩
theorem pe_fk (G : Good c X W cf) (k : FK) {y : Expr} {ys : List Expr} {p : Pos} {t : TA} (hg : glB c k.name = true) (ha : PA X (y :: ys) t) (hy : pln y = true) (hys : (backTo pos (starEach ys X.env)).any (·.1) = false) :
    PE X (.Call (.Name k.name p) (y :: ys) [] pos) (tCB (rBlt X W k) t) := by
  obtain ⟨g1, g2⟩ := G.glob hg
  have hm := G.blt _ k.mem
  have hb := k.boot
  have hc := call_blt (W := W) G.calm G.gd G.un k
  have hn := k.ne
  cases k with
  | len => exact pe_callB hc g1 hm hb ha hn g2 (pln_star hy _) hys
  | all => exact pe_callB hc g1 hm hb ha hn g2 (pln_star hy _) hys
  | any => exact pe_callB hc g1 hm hb ha hn g2 (pln_star hy _) hys
  | sum => exact pe_callB hc g1 hm hb ha hn g2 (pln_star hy _) hys
  | tuple => exact pe_callTy hc g1 hm hb ha hn g2 (pln_star hy _) hys
  | list => exact pe_callTy hc g1 hm hb ha hn g2 (pln_star hy _) hys
  | int => exact pe_callTy hc g1 hm hb ha hn g2 (pln_star hy _) hys
  | max2 => exact pe_callB hc g1 hm hb ha hn g2 (pln_star hy _) hys
  | min2 => exact pe_callB hc g1 hm hb ha hn g2 (pln_star hy _) hys
  | repr => exact pe_callB hc g1 hm hb ha hn g2 (pln_star hy _) hys
  | sorted => exact pe_callB hc g1 hm hb ha hn g2 (pln_star hy _) hys
  | str => exact pe_callTy hc g1 hm hb ha hn g2 (pln_star hy _) hys
theorem se_blt (G : Good c X W cf) (k : FK) {ms : Xs} {y : Expr} {ys : List Expr} {p : Pos} (hg : glB c k.name = true) (ha : PA X (y :: ys) (tAs c X W cf ms)) (hc : chks ms c (y :: ys) = true) :
    PE X (.Call (.Name k.name p) (y :: ys) [] pos) (tV c X W cf (.blt k ms)) := by
  obtain ⟨h1, h2⟩ := chks_cons hc X.env pos
  refine (pe_fk G k hg ha h1 h2).weak fun σ H Q ⟨g, fr, S, rel, h⟩ => ⟨g, fr, S, rel, ?_⟩
  refine (Aft.bind rDs_tmp h).imp fun x H1 ⟨ds, fr1, S1, g1, k1, rel1, r1, t1, h1⟩ => ?_
  exact ⟨g1, fr1, S1, σ, _, rel1, vws_look rel1.st r1.2, h1⟩
theorem TK.ne (k : TK) : k.name ≠ "__name__" := by cases k <;> decide +kernel
theorem peek_rel {K : PySem.W.Frag} {mg : Str → Option Value} {g : Gh} {fr : Frame} {S : Store} {σ : L2.St} {H : Hp} {i : Nat} {d : D} (rel : Rel K mg g fr S σ H) (e : peek i fr S = some d) : ∃ x, σ[i]? = some (some x) ∧ Vw K g H x d := by
  unfold peek at e
  cases q : fr[i]? with
  | none => rw [q] at e; cases e
  | some o =>
    rw [q] at e
    cases o with
    | none => cases e
    | some v =>
      cases v with
      | fz d' =>
        obtain ⟨x, h1, h2⟩ := rel.slot i _ q
        cases e
        exact ⟨x, h1, vw_look rel.st h2⟩
      | own cl =>
        obtain ⟨x, h1, p, rfl, h2, h3⟩ := rel.slot i _ q
        exact ⟨_, h1, vw_cell h3 e⟩
theorem se_bltv (G : Good c X W cf) (k : FK) {i : Nat} {y : Str} {p p2 : Pos} (hg : glB c k.name = true) (hv : visB c i y = true) : PE X (.Call (.Name k.name p) [.Name y p2] [] pos) (tV c X W cf (.bltv k i)) := by
  obtain ⟨h1, h2, h3, h4⟩ := G.vis hv
  refine (pe_fk G k hg (pa_cons (pe_var h1 h2 h3 h4) pa_nil rfl) rfl rfl).weak fun σ H Q ⟨g, fr, S, rel, h⟩ => ?_
  have h' : Aft X.K X.mg W (rV X.K X.mg) g H σ (RX.lift ((peek i fr S).bind fun d => bltD k [d]) fr S) Q := h
  cases e : peek i fr S with
  | none => rw [e] at h'; exact h'.elim
  | some d =>
    rw [e] at h'
    obtain ⟨p, e1, v⟩ := peek_rel rel e
    exact ⟨_, e1, g, fr, S, σ, [d], rel, .cons v .nil, h'⟩
theorem se_subv (G : Good c X W cf) {i : Nat} {y : Str} {p : Pos} (hv : visB c i y = true) (hb : PE X r (tV c X W cf b)) (hp : pln r = true) : PE X (.Subscript (.Name y p) r pos) (tV c X W cf (.subv i b)) := by
  obtain ⟨h1, h2, h3, h4⟩ := G.vis hv
  refine (pe_ix (ix_sub (W := W) (hu_of' G)) (pe_var h1 h2 h3 h4) (frzPE hb) (pln_sub hp)).weak fun σ H Q ⟨g, fr, S, rel, h⟩ => ?_
  have h' : Aft X.K X.mg W (rV X.K X.mg) g H σ (if (peek i fr S).isSome then (frzX (ev cf c.gl b fr S)).bind fun y fr S => RX.lift ((peek i fr S).bind fun d => (subD d y).map Val.fz) fr S else .no) Q := h
  cases e : peek i fr S with
  | none => rw [e] at h'; exact h'.elim
  | some d0 =>
    rw [e] at h'
    obtain ⟨q, e1, _⟩ := peek_rel rel e
    refine ⟨_, e1, g, fr, S, rel, ?_⟩
    refine (Aft.bind rD_tmp h').imp fun x H1 ⟨d1, fr1, S1, g1, k1, rel1, r1, t1, h1⟩ => ?_
    cases e' : peek i fr1 S1 with
    | none => rw [e'] at h1; exact h1.elim
    | some d2 =>
      rw [e'] at h1
      obtain ⟨q', e2, v⟩ := peek_rel rel1 e'
      rw [e1] at e2; cases e2
      exact ⟨g1, fr1, S1, σ, d2, d1, rel1, v, r1.2, h1⟩
theorem wk_cmpv (k : CK) {i : Nat} : ∀ σ H Q, tV c X W cf (.cmpv k a i) σ H Q → tOp (rCmp X W k) (tF c X W cf a) (tVar i) σ H Q := fun σ H Q ⟨g, fr, S, rel, h⟩ => by
  refine ⟨g, fr, S, rel, ?_⟩
  refine (Aft.bind rD_tmp h).imp fun x H1 ⟨d1, fr1, S1, g1, k1, rel1, r1, t1, h1⟩ => ?_
  cases e' : peek i fr1 S1 with
  | none => rw [e'] at h1; exact h1.elim
  | some d2 =>
    rw [e'] at h1
    obtain ⟨q', e2, v⟩ := peek_rel rel1 e'
    exact ⟨_, e2, g1, fr1, S1, σ, look S1 d1, d2, rel1, vw_look rel1.st r1.2, v, h1⟩
theorem se_cmpv (G : Good c X W cf) (k : CK) {i : Nat} {y : Str} {p : Pos} (hv : visB c i y = true) (ha : PE X l (tV c X W cf a)) : PE X (.Compare l [k.op] [.Name y p] pos) (tV c X W cf (.cmpv k a i)) := by
  obtain ⟨h1, h2, h3, h4⟩ := G.vis hv
  exact (pe_cmpR (op_cmp (W := W) (hu_of' G) k) (frzPE ha) (pe_var h1 h2 h3 h4) rfl).weak (wk_cmpv k)
theorem se_share (ha : PE X l (tV c X W cf a)) : PE X l (tV c X W cf (.share a)) := by
  refine ha.weak fun σ H Q ⟨g, fr, S, rel, h⟩ => ⟨g, fr, S, rel, ?_⟩
  have h' : Aft X.K X.mg W (rV X.K X.mg) g H σ ((ev cf c.gl a fr S).bind fun v fr S => match v with | .own c => .ok (.fz (.ref S.length)) fr (S ++ [c]) | _ => .no) Q := h
  cases e : ev cf c.gl a fr S with
  | no => rw [e] at h'; exact h'
  | ex x fr1 S1 => rw [e] at h'; exact h'
  | ok v fr1 S1 =>
    rw [e] at h'
    cases v with
    | fz d => exact h'.elim
    | own cl =>
      intro g' H' x k rel' rv
      obtain ⟨p, rfl, ht, na, hc⟩ := rv
      refine h' ⟨g'.rho ++ [p], g'.own, g.tmp⟩ H' (.ref p) (keep_share ht na rfl k) (rel'.share ht na hc) ⟨rfl, .ref ?_⟩
      show (g'.rho ++ [p])[S1.length]? = some p
      rw [List.getElem?_append_right (by rw [rel'.st.len]; exact Nat.le_refl _), rel'.st.len]
      simp
theorem rgOk_of {i j : Int} (h : rgOk i j = true) : -(2 ^ 62) ≤ i ∧ i < 2 ^ 62 ∧ -(2 ^ 62) ≤ j ∧ j < 2 ^ 62 := of_decide_eq_true h
theorem st_truth (he : ∀ whole, isTrue l X.env whole = (do let v ← whole; standAt l.pos; holding [v] (truthy v))) (ha : PE X l (tV c X W cf a)) : PT X l (tX X.K X.mg W rId (tru (ev cf c.gl a))) := by
  refine (pt_truth (frzPE ha) he).weak fun σ H Q ⟨g, fr, S, rel, h⟩ => ⟨g, fr, S, rel, ?_⟩
  refine (Aft.bind rD_tmp h).imp fun x H1 ⟨d1, fr1, S1, g1, k1, rel1, r1, t1, h1⟩ => ?_
  cases e : truD (look S1 d1) with
  | none => rw [e] at h1; exact h1.elim
  | some k =>
    rw [e] at h1
    exact ⟨k, truV_of (vw_look rel1.st r1.2) e, h1 g1 H1 k Keep.refl rel1 ⟨rfl, rfl⟩⟩
theorem bool_res {f : Frame → Store → RX Val} (hf : ∀ fr S v fr' S', f fr S = .ok v fr' S' → ∃ k, v = .fz (.bl k)) {g : Gh} {fr : Frame} {S : Store} {σ : L2.St} {H : Hp} {Q : Bool → Hp → Prop} (h : Aft X.K X.mg W rId g H σ (tru f fr S) Q) :
    Aft X.K X.mg W (rV X.K X.mg) g H σ (f fr S) (fun x H' => ∃ k, x = .bl k ∧ Q k H') := by
  unfold tru at h
  cases e : f fr S with
  | no => rw [e] at h; exact h
  | ex x fr1 S1 => rw [e] at h; exact h
  | ok v fr1 S1 =>
    rw [e] at h
    obtain ⟨k, rfl⟩ := hf _ _ _ _ _ e
    intro g' H' x kp rel' rv
    obtain rfl := RD.of_bl rv.2
    exact ⟨k, rfl, h g' H' k kp rel' ⟨rv.1, rfl⟩⟩
theorem bind_ok {α β : Type} {r : RX α} {k : α → Frame → Store → RX β} {v : β} {fr : Frame} {S : Store} (h : r.bind k = .ok v fr S) : ∃ a fr1 S1, r = .ok a fr1 S1 ∧ k a fr1 S1 = .ok v fr S := by
  cases r with
  | ok a fr1 S1 => exact ⟨a, fr1, S1, rfl, h⟩
  | ex e f s => cases h
  | no => cases h
theorem lift_ok {α : Type} {o : Option α} {fr fr' : Frame} {S S' : Store} {v : α} (h : RX.lift o fr S = .ok v fr' S') : o = some v := by
  cases o with
  | none => cases h
  | some a => cases h; rfl
theorem map_bl {o : Option Bool} {v : Val} (h : (o.map fun r => Val.fz (.bl r)) = some v) : ∃ k, v = .fz (.bl k) := by
  cases o with
  | none => cases h
  | some k => exact ⟨k, (Option.some.inj h).symm⟩
theorem st_cmp (G : Good c X W cf) (k : CK) (ha : PE X l (tV c X W cf a)) (hb : PE X r (tV c X W cf b)) (hp : pln r = true) : PT X (.Compare l [k.op] [r] pos) (tTs c X W cf (.cmp k a b)) := by
  refine (pt_cmpR (op_cmp (W := W) (hu_of' G) k) (frzPE ha) (frzPE hb) (pln_in hp _)).weak fun σ H Q ⟨g, fr, S, rel, h⟩ => ?_
  refine wk_cmp k σ H _ ⟨g, fr, S, rel, bool_res (fun fr S v fr' S' e => ?_) h⟩
  obtain ⟨x, f1, s1, _, e⟩ := bind_ok e
  obtain ⟨y, f2, s2, _, e⟩ := bind_ok e
  exact map_bl (lift_ok e)
theorem st_cmpv (G : Good c X W cf) (k : CK) {i : Nat} {y : Str} {p : Pos} (hv : visB c i y = true) (ha : PE X l (tV c X W cf a)) : PT X (.Compare l [k.op] [.Name y p] pos) (tTs c X W cf (.cmpv k a i)) := by
  obtain ⟨h1, h2, h3, h4⟩ := G.vis hv
  refine (pt_cmpR (op_cmp (W := W) (hu_of' G) k) (frzPE ha) (pe_var h1 h2 h3 h4) rfl).weak fun σ H Q ⟨g, fr, S, rel, h⟩ => ?_
  refine wk_cmpv k σ H _ ⟨g, fr, S, rel, bool_res (fun fr S v fr' S' e => ?_) h⟩
  obtain ⟨x, f1, s1, _, e⟩ := bind_ok e
  have e' := lift_ok e
  cases q : peek i f1 s1 with
  | none => rw [q] at e'; cases e'
  | some d => rw [q] at e'; exact map_bl e'
theorem st_not (ha : PT X l (tTs c X W cf a)) : PT X (.UnaryOp .Not l pos) (tTs c X W cf (.not a)) := by
  refine (pt_not ha).weak fun σ H Q ⟨g, fr, S, rel, h⟩ => ⟨g, fr, S, rel, ?_⟩
  refine (Aft.bind rId_tmp h).imp fun x H1 ⟨t, fr1, S1, g1, k1, rel1, r1, t1, h1⟩ => ?_
  obtain ⟨_, rfl⟩ := r1
  exact h1 g1 H1 _ Keep.refl rel1 ⟨rfl, rfl⟩
theorem wkt_and : ∀ σ H Q, tTs c X W cf (.and a b) σ H Q → tAnd (tTs c X W cf a) (tTs c X W cf b) σ H Q := fun σ H Q ⟨g, fr, S, rel, h⟩ => by
  refine ⟨g, fr, S, rel, ?_⟩
  refine (Aft.bind rId_tmp h).imp fun x H1 ⟨t, fr1, S1, g1, k1, rel1, r1, t1, h1⟩ => ?_
  obtain ⟨_, rfl⟩ := r1
  cases t with
  | true => exact iteT ⟨g1, fr1, S1, rel1, h1⟩
  | false => exact iteF (h1 g1 H1 _ Keep.refl rel1 ⟨rfl, rfl⟩)
theorem wkt_or : ∀ σ H Q, tTs c X W cf (.or a b) σ H Q → tOr (tTs c X W cf a) (tTs c X W cf b) σ H Q := fun σ H Q ⟨g, fr, S, rel, h⟩ => by
  refine ⟨g, fr, S, rel, ?_⟩
  refine (Aft.bind rId_tmp h).imp fun x H1 ⟨t, fr1, S1, g1, k1, rel1, r1, t1, h1⟩ => ?_
  obtain ⟨_, rfl⟩ := r1
  cases t with
  | true => exact iteT (h1 g1 H1 _ Keep.refl rel1 ⟨rfl, rfl⟩)
  | false => exact iteF ⟨g1, fr1, S1, rel1, h1⟩
theorem pw_of {op : BoolOp} {vs : List Expr} {t : TT} (h : PT X (.BoolOp op vs pos) t) : PW X (.BoolOp op vs pos) t := ⟨fun w pins s σ H Q I q => h.run pins s σ H Q I q⟩
theorem st_and1 (ha : PT X l (tTs c X W cf a)) (hb : PT X r (tTs c X W cf b)) : PT X (.BoolOp .And [l, r] pos) (tTs c X W cf (.and a b)) := (PW.pt (pw_and ha (pw_and1 hb))).weak wkt_and
theorem st_and {rs : List Expr} (ha : PT X l (tTs c X W cf a)) (hb : PT X (.BoolOp .And (r :: z :: rs) pos) (tTs c X W cf b)) : PT X (.BoolOp .And (l :: r :: z :: rs) pos) (tTs c X W cf (.and a b)) := (PW.pt (pw_and ha (pw_of hb))).weak wkt_and
theorem st_or1 (ha : PT X l (tTs c X W cf a)) (hb : PT X r (tTs c X W cf b)) : PT X (.BoolOp .Or [l, r] pos) (tTs c X W cf (.or a b)) := (PW.pt (pw_or ha (pw_or1 hb))).weak wkt_or
theorem st_or {rs : List Expr} (ha : PT X l (tTs c X W cf a)) (hb : PT X (.BoolOp .Or (r :: z :: rs) pos) (tTs c X W cf b)) : PT X (.BoolOp .Or (l :: r :: z :: rs) pos) (tTs c X W cf (.or a b)) := (PW.pt (pw_or ha (pw_of hb))).weak wkt_or

def gT (X : Cx) (tg : Tg) : TG := fun v σ H Q => ∃ g fr S d fr', Rel X.K X.mg g fr S σ H ∧ RD X.K g H d v ∧ asg tg d fr = some fr' ∧ ∀ σ', Rel X.K X.mg g fr' S σ' H → σ'.length = σ.length → (∀ i, i ∉ tg.slots → σ'[i]? = σ[i]?) → Q σ' H
def gTs (X : Cx) (tg : Tgs) : TGs := fun vs σ H Q => ∃ g fr S ds fr', Rel X.K X.mg g fr S σ H ∧ RDs X.K g H ds vs ∧ asgs tg ds fr = some fr' ∧ ∀ σ', Rel X.K X.mg g fr' S σ' H → σ'.length = σ.length → (∀ i, i ∉ tg.slots → σ'[i]? = σ[i]?) → Q σ' H
theorem assignEach_len (env : Env) : ∀ {ts : Tgs} {es : List Expr}, chkGs c ts es = true → (assignEach es env).findIdx? (·.1) = none
  | .nil, [], _ => rfl
  | .nil, _ :: _, h => nomatch h
  | .cons _ _, [], h => nomatch h
  | .cons t ts, e :: es, h => by
    have h' : (chkG c t e && chkGs c ts es) = true := h
    rw [Bool.and_eq_true] at h'
    have ih := assignEach_len env h'.2
    cases t with
    | nm i =>
      cases e with
      | Name x p =>
        show List.findIdx? _ ((false, _) :: assignEach es env) = none
        rw [List.findIdx?_cons]
        simp [ih]
      | _ => exact nomatch h'.1
    | tp ts' =>
      cases e with
      | Tuple l k p =>
        show List.findIdx? _ ((false, _) :: assignEach es env) = none
        rw [List.findIdx?_cons]
        simp [ih]
      | _ => exact nomatch h'.1
end
end Eng
end

section
namespace Eng
open PySem PySem.Spec PyProof.Rows L2
theorem meets_enum1 {v : Value} {o : Obj} {Hh : Heap → Prop} (B : Begins v o Hh) :
    Meets (Builtin.«enumerate.__new__» ⟨[.type "enumerate", v], []⟩) (fun _ R s => Hh s.heap ∧ R (.ok (.ret (.ref (s.heap.push o).objs.size)))
      { s with heap := (s.heap.push o).push { cls := .type "enumerate", data := .fields #[.none, .bool false, .ref s.heap.objs.size, rawInt 0, .none, .none] } }) :=
  .of_wp fun prog w A R s h => by
    obtain ⟨hp, g, d, tk, os⟩ := s
    obtain ⟨h1, h⟩ := h
    have hsub := sub_enumerate
    have go : ∀ {A' : Around} {E : Value → Shared → Prop} {Q : Value → Shared → Prop}, Q (.ref hp.objs.size) ⟨hp.push o, g, d, tk, os⟩ → wpAny (model prog w) A' (pyIter v) Q E ⟨hp, g, d, tk, os⟩ :=
      fun q => B.iter prog w _ _ ⟨hp, g, d, tk, os⟩ _ h1 q
    wp_walk
    refine wpAny_stack_any fun st => wpAny_pure ?_
    split
    · rename_i c _ _ _ _ _
      cases (c == Value.type "enumerate")
      · wp_walk using go
        exact ⟨_, rfl, h⟩
      · wp_walk using go
        exact ⟨_, rfl, h⟩
    · wp_walk using go
      exact ⟨_, rfl, h⟩
theorem enum1_begins {prog : Program} {w : World} {A : Around} {E : Value → Shared → Prop} {s : Shared} {v : Value} {o : Obj} {Hh : Heap → Prop} {Q : Value → Shared → Prop} (B : Begins v o Hh) (h1 : Hh s.heap)
    (h : ∀ h', IsEnum h' (s.heap.objs.size + 1) s.heap.objs.size 0 .none → h'.get? s.heap.objs.size = some o → (∀ b u, s.heap.get? b = some u → h'.get? b = some u) → Q (.ref (s.heap.objs.size + 1)) { s with heap := h' }) :
    wpAny (model prog w) A (call (.type "enumerate") [v]) Q E s := by
  refine callType_new F.called_enumerate (by decide) (F.typeCall_enumerate_1 _) (F.newCall_enumerate_1 _) (fun obj => F.args_object_init_2 obj _) F.entry_enumerate_new (meets_enum1 B) ⟨h1, ?_⟩
  have z1 : (s.heap.push o).objs.size = s.heap.objs.size + 1 := Heap.size_push ..
  have en : IsEnum ((s.heap.push o).push { cls := .type "enumerate", data := .fields #[.none, .bool false, .ref s.heap.objs.size, rawInt 0, .none, .none] }) (s.heap.objs.size + 1) s.heap.objs.size 0 .none := by
    have y := Heap.get?_push_size (s.heap.push o) (o := { cls := .type "enumerate", data := .fields #[.none, .bool false, .ref s.heap.objs.size, rawInt 0, .none, .none] }) rfl
    rw [z1] at y; exact y
  show _ ∧ _
  rw [z1]
  exact ⟨⟨_, en, rfl⟩, h _ en (Heap.get?_push_of_some _ (Heap.get?_push_size _ B.free)) fun b u z => Heap.get?_push_of_some _ (Heap.get?_push_of_some _ z)⟩
def IteT (K : PySem.W.Frag) (a : Addr) : It :=
  ⟨fun i H => ∃ (xs : List V) (x : V), SqT K H a xs ∧ xs[i]? = some x, fun i H v H' => ∃ T x, v = .ref T ∧ H T = none ∧ H' = upd H T (.tup [.int (i : Nat), x]) ∧ ∀ xs, SqT K H a xs → xs[i]? = some x, fun i H => ∃ xs : List V, SqT K H a xs ∧ xs.length = i⟩
theorem turn_enumT {P : Program} {w : World} {K : PySem.W.Frag} {elts : List Expr} {kk : Nat} {tpos : Pos} (a e it : Addr) :
    Turn P w K (.Tuple elts kk tpos) (IteT K a) [e, it] e (fun i h => (∃ old, IsEnum h e it ((i : Nat) : Int) old) ∧ h.IsTupleIter it a i ∧ e ≠ it ∧ a ≠ it ∧ e ≠ a) where
  mem := List.mem_cons_self ..
  obj := fun i h st b hb => by
    obtain ⟨⟨old, he⟩, ⟨o, ho, hc, hd⟩, _⟩ := st
    rcases List.mem_cons.mp hb with z | hb
    · rw [z]; exact ⟨_, he, fun v q => nomatch q⟩
    · rw [List.mem_singleton.mp hb]; exact ⟨o, ho, fun v q => by rw [hd] at q; cases q⟩
  keep := fun i h h' st k => by
    obtain ⟨⟨old, he⟩, hi, hn⟩ := st
    exact ⟨⟨old, k e (by simp) _ he⟩, hi.at fun o q => k it (by simp) o q, hn⟩
  item := by
    intro X hP hw hK hc i pins s σ H E I hf st hg
    subst hP hw hK
    obtain ⟨⟨old, he⟩, hit, n1, n2, n3⟩ := st
    obtain ⟨xs, x, hq, hx⟩ := hg
    obtain ⟨its, rv, tp, _⟩ := I.tuple hq
    have tp' : s.heap.IsTuple a its.toArray := tp
    have hel : e < s.heap.objs.size := Heap.lt_size he
    have hil : it < s.heap.objs.size := by obtain ⟨_, q, _⟩ := hit; exact Heap.lt_size q
    have hlt : i < its.toArray.size := by
      have := (List.getElem?_eq_some_iff.mp hx).1
      have l := rv.length
      simp; omega
    refine wpAny_pyNext_enum_itemD (Draws.tuple (A := X.A.in1) (I.ok.hd hc) it a n2 its.toArray) he ⟨hit, tp'⟩ hlt n1 (fun z => ?_) fun u h' tk hu ho st' hT hsz hk => ?_
    · rcases List.mem_cons.mp z with z | z
      · exact n1 z
      · exact n3 (List.mem_singleton.mp z)
    · refine ⟨_, rfl, wpAny_letOwnedTupleGo_enum (s := { s with heap := h', toks := tk + 1 }) ho fun h2 he2 sb => ?_⟩
      have ru : RelV x u := by
        obtain ⟨u', hu', r⟩ := rv.get hx
        have : its[i]? = some u := by simpa using hu
        rw [hu'] at this
        cases this
        exact r
      have hT2 : h2.get? s.heap.objs.size = some { cls := .type "tuple", data := .seq #[.int i tk, u] } := (sb.2 _ (Nat.ne_of_gt hel)).trans hT
      have new : ObjOk X.prog X.w (upd H s.heap.objs.size (.tup [.int (i : Nat), x])) h2 s.heap.objs.size (.tup [.int (i : Nat), x]) :=
        ⟨by show 2 ≤ sizeLine; decide, [.int i tk, u], .cons ⟨_, rfl⟩ (.cons ru .nil), ⟨_, hT2, rfl, _, rfl⟩⟩
      have I1 : Inv X pins σ (upd H s.heap.objs.size (.tup [.int (i : Nat), x])) { s with heap := h2, toks := tk + 1 } :=
        I.turnedNew (ch := [e, it]) (fun b ob hb q => (sb.2 b (fun z => hb (by simp [z]))).trans (hk b ob (fun z => hb (by simp [z])) (fun z => hb (by simp [z])) q)) hf (Nat.le_refl _) new
      refine ⟨.ref s.heap.objs.size, _, I1, rfl, ⟨_, x, rfl, I.hok.fresh (Nat.le_refl _), rfl, fun ys hy => by rw [I.tuple_inj hy hq]; exact hx⟩, ⟨⟨u, ?_⟩, st'.1.at fun o q => (sb.2 it (Ne.symm n1)).trans q, n1, n2, n3⟩, fun b hb => ?_⟩
      · have e1 : ((i + 1 : Nat) : Int) = (i : Int) + 1 := by omega
        rw [e1]; exact he2
      · have hb' : b < s.heap.objs.size := by
          rcases List.mem_cons.mp hb with z | z
          · rw [z]; exact hel
          · rw [List.mem_singleton.mp z]; exact hil
        rw [upd_ne (Nat.ne_of_lt hb')]
        exact (hf b hb).1
  done := by
    intro X hP hw hK hc i pins s σ H E I hf st hg
    subst hP hw hK
    obtain ⟨⟨old, he⟩, hit, n1, n2, n3⟩ := st
    obtain ⟨xs, hq, hx⟩ := hg
    obtain ⟨its, rv, tp, _⟩ := I.tuple hq
    have tp' : s.heap.IsTuple a its.toArray := tp
    obtain ⟨f0, f1, f2, f3, f4, f5⟩ := hf it (by simp)
    have hi : i = its.toArray.size := by
      have l := rv.length
      simp; omega
    rw [hi] at hit
    exact wpAny_pyNext_enum_endD (Draws.tuple (A := X.A.in1) (I.ok.hd hc) it a n2 its.toArray) he ⟨hit, tp'⟩ fun h' eb => ⟨rfl, I.turned (t' := s.toks) (fun b o hb q => eb b o hb q) f0 f1 f3 f4 f5⟩
  self := fun A i s Q E st h => by
    obtain ⟨⟨old, he⟩, _⟩ := st
    exact wpAny_pyIter_enum he h
def iEnumA (K : PySem.W.Frag) (ta : TA) : TI := fun σ H R => ta σ H fun vs H1 => ∃ a xs, vs = [.ref a] ∧ ((SqL K H1 a xs ∧ R (Ite K a) H1) ∨ (SqT K H1 a xs ∧ R (IteT K a) H1))
theorem pi_enumA {X : Cx} {e : Expr} {ta : TA} {p pos tpos : Pos} {elts : List Expr} {kk : Nat} (hg : Gl X "enumerate") (hm : X.mg "enumerate" = none) (ha : PA X [e] ta) (hs : starEach [e] X.env = [(false, eval e X.env)]) :
    PI X (.Tuple elts kk tpos) (.Call (.Name "enumerate" p) [e] [] pos) (iEnumA X.K ta) := by
  refine ⟨fun pins s σ H R I h => Call_ (ld_blt I hg hm boot_enumerate (PyProof.Rows.callWith_type1 (thn (ha.run pos pins s σ H _ I h) fun us s1 q => ?_) hs rfl))⟩
  obtain ⟨vs, H1, I1, r1, a, xs, rfl, q⟩ := q
  cases r1 with
  | cons r rr =>
    cases rr
    cases r
    have fresh : ∀ b ∈ [s1.heap.objs.size + 1, s1.heap.objs.size], FpOk X pins H1 b := fun b hb => by
      have hle : s1.heap.objs.size ≤ b := by
        rcases List.mem_cons.mp hb with z | z
        · omega
        · rw [List.mem_singleton.mp z]; exact Nat.le_refl _
      exact I1.fpOk hle (I1.hok.fresh hle)
    rcases q with ⟨hq, q⟩ | ⟨hq, q⟩
    · obtain ⟨its, rv, p', _⟩ := I1.list hq
      refine call_enumerate_list p'.isList fun h' he hit hsz hk => wpAny_pyIter_enum he ?_
      exact ⟨s1.heap.objs.size + 1, [s1.heap.objs.size + 1, s1.heap.objs.size], _, _, H1, rfl, I1.kept (t' := s1.toks) hk, turn_enum a (s1.heap.objs.size + 1) s1.heap.objs.size, ⟨⟨.none, he⟩, hit, Nat.succ_ne_self _⟩, fresh, q⟩
    · obtain ⟨its, rv, p', _⟩ := I1.tuple hq
      have p2 : s1.heap.IsTuple a its.toArray := p'
      have al : a < s1.heap.objs.size := by obtain ⟨o, ho, _⟩ := p2; exact Heap.lt_size ho
      refine enum1_begins (begins_tuple a its.toArray) p2 fun h' he hit hk => wpAny_pyIter_enum he ?_
      exact ⟨s1.heap.objs.size + 1, [s1.heap.objs.size + 1, s1.heap.objs.size], _, _, H1, rfl, I1.kept (t' := s1.toks) hk, turn_enumT a (s1.heap.objs.size + 1) s1.heap.objs.size, ⟨⟨.none, he⟩, ⟨_, hit, rfl, rfl⟩, Nat.succ_ne_self _, Nat.ne_of_lt al, Nat.ne_of_gt (Nat.lt_succ_of_lt al)⟩, fresh, q⟩
theorem walk_enumT {K : PySem.W.Frag} {a : Addr} {xs : List V} : Walk (IteT K a) xs.length (fun H => SqT K H a xs) (YPair (fun i => some (.int (i : Nat))) (fun i => xs[i]?)) := by
  refine ⟨fun i _ hi q => ⟨xs, xs[i], q, by simp [hi]⟩, fun _ q => ⟨xs, q, rfl⟩, fun i H v H' _ q y => ?_⟩
  obtain ⟨T, x, h1, h2, h3, h4⟩ := y
  exact ⟨T, .int (i : Nat), x, h1, h2, h3, rfl, h4 xs q⟩
end Eng
end

section
namespace Eng
open PySem PySem.Spec PyProof.Rows L2

section
variable {P : Program} {w : World} {A : Around} {E : Value → Shared → Prop} {s : Shared}
end

end Eng
end

section
namespace Eng
open PySem PySem.Spec PyProof.Rows L2
section
variable {c : SC} {X : Cx} {W : WX} {cf : CF} {pos : Pos}

mutual
def Tgs.len : Tgs → Nat
  | .nil => 0
  | .cons _ ts => ts.len + 1
end
theorem chkGs_len : ∀ {ts : Tgs} {es : List Expr}, chkGs c ts es = true → es.length = ts.len
  | .nil, [], _ => rfl
  | .nil, _ :: _, h => nomatch h
  | .cons _ _, [], h => nomatch h
  | .cons t ts, e :: es, h => by
    have h' : (chkG c t e && chkGs c ts es) = true := h
    rw [Bool.and_eq_true] at h'
    show es.length + 1 = ts.len + 1
    rw [chkGs_len h'.2]
theorem asgs_len : ∀ {ts : Tgs} {ds : List D} {fr fr' : Frame}, asgs ts ds fr = some fr' → ds.length = ts.len
  | .nil, [], _, _, _ => rfl
  | .nil, _ :: _, _, _, h => nomatch h
  | .cons _ _, [], _, _, h => nomatch h
  | .cons t ts, d :: ds, fr, fr', h => by
    have h' : (asg t d fr).bind (fun f => asgs ts ds f) = some fr' := h
    cases q : asg t d fr with
    | none => rw [q] at h'; cases h'
    | some f =>
      rw [q] at h'
      show ds.length + 1 = ts.len + 1
      rw [asgs_len (show asgs ts ds f = some fr' from h')]
theorem assignEach_length (env : Env) : ∀ es : List Expr, (assignEach es env).length = es.length
  | [] => rfl
  | e :: es => by
    have ih := assignEach_length env es
    cases e <;> (show (assignEach es env).length + 1 = es.length + 1; rw [ih])
theorem _root_.L2.PG.or {e : Expr} {t t' : TG} (h : PG X e t) (h' : PG X e t') : PG X e (fun v σ H Q => t v σ H Q ∨ t' v σ H Q) := ⟨fun pins s σ H v u Q I r q => q.elim (h.run pins s σ H v u Q I r) (h'.run pins s σ H v u Q I r)⟩
mutual
theorem sg (G : Good c X W cf) : ∀ (t : Tg) (e : Expr), chkG c t e = true → PG X e (gT X t)
  | .nm i, e, h => by
    cases e with
    | Name x p =>
      have h' : (decide (c.N[i]? = some x) && isLoc c.top (c.sc.names.lookup x)) = true := h
      rw [Bool.and_eq_true, decide_eq_true_iff] at h'
      have hl : L2.Loc X.env.scope x ∧ (X.fn x = true ∨ X.env.scope.names.lookup x = some .local) := by
        unfold L2.Loc
        rw [G.sc]
        have h2 := h'.2
        cases q : c.sc.names.lookup x with
        | none => rw [q] at h2; cases h2
        | some k =>
          rw [q] at h2
          cases k with
          | «local» => exact ⟨.inl rfl, .inr rfl⟩
          | cell => exact ⟨.inr rfl, .inl (G.top h2 x)⟩
          | free => cases h2
          | globalExplicit => cases h2
          | globalImplicit => cases h2
      refine (pg_name (i := i) (by rw [G.N]; exact G.nd) (by rw [G.N]; exact h'.1) hl.1 hl.2).weak fun v σ H Q ⟨g, fr, S, d, fr', rel, rd, e, q⟩ => ?_
      have e' : some (fr.set i (some (Val.fz d))) = some fr' := e
      cases e'
      exact q _ (rel.setFz rd) (List.length_set ..) fun j hj => List.getElem?_set_ne (fun z => hj (by rw [z]; exact List.mem_singleton.mpr rfl))
    | _ => exact nomatch h
  | .tp ts, e, h => by
    cases e with
    | Tuple es k p =>
      have h' : chkGs c ts es = true := h
      refine (PG.or (pg_tup G.calm (sgs G ts es h') rfl (assignEach_len X.env h')) (pg_lst G.calm (sgs G ts es h') rfl (assignEach_len X.env h'))).weak fun v σ H Q ⟨g, fr, S, d, fr', rel, rd, e, q⟩ => ?_
      cases d with
      | tup ds =>
        have e' : asgs ts ds fr = some fr' := e
        obtain ⟨a, vs, rfl, h1, h2⟩ := rd.of_tup
        refine .inl ⟨a, vs, rfl, h1, ?_, g, fr, S, ds, fr', rel, h2, e', q⟩
        rw [← h2.length, asgs_len e', assignEach_length, chkGs_len h']
      | lst ds =>
        have e' : asgs ts ds fr = some fr' := e
        obtain ⟨a, vs, rfl, h1, _, h2⟩ := rd.tracked_lst
        refine .inr ⟨a, vs, rfl, SqL.of h1, ?_, g, fr, S, ds, fr', rel, h2, e', q⟩
        rw [← h2.length, asgs_len e', assignEach_length, chkGs_len h']
      | _ => exact nomatch e
    | _ => exact nomatch h
theorem sgs (G : Good c X W cf) : ∀ (t : Tgs) (e : List Expr), chkGs c t e = true → PGs X e (gTs X t)
  | .nil, [], _ => pgs_nil.weak fun v σ H Q ⟨g, fr, S, ds, fr', rel, rd, e, q⟩ => by
    cases ds with
    | nil =>
      cases rd
      have e' : some fr = some fr' := e
      cases e'
      exact ⟨rfl, q σ rel rfl fun _ _ => rfl⟩
    | cons d ds => exact nomatch e
  | .nil, _ :: _, h => nomatch h
  | .cons _ _, [], h => nomatch h
  | .cons t ts, e :: es, h => by
    have h' : (chkG c t e && chkGs c ts es) = true := h
    rw [Bool.and_eq_true] at h'
    have hs : (assignEach (e :: es) X.env).map (·.2) = assign e X.env :: (assignEach es X.env).map (·.2) := by
      cases t with
      | nm i => cases e with
        | Name x p => rfl
        | _ => exact nomatch h'.1
      | tp ts' => cases e with
        | Tuple l k p => rfl
        | _ => exact nomatch h'.1
    refine (pgs_cons (sg G t e h'.1) (sgs G ts es h'.2) hs).weak fun v σ H Q ⟨g, fr, S, ds, fr', rel, rd, e, q⟩ => ?_
    cases ds with
    | nil => exact nomatch e
    | cons d ds =>
      cases rd with
      | cons r1 r2 =>
        have e' : (asg t d fr).bind (fun f => asgs ts ds f) = some fr' := e
        cases q1 : asg t d fr with
        | none => rw [q1] at e'; cases e'
        | some f =>
          rw [q1] at e'
          refine ⟨_, _, rfl, g, fr, S, d, f, rel, r1, q1, fun σ1 rel1 l1 s1 => ⟨g, f, S, ds, fr', rel1, r2, e', fun σ2 rel2 l2 s2 => q σ2 rel2 (l2.trans l1) fun j hj => ?_⟩⟩
          have hj' : j ∉ t.slots ++ ts.slots := hj
          rw [s2 j (fun z => hj' (List.mem_append.mpr (.inr z))), s1 j (fun z => hj' (List.mem_append.mpr (.inl z)))]
end

def WalksD (K : PySem.W.Frag) (J : It) (g0 : Gh) (H0 : Hp) (ds : List D) : Prop := ∃ G Y, Walk J ds.length G Y ∧ (∀ g H, Keep g0 H0 g H → G H) ∧
  ∀ i g H x H', Keep g0 H0 g H → i < ds.length → Y i H x H' → Grows H H' ∧ ∃ d, ds[i]? = some d ∧ RD K g H' d x
def rW (K : PySem.W.Frag) : List Addr → Gh → Hp → List D → It → Prop := fun t g H ds J => g.tmp = t ∧ WalksD K J g H ds
theorem rW_tmp {K : PySem.W.Frag} : ∀ t g H a b, rW K t g H a b → g.tmp = t := fun _ _ _ _ _ h => h.1
abbrev tWk (c : SC) (X : Cx) (W : WX) (cf : CF) (w : Wk) : TI := tX X.K X.mg W (rW X.K) (evW cf c.gl w)
theorem walks_list {K : PySem.W.Frag} {g : Gh} {H : Hp} {p : Addr} {xs : List D} {vs : List V} (h : H p = some (.lst vs)) (n : ¬ g.av p) (r : RDs K g H xs vs) : WalksD K (Itl K p) g H xs := by
  have keep : ∀ g' H', Keep g H g' H' → H' p = some (.lst vs) := fun g' H' k => (k.keep p _ h (fun z => n (.inl z)) (fun z => n (.inr (.inl z)))).1
  refine ⟨_, _, by rw [r.length]; exact walk_list (xs := vs), fun g' H' k => SqL.of (keep g' H' k), fun i g' H' x H2 k hi y => ?_⟩
  obtain ⟨rfl, e⟩ := y
  obtain ⟨d, e1, e2⟩ := r.getV e
  exact ⟨Grows.refl, d, e1, e2.mono k.mono⟩
theorem walks_tup {K : PySem.W.Frag} {g : Gh} {H : Hp} {p : Addr} {xs : List D} {vs : List V} (h : H p = some (.tup vs)) (r : RDs K g H xs vs) : WalksD K (Itt K p) g H xs := by
  refine ⟨_, _, by rw [r.length]; exact walk_tup (xs := vs), fun g' H' k => SqT.of (k.tups _ _ h), fun i g' H' x H2 k hi y => ?_⟩
  obtain ⟨rfl, e⟩ := y
  obtain ⟨d, e1, e2⟩ := r.getV e
  exact ⟨Grows.refl, d, e1, e2.mono k.mono⟩
theorem walks_rng {K : PySem.W.Frag} {g : Gh} {H : Hp} (lo hi : Int) : WalksD K (Itr lo (hi - lo).toNat) g H (rgD lo hi) := by
  have hl : (rgD lo hi).length = (hi - lo).toNat := by unfold rgD; rw [List.length_map, List.length_range]
  refine ⟨_, _, by rw [hl]; exact walk_range, fun _ _ _ => trivial, fun i g' H' x H2 k hi' y => ?_⟩
  obtain ⟨rfl, rfl⟩ := y
  refine ⟨Grows.refl, .int (lo + (i : Nat)), ?_, .int _⟩
  unfold rgD
  rw [List.getElem?_map, List.getElem?_range (by rw [hl] at hi'; exact hi')]
  rfl
theorem walks_str {K : PySem.W.Frag} {g : Gh} {H : Hp} {z : Str} : WalksD K (Its z) g H (signsD z) := by
  have hl : (signsD z).length = z.cps.size := by unfold signsD; rw [List.length_map, Array.length_toList]
  refine ⟨_, _, by rw [hl]; exact walk_str, fun _ _ _ => trivial, fun i g' H' x H2 k hi y => ?_⟩
  obtain ⟨rfl, cc, e, rfl⟩ := y
  refine ⟨Grows.refl, .str ⟨#[cc]⟩, ?_, .str _⟩
  unfold signsD
  rw [List.getElem?_map, Array.getElem?_toList, e]; rfl
variable {a b : Xp} {l r tge : Expr}
theorem sw_seq (ha : PE X l (tV c X W cf a)) : PI X tge l (tWk c X W cf (.seq a)) := by
  refine (PI.or (pi_list (frzPE ha)) (PI.or (pi_tup (frzPE ha)) (pi_str (frzPE ha)))).weak fun σ H R ⟨g, fr, S, rel, h⟩ => ?_
  have h' : Aft X.K X.mg W (rW X.K) g H σ ((frzX (ev cf c.gl a fr S)).bind fun x fr S => match x with | .lst xs => .ok xs fr S | .tup xs => .ok xs fr S | .str z => .ok (signsD z) fr S | _ => .no) R := h
  cases e : frzX (ev cf c.gl a fr S) with
  | no => rw [e] at h'; exact h'.elim
  | ex x f s =>
    rw [e] at h'
    refine .inl ⟨g, fr, S, rel, ?_⟩
    show Aft X.K X.mg W (rD X.K) g H σ (frzX (ev cf c.gl a fr S)) _
    rw [e]; exact h'
  | ok d f s =>
    rw [e] at h'
    cases d with
    | lst xs =>
      refine .inl ⟨g, fr, S, rel, ?_⟩
      show Aft X.K X.mg W (rD X.K) g H σ (frzX (ev cf c.gl a fr S)) _
      rw [e]
      intro g1 H1 x k1 rel1 ⟨t1, r1⟩
      obtain ⟨p, vs, rfl, h1, h2, h3⟩ := r1.tracked_lst
      exact ⟨p, rfl, ⟨vs, SqL.of h1⟩, h' g1 H1 _ k1 rel1 ⟨t1, walks_list h1 h2 h3⟩⟩
    | tup xs =>
      refine .inr (.inl ⟨g, fr, S, rel, ?_⟩)
      show Aft X.K X.mg W (rD X.K) g H σ (frzX (ev cf c.gl a fr S)) _
      rw [e]
      intro g1 H1 x k1 rel1 ⟨t1, r1⟩
      obtain ⟨p, vs, rfl, h1, h2⟩ := r1.of_tupX
      exact ⟨p, rfl, ⟨vs, SqT.of h1⟩, h' g1 H1 _ k1 rel1 ⟨t1, walks_tup h1 h2⟩⟩
    | str z =>
      refine .inr (.inr ⟨g, fr, S, rel, ?_⟩)
      show Aft X.K X.mg W (rD X.K) g H σ (frzX (ev cf c.gl a fr S)) _
      rw [e]
      intro g1 H1 x k1 rel1 ⟨t1, r1⟩
      obtain rfl := RD.of_str r1
      exact ⟨z, rfl, h' g1 H1 _ k1 rel1 ⟨t1, walks_str⟩⟩
    | _ => exact h'.elim
theorem pair_rel {K : PySem.W.Frag} {g : Gh} {H : Hp} {T : Addr} {d1 d2 : D} {x y : V} (hT : H T = none) (r1 : RD K g H d1 x) (r2 : RD K g H d2 y) : RD K g (upd H T (.tup [x, y])) (.tup [d1, d2]) (.ref T) :=
  .tup upd_same (.cons (r1.mono (Grows.fresh hT).mono) (.cons (r2.mono (Grows.fresh hT).mono) .nil))
theorem enum_at {ds : List D} {i : Nat} {d : D} (h : ds[i]? = some d) : (enumD ds)[i]? = some (.tup [.int (i : Nat), d]) := by
  have hi := (List.getElem?_eq_some_iff.mp h).1
  unfold enumD
  rw [List.getElem?_map, List.getElem?_range hi]
  show some (D.tup [.int (i : Nat), ds.getD i .non]) = _
  rw [List.getD_eq_getElem?_getD, h]; rfl
theorem enum_len (ds : List D) : (enumD ds).length = ds.length := by unfold enumD; rw [List.length_map, List.length_range]
theorem walks_enumL {K : PySem.W.Frag} {g : Gh} {H : Hp} {p : Addr} {xs : List D} {vs : List V} (h : H p = some (.lst vs)) (n : ¬ g.av p) (r : RDs K g H xs vs) : WalksD K (Ite K p) g H (enumD xs) := by
  have keep : ∀ g' H', Keep g H g' H' → H' p = some (.lst vs) := fun g' H' k => (k.keep p _ h (fun z => n (.inl z)) (fun z => n (.inr (.inl z)))).1
  refine ⟨_, _, by rw [enum_len, r.length]; exact walk_enum (xs := vs), fun g' H' k => SqL.of (keep g' H' k), fun i g' H' x H2 k hi y => ?_⟩
  obtain ⟨T, u, v, rfl, hT, rfl, e1, e2⟩ := y
  cases e1
  obtain ⟨d, q1, q2⟩ := r.getV e2
  exact ⟨Grows.fresh hT, _, enum_at q1, pair_rel hT (.int _) (q2.mono k.mono)⟩
theorem walks_enumT {K : PySem.W.Frag} {g : Gh} {H : Hp} {p : Addr} {xs : List D} {vs : List V} (h : H p = some (.tup vs)) (r : RDs K g H xs vs) : WalksD K (IteT K p) g H (enumD xs) := by
  refine ⟨_, _, by rw [enum_len, r.length]; exact walk_enumT (xs := vs), fun g' H' k => SqT.of (k.tups _ _ h), fun i g' H' x H2 k hi y => ?_⟩
  obtain ⟨T, u, v, rfl, hT, rfl, e1, e2⟩ := y
  cases e1
  obtain ⟨d, q1, q2⟩ := r.getV e2
  exact ⟨Grows.fresh hT, _, enum_at q1, pair_rel hT (.int _) (q2.mono k.mono)⟩
theorem sw_enm (G : Good c X W cf) {p : Pos} {elts : List Expr} {kk : Nat} {tp : Pos} (hr : glB c "enumerate" = true) (ha : PE X l (tV c X W cf a)) (hp : pln l = true) : PI X (.Tuple elts kk tp) (.Call (.Name "enumerate" p) [l] [] pos) (tWk c X W cf (.enm a)) := by
  obtain ⟨z1, z2⟩ := G.glob hr
  refine (pi_enumA z1 (G.blt _ (by decide +kernel)) (pa_cons (frzPE ha) pa_nil (pln_star hp _)) (pln_star hp _)).weak fun σ H R ⟨g, fr, S, rel, h⟩ => ⟨g, fr, S, rel, ?_⟩
  refine (Aft.bind rD_tmp h).imp fun x H1 ⟨d1, fr1, S1, g1, k1, rel1, r1, t1, h1⟩ => ?_
  cases d1 with
  | lst xs =>
    obtain ⟨q, vs, rfl, y1, y2, y3⟩ := r1.2.tracked_lst
    have h1' : Aft X.K X.mg W (rW X.K) g1 H1 σ (.ok (enumD xs) fr1 S1) R := h1
    exact ⟨q, vs, rfl, .inl ⟨SqL.of y1, h1' g1 H1 _ Keep.refl rel1 ⟨rfl, walks_enumL y1 y2 y3⟩⟩⟩
  | tup xs =>
    obtain ⟨q, vs, rfl, y1, y2⟩ := r1.2.of_tupX
    have h1' : Aft X.K X.mg W (rW X.K) g1 H1 σ (.ok (enumD xs) fr1 S1) R := h1
    exact ⟨q, vs, rfl, .inr ⟨SqT.of y1, h1' g1 H1 _ Keep.refl rel1 ⟨rfl, walks_enumT y1 y2⟩⟩⟩
  | _ => exact h1.elim
theorem zip_at {xs ys : List D} {i : Nat} {d e : D} (h1 : xs[i]? = some d) (h2 : ys[i]? = some e) : (zipD xs ys)[i]? = some (.tup [d, e]) := by
  unfold zipD
  rw [List.getElem?_zipWith, h1, h2]
theorem zip_len (xs ys : List D) : (zipD xs ys).length = min xs.length ys.length := by unfold zipD; rw [List.length_zipWith]
theorem walks_zipL {K : PySem.W.Frag} {g : Gh} {H : Hp} {p q : Addr} {xs ys : List D} {vs us : List V} (h : H p = some (.lst vs)) (n : ¬ g.av p) (r : RDs K g H xs vs) (h' : H q = some (.lst us)) (n' : ¬ g.av q) (r' : RDs K g H ys us) : WalksD K (Itz K p q) g H (zipD xs ys) := by
  have keep : ∀ g' H', Keep g H g' H' → H' p = some (.lst vs) := fun g' H' k => (k.keep p _ h (fun z => n (.inl z)) (fun z => n (.inr (.inl z)))).1
  have keep' : ∀ g' H', Keep g H g' H' → H' q = some (.lst us) := fun g' H' k => (k.keep q _ h' (fun z => n' (.inl z)) (fun z => n' (.inr (.inl z)))).1
  refine ⟨_, _, walk_zip (xs := vs) (ys := us) (by rw [zip_len, r.length, r'.length]), fun g' H' k => ⟨SqL.of (keep g' H' k), SqL.of (keep' g' H' k)⟩, fun i g' H' x H2 k hi y => ?_⟩
  obtain ⟨T, u, v, rfl, hT, rfl, e1, e2⟩ := y
  obtain ⟨d1, q1, q2⟩ := r.getV e1
  obtain ⟨d2, q3, q4⟩ := r'.getV e2
  exact ⟨Grows.fresh hT, _, zip_at q1 q3, pair_rel hT (q2.mono k.mono) (q4.mono k.mono)⟩
theorem walk_zipT {K : PySem.W.Frag} {a b : Addr} {xs ys : List V} {n : Nat} (hn : n = min xs.length ys.length) : Walk (RZ.ItzT K a b) n (fun H => SqT K H a xs ∧ SqT K H b ys) (YPair (fun i => xs[i]?) (fun i => ys[i]?)) := by
  refine ⟨fun i _ hi q => ?_, fun _ q => ⟨xs, ys, q.1, q.2, by omega⟩, fun i H v H' _ q y => ?_⟩
  · have b1 : i < xs.length := by omega
    have b2 : i < ys.length := by omega
    exact ⟨xs, ys, xs[i], ys[i], q.1, q.2, List.getElem?_eq_getElem b1, List.getElem?_eq_getElem b2⟩
  · obtain ⟨T, x, z, y1, y2, y3, y4, y5⟩ := y
    exact ⟨T, x, z, y1, y2, y3, y4 xs q.1, y5 ys q.2⟩
theorem walks_zipT {K : PySem.W.Frag} {g : Gh} {H : Hp} {p q : Addr} {xs ys : List D} {vs us : List V} (h : H p = some (.tup vs)) (r : RDs K g H xs vs) (h' : H q = some (.tup us)) (r' : RDs K g H ys us) : WalksD K (RZ.ItzT K p q) g H (zipD xs ys) := by
  refine ⟨_, _, walk_zipT (xs := vs) (ys := us) (by rw [zip_len, r.length, r'.length]), fun g' H' k => ⟨SqT.of (k.tups _ _ h), SqT.of (k.tups _ _ h')⟩, fun i g' H' x H2 k hi y => ?_⟩
  obtain ⟨T, u, v, rfl, hT, rfl, e1, e2⟩ := y
  obtain ⟨d1, q1, q2⟩ := r.getV e1
  obtain ⟨d2, q3, q4⟩ := r'.getV e2
  exact ⟨Grows.fresh hT, _, zip_at q1 q3, pair_rel hT (q2.mono k.mono) (q4.mono k.mono)⟩
theorem sw_zip (G : Good c X W cf) {p : Pos} {elts : List Expr} {kk : Nat} {tp : Pos} (hr : glB c "zip" = true) (ha : PE X l (tV c X W cf a)) (hb : PE X r (tV c X W cf b)) (hp : pln l = true) (hq : pln r = true) :
    PI X (.Tuple elts kk tp) (.Call (.Name "zip" p) [l, r] [] pos) (tWk c X W cf (.zip a b)) := by
  obtain ⟨z1, z2⟩ := G.glob hr
  have s2 : starEach [r] X.env = [(false, eval r X.env)] := pln_star hq _
  refine (RZ.pi_zipA z1 (G.blt _ (by decide +kernel)) (pa_cons (frzPE ha) (pa_cons (frzPE hb) pa_nil (pln_star hq _)) (pln_star hp _)) (pln_star hp _) (by rw [s2]; rfl)).weak fun σ H R ⟨g, fr, S, rel, h⟩ => ⟨g, fr, S, rel, ?_⟩
  refine (Aft.bind rD_tmp h).imp fun x H1 ⟨d1, fr1, S1, g1, k1, rel1, r1, t1, h1⟩ => ⟨g1, fr1, S1, rel1, ?_⟩
  refine (Aft.bind rD_tmp h1).imp fun y H2 ⟨d2, fr2, S2, g2, k2, rel2, r2, t2, h2⟩ => ?_
  have r1' := r1.2.mono k2.mono
  cases d1 with
  | lst xs =>
    cases d2 with
    | lst ys =>
      obtain ⟨q1, vs, rfl, y1, y2, y3⟩ := r1'.tracked_lst
      obtain ⟨q2, us, rfl, w1, w2, w3⟩ := r2.2.tracked_lst
      have h2' : Aft X.K X.mg W (rW X.K) g2 H2 σ (.ok (zipD xs ys) fr2 S2) R := h2
      exact ⟨q1, q2, vs, us, rfl, .inl ⟨SqL.of y1, SqL.of w1, h2' g2 H2 _ Keep.refl rel2 ⟨rfl, walks_zipL y1 y2 y3 w1 w2 w3⟩⟩⟩
    | _ => exact h2.elim
  | tup xs =>
    cases d2 with
    | tup ys =>
      obtain ⟨q1, vs, rfl, y1, y3⟩ := r1'.of_tupX
      obtain ⟨q2, us, rfl, w1, w3⟩ := r2.2.of_tupX
      have h2' : Aft X.K X.mg W (rW X.K) g2 H2 σ (.ok (zipD xs ys) fr2 S2) R := h2
      exact ⟨q1, q2, vs, us, rfl, .inr ⟨SqT.of y1, SqT.of w1, h2' g2 H2 _ Keep.refl rel2 ⟨rfl, walks_zipT y1 y3 w1 w3⟩⟩⟩
    | _ => exact h2.elim
  | _ => exact h2.elim
theorem sw_rng1 (G : Good c X W cf) {p : Pos} (hr : glB c "range" = true) (ha : PE X l (tV c X W cf a)) (hp : pln l = true) : PI X tge (.Call (.Name "range" p) [l] [] pos) (tWk c X W cf (.rng1 a)) := by
  obtain ⟨z1, z2⟩ := G.glob hr
  refine (pi_range1 z1 (G.blt _ (by decide +kernel)) (pa_cons (frzPE ha) pa_nil (pln_star hp _)) (pln_star hp _)).weak fun σ H R ⟨g, fr, S, rel, h⟩ => ⟨g, fr, S, rel, ?_⟩
  refine (Aft.bind rD_tmp h).imp fun x H1 ⟨d1, fr1, S1, g1, k1, rel1, r1, t1, h1⟩ => ?_
  cases d1 with
  | int j =>
    obtain rfl := RD.of_int r1.2
    have h1' : Aft X.K X.mg W (rW X.K) g1 H1 σ (if rgOk 0 j then .ok (rgD 0 j) fr1 S1 else .no) R := h1
    by_cases hc : rgOk 0 j = true
    · rw [if_pos hc] at h1'
      obtain ⟨b1, b2, b3, b4⟩ := rgOk_of hc
      refine ⟨j, rfl, b3, b4, ?_⟩
      have := walks_rng (K := X.K) (g := g1) (H := H1) 0 j
      rw [Int.sub_zero] at this
      exact h1' g1 H1 _ Keep.refl rel1 ⟨rfl, this⟩
    · rw [if_neg hc] at h1'; exact h1'.elim
  | _ => exact h1.elim
theorem sw_rng2 (G : Good c X W cf) {p : Pos} (hr : glB c "range" = true) (ha : PE X l (tV c X W cf a)) (hb : PE X r (tV c X W cf b)) (hp : pln l = true) (hq : pln r = true) : PI X tge (.Call (.Name "range" p) [l, r] [] pos) (tWk c X W cf (.rng2 a b)) := by
  obtain ⟨z1, z2⟩ := G.glob hr
  have s2 : starEach [r] X.env = [(false, eval r X.env)] := pln_star hq _
  have s1 : starEach [l, r] X.env = [(false, eval l X.env), (false, eval r X.env)] := by rw [pln_star hp, s2]
  refine (pi_range2 z1 (G.blt _ (by decide +kernel)) (pa_cons (frzPE ha) (pa_cons (frzPE hb) pa_nil (pln_star hq _)) (pln_star hp _)) s1 s2).weak fun σ H R ⟨g, fr, S, rel, h⟩ => ⟨g, fr, S, rel, ?_⟩
  refine (Aft.bind rD_tmp h).imp fun x H1 ⟨d1, fr1, S1, g1, k1, rel1, r1, t1, h1⟩ => ⟨g1, fr1, S1, rel1, ?_⟩
  refine (Aft.bind rD_tmp h1).imp fun y H2 ⟨d2, fr2, S2, g2, k2, rel2, r2, t2, h2⟩ => ?_
  cases d1 with
  | int i =>
    cases d2 with
    | int j =>
      obtain rfl := RD.of_int r1.2
      obtain rfl := RD.of_int r2.2
      have h2' : Aft X.K X.mg W (rW X.K) g2 H2 σ (if rgOk i j then .ok (rgD i j) fr2 S2 else .no) R := h2
      by_cases hc : rgOk i j = true
      · rw [if_pos hc] at h2'
        exact ⟨i, j, rfl, rgOk_of hc, h2' g2 H2 _ Keep.refl rel2 ⟨rfl, walks_rng i j⟩⟩
      · rw [if_neg hc] at h2'; exact h2'.elim
    | _ => exact h2.elim
  | _ => exact h2.elim

theorem own_slots (N : List Str) (tg : Tg) : (tg.own N).map (·.2) = tg.slots := by
  unfold Tg.own
  rw [List.map_map]
  exact List.map_id' _
theorem wipe_length' (σ : L2.St) : ∀ vs : List Nat, (wipe σ vs).length = σ.length
  | [] => rfl
  | v :: vs => by show ((wipe σ vs).set v none).length = _; rw [List.length_set, wipe_length' σ vs]
theorem wipe_in {σ : L2.St} {i : Nat} : ∀ {vs : List Nat}, i ∈ vs → i < σ.length → (wipe σ vs)[i]? = some none
  | [], h, _ => nomatch h
  | v :: vs, h, hl => by
    show ((wipe σ vs).set v none)[i]? = some none
    by_cases e : v = i
    · subst e; rw [List.getElem?_set_self (by rw [wipe_length']; exact hl)]
    · rw [List.getElem?_set_ne e]
      exact wipe_in ((List.mem_cons.mp h).resolve_left fun z => e z.symm) hl
theorem wipe_eq {σ σ' : L2.St} {vs : List Nat} (hl : σ'.length = σ.length) (h : ∀ i, i ∉ vs → σ'[i]? = σ[i]?) : wipe σ' vs = wipe σ vs := by
  apply List.ext_getElem?
  intro i
  by_cases hi : i ∈ vs
  · by_cases hb : i < σ.length
    · rw [wipe_in hi hb, wipe_in hi (by rw [hl]; exact hb)]
    · rw [List.getElem?_eq_none (by rw [wipe_length', hl]; omega), List.getElem?_eq_none (by rw [wipe_length']; omega)]
  · rw [wipe_out hi, wipe_out hi, h i hi]
theorem wipe_wipe {σ σ' : L2.St} {vs : List Nat} (hl : σ'.length = (wipe σ vs).length) (h : ∀ i, i ∉ vs → σ'[i]? = (wipe σ vs)[i]?) : wipe σ' vs = wipe σ vs :=
  wipe_eq (by rw [hl, wipe_length']) fun i hi => by rw [h i hi, wipe_out hi]
theorem Rel.wipe {K : PySem.W.Frag} {mg : Str → Option Value} {g : Gh} {fr : Frame} {S : Store} {σ : L2.St} {H : Hp} (r : Rel K mg g fr S σ H) : ∀ vs : List Nat, Rel K mg g (wipeF fr vs) S (L2.wipe σ vs) H
  | [] => r
  | v :: vs => (Rel.wipe r vs).setNoneV
theorem backF_length (old fr : Frame) : ∀ vs : List Nat, (backF old fr vs).length = fr.length
  | [] => rfl
  | v :: vs => by show ((backF old fr vs).set v _).length = _; rw [List.length_set, backF_length old fr vs]
theorem backF_in {old fr : Frame} {i : Nat} : ∀ {vs : List Nat}, i ∈ vs → i < fr.length → (backF old fr vs)[i]? = some (old.getD i none)
  | [], h, _ => nomatch h
  | v :: vs, h, hl => by
    show ((backF old fr vs).set v (old.getD v none))[i]? = _
    by_cases e : v = i
    · subst e; rw [List.getElem?_set_self (by rw [backF_length]; exact hl)]
    · rw [List.getElem?_set_ne e]
      exact backF_in ((List.mem_cons.mp h).resolve_left fun z => e z.symm) hl
theorem backF_out {old fr : Frame} {i : Nat} : ∀ {vs : List Nat}, i ∉ vs → (backF old fr vs)[i]? = fr[i]?
  | [], _ => rfl
  | v :: vs, h => by
    show ((backF old fr vs).set v (old.getD v none))[i]? = _
    rw [List.getElem?_set_ne (fun z => h (by rw [z]; exact List.mem_cons_self))]
    exact backF_out fun z => h (List.mem_cons_of_mem _ z)
theorem calmF_at {fr : Frame} {vs : List Nat} {i : Nat} {cl : Cell} (h : calmF fr vs = true) (hi : i ∈ vs) (e : fr[i]? = some (some (.own cl))) : False := by
  unfold calmF at h
  have := List.all_eq_true.mp h i hi
  rw [List.getD_eq_getElem?_getD, e] at this
  exact nomatch this
theorem Rel.back {K : PySem.W.Frag} {mg : Str → Option Value} {g g' : Gh} {fr fr' : Frame} {S S' : Store} {σ : L2.St} {H H' : Hp} {vs : List Nat} (r : Rel K mg g fr S σ H) (r' : Rel K mg g' fr' S' (L2.wipe σ vs) H') (k : Keep g H g' H') (hc : calmF fr vs = true) :
    Rel K mg g' (backF fr fr' vs) S' σ H' := by
  have hl : fr'.length = fr.length := by rw [r'.len, wipe_length', r.len]
  have get_in : ∀ (j : Nat) v, j ∈ vs → (backF fr fr' vs)[j]? = some (some v) → fr[j]? = some (some v) := fun j v hj e => by
    have hb : j < fr'.length := by
      have := (List.getElem?_eq_some_iff.mp e).1
      rw [backF_length] at this; exact this
    rw [backF_in hj hb] at e
    rw [List.getD_eq_getElem?_getD] at e
    cases q : fr[j]? with
    | none => rw [q] at e; cases e
    | some o => rw [q] at e; exact congrArg some (Option.some.inj e)
  have own_out : ∀ (j : Nat) cl, (backF fr fr' vs)[j]? = some (some (.own cl)) → j ∉ vs := fun j cl e hj => calmF_at hc hj (get_in j _ hj e)
  refine ⟨by rw [backF_length, r'.len, wipe_length'], fun j v e => ?_, fun i j c1 c2 a ne e1 e2 e3 => ?_, r'.st⟩
  · by_cases hj : j ∈ vs
    · have e' := get_in j v hj e
      obtain ⟨x, e1, s⟩ := r.slot j v e'
      refine ⟨x, e1, ?_⟩
      cases v with
      | fz d => exact RD.mono k.mono s
      | own cl => exact (calmF_at hc hj e').elim
    · rw [backF_out hj] at e
      obtain ⟨x, e1, s⟩ := r'.slot j v e
      rw [wipe_out hj] at e1
      exact ⟨x, e1, s⟩
  · have n1 := own_out i c1 e1
    have n2 := own_out j c2 e2
    rw [backF_out n1] at e1
    rw [backF_out n2] at e2
    have := r'.apart i j c1 c2 a ne e1 e2 (by rw [wipe_out n1]; exact e3)
    rw [wipe_out n2] at this
    exact this
theorem wk_tail (G : Good c X W cf) {elt : Xp} {tg : Tg} {cs : Xs} {J : It} {ds : List D} {fr1 : Frame} {S1 : Store} {g1 : Gh} {H1 : Hp} {σ : L2.St} {Q : VK} (rel1 : Rel X.K X.mg g1 fr1 S1 σ H1) (hW : WalksD X.K J g1 H1 ds)
    (h1' : Aft X.K X.mg W (rV X.K X.mg) g1 H1 σ (if calmF fr1 tg.slots then
      match compGo tg (evC cf c.gl cs) (fun fr S => frzX (ev cf c.gl elt fr S)) ds [] (wipeF fr1 tg.slots) S1 with
      | .ok acc fr' S' => .ok (.own (.lst acc)) (backF fr1 fr' tg.slots) S'
      | .ex e fr' S' => .ex e (backF fr1 fr' tg.slots) S'
      | .no => .no else .no) Q) :
    tLc (fun _ H R => R J H) (gT X tg) (tX X.K X.mg W rId (evC cf c.gl cs)) (tX X.K X.mg W (rD X.K) (fun fr S => frzX (ev cf c.gl elt fr S))) tg.slots σ H1 Q := fun p hp => by
  by_cases hcalm : calmF fr1 tg.slots = true
  · rw [if_pos hcalm] at h1'
    generalize hR : compGo tg (evC cf c.gl cs) (fun fr S => frzX (ev cf c.gl elt fr S)) ds [] (wipeF fr1 tg.slots) S1 = R0 at h1'
    · have hz := G.air.ws
      obtain ⟨GG, Y, wk, hG, hY⟩ := hW
      have ntmp : p ∉ g1.tmp := fun z => rel1.st.fresh hp (.inr (.inr z))
      refine lc_it wk (fun j H2 => ∃ g2 fr2 S2 acc vacc, Keep g1 H1 g2 H2 ∧ g2.tmp = p :: g1.tmp ∧ Rel X.K X.mg g2 fr2 S2 (L2.wipe σ tg.slots) H2 ∧ H2 p = some (.lst vacc) ∧ RDs X.K g2 H2 acc vacc ∧
          compGo tg (evC cf c.gl cs) (fun fr S => frzX (ev cf c.gl elt fr S)) (ds.drop j) acc fr2 S2 = R0)
        ⟨g1.push p, wipeF fr1 tg.slots, S1, [], [], keep_push hp, rfl, (rel1.push hp).wipe _, upd_same, .nil, hR⟩ (fun j H2 _ ⟨g2, _, _, _, _, kp, _⟩ => hG g2 H2 kp) ?_ ?_
      · rintro j x H2 H2' hj ⟨g2, fr2, S2, acc, vacc, kp, tm, rl, hv, racc, hgo⟩ hy
        obtain ⟨gr, d, ed, rd⟩ := hY j g2 H2 x H2' kp hj hy
        have rl' := rl.grows gr
        have hv' : H2' p = some (.lst vacc) := gr _ _ hv
        have racc' : RDs X.K g2 H2' acc vacc := racc.mono gr.mono
        have kp' : Keep g1 H1 g2 H2' := kp.trans gr.keep
        have ptmp : p ∈ g2.tmp := by rw [tm]; exact List.mem_cons_self
        have edrop : ds.drop j = d :: ds.drop (j + 1) := by
          obtain ⟨hb, e⟩ := List.getElem?_eq_some_iff.mp ed
          rw [List.drop_eq_getElem_cons hb, e]
        rw [edrop] at hgo
        have hgo' : (match asg tg d fr2 with
          | none => RX.no
          | some fr1 => match evC cf c.gl cs fr1 S2 with
            | .ok true fr2 S2 => match frzX (ev cf c.gl elt fr2 S2) with
              | .ok y fr3 S3 => if acc.length < sizeLine then compGo tg (evC cf c.gl cs) (fun fr S => frzX (ev cf c.gl elt fr S)) (ds.drop (j + 1)) (acc ++ [y]) (wipeF fr3 tg.slots) S3 else .no
              | .ex e fr3 S3 => .ex e (wipeF fr3 tg.slots) S3
              | .no => .no
            | .ok false fr2 S2 => compGo tg (evC cf c.gl cs) (fun fr S => frzX (ev cf c.gl elt fr S)) (ds.drop (j + 1)) acc (wipeF fr2 tg.slots) S2
            | .ex e fr2 S2 => .ex e (wipeF fr2 tg.slots) S2
            | .no => .no) = R0 := hgo
        cases q1 : asg tg d fr2 with
        | none => rw [q1] at hgo'; rw [← hgo'] at h1'; exact h1'.elim
        | some fr3 =>
          rw [q1] at hgo'
          refine ⟨g2, fr2, S2, d, fr3, rl', rd, q1, fun σ2 rel2 l2 s2 => ⟨wipe_wipe l2 s2, ?_⟩⟩
          have ew : L2.wipe σ2 tg.slots = L2.wipe σ tg.slots := wipe_wipe l2 s2
          refine ⟨g2, fr3, S2, rel2, ?_⟩
          dsimp only at hgo'
          cases q2 : evC cf c.gl cs fr3 S2 with
          | no => rw [q2] at hgo'; rw [← hgo'] at h1'; exact h1'.elim
          | ex e f s =>
            rw [q2] at hgo'
            rw [← hgo'] at h1'
            intro g5 H5 k0 d0 k5 rel5 t5 xr
            have tm5 : g5.tmp = p :: g1.tmp := t5.trans tm
            have sub5 : ∀ a, a ∈ g1.tmp → a ∈ g5.tmp := fun a z => by rw [tm5]; exact List.mem_cons_of_mem _ z
            have kk := kp'.trans k5
            have rw5 := rel5.wipe tg.slots
            rw [ew] at rw5
            have kd : Keep g1 H1 { g5 with tmp := g1.tmp } H5 := ⟨kk.keep, fun a o e n1 n2 z => z, kk.tups, kk.pre⟩
            exact hz _ _ _ _ _ (h1' { g5 with tmp := g1.tmp } H5 k0 d0 kd (rel1.back (rw5.drop sub5) kd hcalm) rfl (xr.mono (mono_drop sub5)))
          | ok bb fr4 S4 =>
            rw [q2] at hgo'
            intro g4 H4 b' k4 rel4 ⟨t4, eb⟩
            subst eb
            have p4 : p ∈ g4.tmp := by rw [t4]; exact ptmp
            have hv4 : H4 p = some (.lst vacc) := (k4.keep p _ hv' (fun z => (rel2.st.rt p z).2 ptmp) (fun z => rel2.st.ot p z ptmp)).1
            cases bb with
            | false =>
              refine iteF ⟨g4, wipeF fr4 tg.slots, S4, acc, vacc, kp'.trans k4, t4.trans tm, ?_, hv4, racc'.mono k4.mono, hgo'⟩
              have := rel4.wipe tg.slots
              rw [ew] at this
              exact this
            | true =>
              refine iteT ⟨g4, fr4, S4, rel4, ?_⟩
              dsimp only at hgo'
              show Aft X.K X.mg _ (rD X.K) g4 H4 σ2 (frzX (ev cf c.gl elt fr4 S4)) _
              cases q3 : frzX (ev cf c.gl elt fr4 S4) with
              | no => rw [q3] at hgo'; rw [← hgo'] at h1'; exact h1'.elim
              | ex e f s =>
                rw [q3] at hgo'
                rw [← hgo'] at h1'
                intro g5 H5 k0 d0 k5 rel5 t5 xr
                have tm5 : g5.tmp = p :: g1.tmp := t5.trans (t4.trans tm)
                have sub5 : ∀ a, a ∈ g1.tmp → a ∈ g5.tmp := fun a z => by rw [tm5]; exact List.mem_cons_of_mem _ z
                have kk := (kp'.trans k4).trans k5
                have rw5 := rel5.wipe tg.slots
                rw [ew] at rw5
                have kd : Keep g1 H1 { g5 with tmp := g1.tmp } H5 := ⟨kk.keep, fun a o e n1 n2 z => z, kk.tups, kk.pre⟩
                exact hz _ _ _ _ _ (h1' { g5 with tmp := g1.tmp } H5 k0 d0 kd (rel1.back (rw5.drop sub5) kd hcalm) rfl (xr.mono (mono_drop sub5)))
              | ok y fr5 S5 =>
                rw [q3] at hgo'
                intro g5 H5 yv k5 rel5 ⟨t5, ry⟩
                dsimp only at hgo'
                have hv5 : H5 p = some (.lst vacc) := (k5.keep p _ hv4 (fun z => (rel4.st.rt p z).2 p4) (fun z => rel4.st.ot p z p4)).1
                have p5 : p ∈ g5.tmp := by rw [t5]; exact p4
                by_cases hz : acc.length < sizeLine
                · rw [if_pos hz] at hgo'
                  refine ⟨vacc, hv5, by rw [← racc.length]; exact hz, ?_⟩
                  obtain ⟨m5, rel6⟩ := rel5.mutT (o := .lst (vacc ++ [yv])) p5 hv5
                  have kk := (kp'.trans k4).trans k5
                  refine ⟨g5, wipeF fr5 tg.slots, S5, acc ++ [y], vacc ++ [yv], ⟨fun a o e n1 n2 => ?_, kk.tmp, fun a xs e => m5.tups _ _ (kk.tups _ _ e), kk.pre⟩, t5.trans (t4.trans tm), ?_, upd_same, ((((racc'.mono k4.mono).mono k5.mono).mono m5).append (.one (ry.mono m5))), hgo'⟩
                  · obtain ⟨q, w1, w2⟩ := kk.keep a o e n1 n2
                    exact ⟨by rw [upd_ne (ne_of_none e hp)]; exact q, w1, w2⟩
                  · have := rel6.wipe tg.slots
                    rw [ew] at this
                    exact this
                · rw [if_neg hz] at hgo'; rw [← hgo'] at h1'; exact h1'.elim
      · rintro H2 ⟨g2, fr2, S2, acc, vacc, kp, tm, rl, hv, racc, hgo⟩
        rw [List.drop_length] at hgo
        have hgo' : RX.ok acc fr2 S2 = R0 := hgo
        rw [← hgo'] at h1'
        exact h1' g2 H2 (.ref p) kp (rel1.back rl kp hcalm) ⟨p, rfl, tm, ntmp, vacc, hv, racc⟩
  · rw [if_neg hcalm] at h1'; exact h1'.elim
theorem wk_comp (G : Good c X W cf) {elt : Xp} {tg : Tg} {it : Wk} {cs : Xs} : ∀ σ H Q, tV c X W cf (.comp elt tg it cs) σ H Q →
    tLc (tWk c X W cf it) (gT X tg) (tX X.K X.mg W rId (evC cf c.gl cs)) (tX X.K X.mg W (rD X.K) (fun fr S => frzX (ev cf c.gl elt fr S))) ((tg.own c.N).map (·.2)) σ H Q := fun σ H Q ⟨g, fr, S, rel, h⟩ => by
  rw [own_slots]
  refine ⟨g, fr, S, rel, (Aft.bind rW_tmp h).imp fun J H1 ⟨ds, fr1, S1, g1, k1, rel1, r1, t1, h1⟩ => wk_tail G rel1 r1.2 h1⟩
theorem se_comp (G : Good c X W cf) {elt : Xp} {tg : Tg} {it : Wk} {cs : Xs} {el t i : Expr} {fs : List Expr} {sc : Scope} (hok : blkC c.N c.sc sc (tg.own c.N) = true) (hp : pln i = true) (hi : PI X t i (tWk c X W cf it))
    (hg : ∀ (s : Shared) (H : Hp) (C : Addr) (cl : List (Str × Addr)) (fp : List Addr), BlkAt X s H (compEnvC sc cl C X.env) fp → PG (blkE X s H sc (compEnvC sc cl C X.env) fp) t (gT X tg))
    (ht : ∀ (s : Shared) (H : Hp) (C : Addr) (cl : List (Str × Addr)) (fp : List Addr), BlkAt X s H (compEnvC sc cl C X.env) fp → PTs (blkE X s H sc (compEnvC sc cl C X.env) fp) fs (tX X.K X.mg W rId (evC cf c.gl cs)))
    (he : ∀ (s : Shared) (H : Hp) (C : Addr) (cl : List (Str × Addr)) (fp : List Addr), BlkAt X s H (compEnvC sc cl C X.env) fp → PE (blkE X s H sc (compEnvC sc cl C X.env) fp) el (tX X.K X.mg W (rV X.K X.mg) (ev cf c.gl elt))) :
    PE X (.ListComp el [⟨t, i, fs, 0⟩] sc pos) (tV c X W cf (.comp elt tg it cs)) := by
  have hok' : BlkOk X.N X.env.scope sc (tg.own c.N) := by rw [G.N, G.sc]; exact blkOk_by hok
  exact (pe_lcE G.calm (by rw [G.N]; exact G.nd) hi hok' hg ht (fun s H C cl fp b => frzPE (he s H C cl fp b)) (pln_fold hp _)).weak (wk_comp G)
end
end Eng
end

section
namespace Eng
open PySem PySem.Spec PyProof.Rows L2
section
variable {K : PySem.W.Frag} {mg : Str → Option Value} {g : Gh} {H : Hp} {fr : Frame} {S : Store} {σ : L2.St}
theorem src_at {d : D} {x : V} {xs : List D} (rel : Rel K mg g fr S σ H) (r : RD K g H d x) (h : lstOf S d = some xs) : ∃ p, x = .ref p ∧
    ∀ g' H' fr' S' σ', Keep g H g' H' → Rel K mg g' fr' S' σ' H' → sameL d xs S' = true → ∃ vs, H' p = some (.lst vs) ∧ RDs K g' H' xs vs := by
  cases d with
  | lst ys =>
    cases h
    obtain ⟨p, vs, rfl, h1, h2, h3⟩ := r.tracked_lst
    exact ⟨p, rfl, fun g' H' fr' S' σ' k _ _ => ⟨vs, (k.keep p _ h1 (fun z => h2 (.inl z)) (fun z => h2 (.inr (.inl z)))).1, h3.mono k.mono⟩⟩
  | ref n =>
    obtain ⟨p, rfl, hp⟩ := r.of_ref
    refine ⟨p, rfl, fun g' H' fr' S' σ' k rel' s => ?_⟩
    have e : (match S'[n]? with | some (.lst xs) => some xs | _ => none : Option (List D)) = some xs := sameL_of s
    cases q : S'[n]? with
    | none => rw [q] at e; cases e
    | some cl =>
      rw [q] at e
      cases cl with
      | lst ys =>
        cases e
        exact rel'.st.cell n _ p q (k.pre n p hp)
      | _ => cases e
  | _ => cases h
theorem walk_listE {a : Addr} {n : Nat} : Walk (Itl K a) n (fun H => ∃ vs, vs.length = n ∧ SqL K H a vs) (fun i H x H' => H' = H ∧ ∀ vs, SqL K H a vs → vs[i]? = some x) :=
  ⟨fun i _ hi ⟨vs, e, q⟩ => ⟨vs, vs[i]'(by omega), q, by simp [show i < vs.length by omega]⟩, fun _ ⟨vs, e, q⟩ => ⟨vs, q, by omega⟩, fun _ _ _ _ _ _ y => ⟨y.1, y.2⟩⟩
theorem walk_zipE {a b : Addr} {n k l : Nat} (hn : n = min k l) : Walk (Itz K a b) n (fun H => (∃ vs, vs.length = k ∧ SqL K H a vs) ∧ ∃ us, us.length = l ∧ SqL K H b us)
    (fun i H v H' => ∃ T x z, v = .ref T ∧ H T = none ∧ H' = upd H T (.tup [x, z]) ∧ (∀ vs, SqL K H a vs → vs[i]? = some x) ∧ ∀ us, SqL K H b us → us[i]? = some z) := by
  subst hn
  refine ⟨fun i _ hi ⟨⟨xs, e1, q1⟩, ys, e2, q2⟩ => ?_, fun _ ⟨⟨xs, e1, q1⟩, ys, e2, q2⟩ => ⟨xs, ys, q1, q2, by omega⟩, fun i H v H' _ _ y => ?_⟩
  · have h1 : i < xs.length := by omega
    have h2 : i < ys.length := by omega
    exact ⟨xs, ys, xs[i], ys[i], q1, q2, by simp [h1], by simp [h2]⟩
  · obtain ⟨T, x, z, h1, h2, h3, h4, h5⟩ := y
    exact ⟨T, x, z, h1, h2, h3, h4, h5⟩
end
def WalksS (K : PySem.W.Frag) (mg : Str → Option Value) (J : It) (g0 : Gh) (H0 : Hp) (ds : List D) (gd : Store → Bool) : Prop := ∃ G Y, Walk J ds.length G Y ∧ (∀ g H fr S σ, Keep g0 H0 g H → Rel K mg g fr S σ H → gd S = true → G H) ∧
  ∀ i g H x H' fr S σ, Keep g0 H0 g H → Rel K mg g fr S σ H → gd S = true → i < ds.length → Y i H x H' → Grows H H' ∧ ∃ d, ds[i]? = some d ∧ RD K g H' d x
def rWS (K : PySem.W.Frag) (mg : Str → Option Value) : List Addr → Gh → Hp → (List D × (Store → Bool)) → It → Prop := fun t g H dp J => g.tmp = t ∧ WalksS K mg J g H dp.1 dp.2
abbrev tWs (c : SC) (X : Cx) (W : WX) (cf : CF) (w : Wk) : TI := tX X.K X.mg W (rWS X.K X.mg) (evS cf c.gl w)
section
variable {c : SC} {X : Cx} {W : WX} {cf : CF} {pos : Pos} {a b : Xp} {l r tge : Expr}
theorem sx_seq (ha : PE X l (tV c X W cf a)) : PI X tge l (tWs c X W cf (.seq a)) := by
  refine (pi_list (frzPE ha)).weak fun σ H R ⟨g, fr, S, rel, h⟩ => ⟨g, fr, S, rel, ?_⟩
  refine (Aft.bind rD_tmp h).imp fun x H1 ⟨d1, fr1, S1, g1, k1, rel1, r1, t1, h1⟩ => ?_
  have h2 : Aft X.K X.mg W (rWS X.K X.mg) g1 H1 σ (match lstOf S1 d1 with | some xs => .ok (xs, sameL d1 xs) fr1 S1 | none => .no) R := h1
  cases e : lstOf S1 d1 with
  | none => rw [e] at h2; exact h2.elim
  | some xs =>
    rw [e] at h2
    obtain ⟨p, rfl, hp⟩ := src_at rel1 r1.2 e
    obtain ⟨vs, e1, e2⟩ := hp g1 H1 fr1 S1 _ Keep.refl rel1 (sameL_t e)
    refine ⟨p, rfl, ⟨vs, SqL.of e1⟩, h2 g1 H1 _ Keep.refl rel1 ⟨rfl, _, _, walk_listE, fun g' H' fr' S' σ' k rel' s => ?_, fun i g' H' x H2 fr' S' σ' k rel' s hi y => ?_⟩⟩
    · obtain ⟨us, w1, w2⟩ := hp g' H' fr' S' σ' k rel' s
      exact ⟨us, w2.length.symm, SqL.of w1⟩
    · obtain ⟨us, w1, w2⟩ := hp g' H' fr' S' σ' k rel' s
      obtain ⟨rfl, y2⟩ := y
      obtain ⟨d, e3, e4⟩ := w2.getV (y2 us (SqL.of w1))
      exact ⟨Grows.refl, d, e3, e4⟩
theorem sx_zip (G : Good c X W cf) {p : Pos} {elts : List Expr} {kk : Nat} {tp : Pos} (hr : glB c "zip" = true) (ha : PE X l (tV c X W cf a)) (hb : PE X r (tV c X W cf b)) (hp : pln l = true) (hq : pln r = true) :
    PI X (.Tuple elts kk tp) (.Call (.Name "zip" p) [l, r] [] pos) (tWs c X W cf (.zip a b)) := by
  obtain ⟨z1, z2⟩ := G.glob hr
  have s2 : starEach [r] X.env = [(false, eval r X.env)] := pln_star hq _
  refine (RZ.pi_zipA z1 (G.blt _ (by decide +kernel)) (pa_cons (frzPE ha) (pa_cons (frzPE hb) pa_nil (pln_star hq _)) (pln_star hp _)) (pln_star hp _) (by rw [s2]; rfl)).weak fun σ H R ⟨g, fr, S, rel, h⟩ => ⟨g, fr, S, rel, ?_⟩
  refine (Aft.bind rD_tmp h).imp fun x H1 ⟨d1, fr1, S1, g1, k1, rel1, r1, t1, h1⟩ => ⟨g1, fr1, S1, rel1, ?_⟩
  refine (Aft.bind rD_tmp h1).imp fun y H2 ⟨d2, fr2, S2, g2, k2, rel2, r2, t2, h2⟩ => ?_
  have r1' := r1.2.mono k2.mono
  have h3 : Aft X.K X.mg W (rWS X.K X.mg) g2 H2 σ (match lstOf S2 d1, lstOf S2 d2 with
    | some xs, some ys => .ok (zipD xs ys, fun S => sameL d1 xs S && sameL d2 ys S) fr2 S2 | _, _ => .no) R := h2
  cases e1 : lstOf S2 d1 with
  | none => rw [e1] at h3; exact h3.elim
  | some xs =>
    cases e2 : lstOf S2 d2 with
    | none => rw [e1, e2] at h3; exact h3.elim
    | some ys =>
      rw [e1, e2] at h3
      obtain ⟨q1, rfl, p1⟩ := src_at rel2 r1' e1
      obtain ⟨q2, rfl, p2⟩ := src_at rel2 r2.2 e2
      obtain ⟨vs, y1, y2⟩ := p1 g2 H2 fr2 S2 _ Keep.refl rel2 (sameL_t e1)
      obtain ⟨us, w1, w2⟩ := p2 g2 H2 fr2 S2 _ Keep.refl rel2 (sameL_t e2)
      refine ⟨q1, q2, vs, us, rfl, .inl ⟨SqL.of y1, SqL.of w1, h3 g2 H2 _ Keep.refl rel2 ⟨rfl, _, _, walk_zipE (zip_len xs ys), fun g' H' fr' S' σ' k rel' s => ?_, fun i g' H' x H2 fr' S' σ' k rel' s hi y => ?_⟩⟩⟩
      · obtain ⟨s1, s2⟩ := andJ (show (sameL d1 xs S' && sameL d2 ys S') = true from s)
        obtain ⟨vs', y1', y2'⟩ := p1 g' H' fr' S' σ' k rel' s1
        obtain ⟨us', w1', w2'⟩ := p2 g' H' fr' S' σ' k rel' s2
        exact ⟨⟨vs', y2'.length.symm, SqL.of y1'⟩, us', w2'.length.symm, SqL.of w1'⟩
      · obtain ⟨s1, s2⟩ := andJ (show (sameL d1 xs S' && sameL d2 ys S') = true from s)
        obtain ⟨vs', y1', y2'⟩ := p1 g' H' fr' S' σ' k rel' s1
        obtain ⟨us', w1', w2'⟩ := p2 g' H' fr' S' σ' k rel' s2
        obtain ⟨T, u, v, rfl, hT, rfl, f1, f2⟩ := y
        obtain ⟨d3, q3, q4⟩ := y2'.getV (f1 vs' (SqL.of y1'))
        obtain ⟨d4, q5, q6⟩ := w2'.getV (f2 us' (SqL.of w1'))
        exact ⟨Grows.fresh hT, _, zip_at q3 q5, pair_rel hT q4 q6⟩
end
end Eng
end

section
namespace Eng
open PySem PySem.Spec PyProof.Rows L2
end Eng
end

section
namespace Eng
open PySem PySem.Spec PyProof.Rows L2
section
variable {c : SC} {X : Cx} {W : WX} {cf : CF} {pos : Pos} {a b d : Xp} {l r z : Expr}
theorem walks_rngN {K : PySem.W.Frag} {g : Gh} {H : Hp} (lo hi : Int) : WalksD K (Itc lo (-1) (lo - hi).toNat) g H (rgN lo hi) := by
  have hl : (rgN lo hi).length = (lo - hi).toNat := by unfold rgN; rw [List.length_map, List.length_range]
  refine ⟨_, _, by rw [hl]; exact walk_rangeC, fun _ _ _ => trivial, fun i g' H' x H2 k hi' y => ?_⟩
  obtain ⟨rfl, rfl⟩ := y
  refine ⟨Grows.refl, .int (lo - (i : Nat)), ?_, ?_⟩
  · unfold rgN
    rw [List.getElem?_map, List.getElem?_range (by rw [hl] at hi'; exact hi')]
    rfl
  · have e : lo + (i : Nat) * (-1) = lo - (i : Nat) := by omega
    show RD K g' H2 (D.int (lo - (i : Nat))) (V.int (lo + (i : Nat) * (-1)))
    rw [e]; exact .int _
theorem sw_rng3 (G : Good c X W cf) {p : Pos} {tge : Expr} (hr : glB c "range" = true) (ha : PE X l (tV c X W cf a)) (hb : PE X r (tV c X W cf b)) (hd : PE X z (tV c X W cf d)) (hp : pln l = true) (hq : pln r = true) (hz : pln z = true) :
    PI X tge (.Call (.Name "range" p) [l, r, z] [] pos) (tWk c X W cf (.rng3 a b d)) := by
  obtain ⟨z1, z2⟩ := G.glob hr
  have s3 : starEach [z] X.env = [(false, eval z X.env)] := pln_star hz _
  have s2 : starEach [r, z] X.env = [(false, eval r X.env), (false, eval z X.env)] := by rw [pln_star hq, s3]
  refine (pi_range3 z1 (G.blt _ (by decide +kernel)) (pa_cons (frzPE ha) (pa_cons (frzPE hb) (pa_cons (frzPE hd) pa_nil (pln_star hz _)) (pln_star hq _)) (pln_star hp _)) (pln_star hp _) (by rw [s2]; rfl)).weak fun σ H R ⟨g, fr, S, rel, h⟩ => ⟨g, fr, S, rel, ?_⟩
  refine (Aft.bind rD_tmp h).imp fun x H1 ⟨d1, fr1, S1, g1, k1, rel1, r1, t1, h1⟩ => ⟨g1, fr1, S1, rel1, ?_⟩
  refine (Aft.bind rD_tmp h1).imp fun y H2 ⟨d2, fr2, S2, g2, k2, rel2, r2, t2, h2⟩ => ⟨g2, fr2, S2, rel2, ?_⟩
  refine (Aft.bind rD_tmp h2).imp fun w H3 ⟨d3, fr3, S3, g3, k3, rel3, r3, t3, h3⟩ => ?_
  cases d1 with
  | int i =>
    cases d2 with
    | int j =>
      cases d3 with
      | int k =>
        obtain rfl := RD.of_int r1.2
        obtain rfl := RD.of_int r2.2
        obtain rfl := RD.of_int r3.2
        have h3' : Aft X.K X.mg W (rW X.K) g3 H3 σ (if k = -1 ∧ rgOk i j = true then .ok (rgN i j) fr3 S3 else .no) R := h3
        by_cases hc : k = -1 ∧ rgOk i j = true
        · rw [if_pos hc] at h3'
          obtain ⟨rfl, hc⟩ := hc
          obtain ⟨b1, b2, b3, b4⟩ := rgOk_of hc
          exact ⟨i, j, -1, _, rfl, RgC.neg b1 b2 b3 b4, h3' g3 H3 _ Keep.refl rel3 ⟨rfl, walks_rngN i j⟩⟩
        · rw [if_neg hc] at h3'; exact h3'.elim
      | _ => exact h3.elim
    | _ => exact h3.elim
  | _ => exact h3.elim
end
end Eng
end

section
namespace Eng
open PySem PySem.Spec PyProof.Rows L2
end Eng
end

section
namespace Eng
open PySem PySem.Spec PyProof.Rows L2
end Eng
end

section
namespace Eng
open PySem PySem.Spec PyProof.Rows L2
def tCount (K : PySem.W.Frag) (td ty : TE) : TE := fun σ H Q => td σ H fun x H1 => (∃ a vs, x = .ref a ∧ SqL K H1 a vs) ∧ ty σ H1 fun y H2 => ∃ (xs : List PyData) (d : PyData), Dp K H2 x (.list xs) ∧ Dp K H2 y d ∧
  PyData.plainAll xs = true ∧ d.plain = true ∧ min (PyData.depthAll xs) d.depth ≤ 64 ∧ Q (.int ((xs.countP fun y => PyData.eqv y d : Nat) : Int)) H2
section
variable {X : Cx} {o e : Expr} {td ty : TE} {apos cpos : Pos}
theorem pe_count (hu : X.A.units + 66 < cLine) (ho : PE X o td) (he : PE X e ty) (m : M1 X o "count" apos e cpos) : PE X (.Call (.Attribute o "count" apos) [e] [] cpos) (tCount X.K td ty) := by
  refine ⟨fun pins s σ H Q I h => ?_⟩
  refine wpAny_Call_method m.base m.few m.line PySem.F.plainAttrs_list PySem.F.slot_list_count PySem.F.type_list_count (thn (ho.run pins s σ H _ I h) fun u s1 ⟨x, H1, I1, rx, ⟨a, vs, ex, hq⟩, q1⟩ => ?_)
  subst ex
  obtain rfl : u = Value.ref a := rx
  obtain ⟨its, rv, ⟨ob, n, hob, hc, hdn, hdt⟩, hlen⟩ := I1.list hq
  refine ⟨⟨ob, hob, hc⟩, fun b e => by cases e; exact ⟨ob, hob, hdn⟩, ?_⟩
  rw [m.trees]
  refine Calls.callWith_builtin rfl (Calls.evalArgs_plain (Calls.spliced_cons (thn (he.run pins s1 σ H1 _ I1 q1) fun iv s2 ⟨y, H2, I2, ry, xs, d, dl, da, pl, pd, dep, q2⟩ => Calls.spliced_nil ?_)))
  obtain ⟨as, ra⟩ := Dp.reads I2 _ _ (Value.ref a) dl rfl
  obtain ⟨bs, rb⟩ := Dp.reads I2 _ _ _ da ry
  cases ra with
  | list h1 h2 h3 h4 => exact SeqAt.count_list_data ⟨_, h1, h2, _, h3⟩ h4 rb pl pd (by omega) ⟨.int _, H2, I2.tok _, ⟨_, rfl⟩, q2⟩
end
end Eng
end

section
namespace Eng
open PySem PySem.Spec PyProof.Rows L2

theorem noSup_base {o : Expr} (h : noSup o = true) (m : Str) (env : Env) : attributeBase o m env (eval o env) = eval o env := by
  cases o with
  | Call f as ks p => cases f with
    | Name x q => cases as with
      | nil => cases ks with
        | nil => cases h
        | cons _ _ => rfl
      | cons _ _ => rfl
    | _ => rfl
  | _ => rfl
theorem meth_form {o : Expr} {m : Str} {ap p : Pos} {es : List Expr} {env : Env} (hs : noSup o = true) (hl : (ap.endLine == p.line) = true) (hf : methodCallForm (es.length + 0) (backTo p (starEach es env)) (backToKw p (keywordEach [] env)) = true) :
    eval (.Call (.Attribute o m ap) es [] p) env = (do
      let ov ← eval o env
      standAt ap.atName
      let (f, first) ← holding [ov] (getMethod ov m (do return (← importBound o env).getD true))
      callWith p f first (backTo p (starEach es env)) (backToKw p (keywordEach [] env))) := by
  show (attributeBase o m env (eval o env) >>= fun ov => standAt ap.atName >>= fun _ => methodCall o m ap p env ov (es.length + ([] : List Keyword).length) (backTo p (starEach es env)) (backToKw p (keywordEach [] env))) = _
  rw [noSup_base hs]
  unfold methodCall
  have e : es.length + ([] : List Keyword).length = es.length + 0 := rfl
  rw [e, hf]
  unfold calleeOf methodCallPos
  rw [hl]
  rfl
section
variable {c : SC} {X : Cx} {W : WX} {cf : CF} {pos : Pos} {a b d : Xp} {l r z : Expr}
theorem fldGet_rel {K : PySem.W.Frag} {g : Gh} {H : Hp} {f : Str} : ∀ {ns : List Str} {ds : List D} {vs : List V} {d : D}, RDs K g H ds vs → fldGet ns ds f = some d → ∃ v, (ns.zip vs).lookup f = some v ∧ RD K g H d v
  | [], _, _, _, _, e => by cases e
  | _ :: _, _, _, _, .nil, e => by cases e
  | n :: ns, d :: ds, v :: vs, d', .cons h t, e => by
    have e' : (if n = f then some d else fldGet ns ds f) = some d' := e
    rw [List.zip_cons_cons, List.lookup_cons]
    by_cases q : n = f
    · rw [if_pos q] at e'
      cases e'
      subst q
      exact ⟨v, by simp, h⟩
    · rw [if_neg q] at e'
      have : (f == n) = false := by simpa using fun z : f = n => q z.symm
      rw [this]
      exact fldGet_rel t e'
def Args (c : SC) (X : Cx) (W : WX) (cf : CF) : Xs → List Expr → Prop
  | .nil, [] => True
  | .cons m ms, x :: xs => PE X x (tV c X W cf m) ∧ Args c X W cf ms xs
  | _, _ => False
end
end Eng
end

section
namespace Eng
open PySem PySem.Spec PyProof.Rows L2
theorem pk_weak {X : Cx} {kws : List Keyword} {t t' : TA} (h : L2.PK X kws t) (i : ∀ σ H Q, t' σ H Q → t σ H Q) : L2.PK X kws t' := ⟨fun pos pins s σ H Q I q => h.run pos pins s σ H Q I (i σ H Q q)⟩
section
variable {c : SC} {X : Cx} {W : WX} {cf : CF} {pos : Pos} {a b d : Xp} {l r z : Expr}
theorem sk_nil : L2.PK X [] (tAs c X W cf .nil) := pk_weak pk_nil fun σ H Q ⟨g, fr, S, rel, h⟩ => h g H [] Keep.refl rel ⟨rfl, .nil⟩
theorem sk_cons {ms : Xs} {kws : List Keyword} {k : Option Str} {kp : Pos} (ha : PE X l (tV c X W cf a)) (hb : L2.PK X kws (tAs c X W cf ms)) : L2.PK X (⟨k, l, kp⟩ :: kws) (tAs c X W cf (.cons a ms)) := by
  refine pk_weak (pk_cons (frzPE ha) hb) fun σ H Q ⟨g, fr, S, rel, h⟩ => ⟨g, fr, S, rel, ?_⟩
  refine (Aft.bind rD_tmp h).imp fun x H1 ⟨d1, fr1, S1, g1, k1, rel1, r1, t1, h1⟩ => ⟨g1, fr1, S1, rel1, ?_⟩
  refine (Aft.bind rDs_tmp h1).imp fun y H2 ⟨d2, fr2, S2, g2, k2, rel2, r2, t2, h2⟩ => ?_
  exact h2 g2 H2 _ Keep.refl rel2 ⟨rfl, .cons (r1.2.mono k2.mono) r2.2⟩
end
end Eng
end

section
namespace Eng
open PySem PySem.Spec PyProof.Rows L2
theorem xi_ok {prog : Program} {w : World} {K : PySem.W.Frag} {mg : Str → Option Value} {base : Heap} {x qual nd f sf by_ : Str} {params : Arguments} {body : List Stmt} {scope : Scope} {fI C Nd : Addr} {fd : FuncData} {N : List Str}
    (F : FunD K x qual params body scope [] [] fI fd) (S : FnScope N [sf, by_] scope) (hb : xiB N scope nd f sf by_ body = true) (hm : mg nd = some (.ref Nd)) (T : NInit K Nd) (O : OexC K C) (hno : PySem.W.findIn K (.ref C) f = some none) :
    FnOk prog w K mg base C8.CX0 1 fI fd [sf, by_] (spXi C f) := by
  refine F.ok S (fun vs H Q E h => by obtain ⟨a, v, rfl, _⟩ := h; rfl) fun cdv A outer s H vs Q E hr h => ?_
  obtain ⟨a, v, rfl, ha, h⟩ := h
  unfold xiB at hb
  split at hb
  · rename_i a1 p1 m1 p2 b1 p3 j1 j2 p4 p5 p6 c1 p7 g1 p8 d1 p9 p10
    simp only [Bool.and_eq_true, decide_eq_true_eq, Bool.not_eq_true'] at hb
    obtain ⟨⟨⟨⟨⟨⟨⟨⟨⟨⟨⟨⟨⟨⟨⟨rfl, rfl⟩, rfl⟩, rfl⟩, rfl⟩, rfl⟩, rfl⟩, h1⟩, h2⟩, h3⟩, h4⟩, h5⟩, h6⟩, h7⟩, h8⟩, h9⟩ := hb
    let X : Cx := cxOf C8.CX0 prog w K mg base [c1, d1] qual scope fI cdv A outer s H E
    have v0 : PE X (.Name c1 p3) (tVar 0) := pe_var (by rfl) (.inl h2) h5 h6
    have v0' : PE X (.Name c1 p7) (tVar 0) := pe_var (by rfl) (.inl h2) h5 h6
    have v1 : PE X (.Name d1 p9) (tVar 1) := pe_var (by rfl) (.inl h3) h7 h8
    refine ⟨_, pss_cons (ps_expr (pe_ninit (X := X) (Nd := Nd) h1 hm h4 T (pa_cons v0 (pa_cons pe_str pa_nil rfl) rfl) (meth_form (o := .Name a1 p1) (m := "__init__") (ap := p2) (p := p5) (es := [.Name c1 p3, .Constant (.str j1) j2 p4]) (env := X.env) rfl (by simpa using h9) (by rfl)) rfl rfl) rfl) (pss_one (ps_ost v0' v1 rfl)), ?_⟩
    refine ⟨_, rfl, a, C, [_], rfl, by show 1 ≤ 1000; omega, O, ha, ?_⟩
    exact ⟨_, rfl, _, rfl, a, C, rfl, O, hno, .inl ⟨ha, fun dx n ne => h dx n ne⟩⟩
  · cases hb
end Eng
end

section
namespace Eng
open PySem PySem.Spec PyProof.Rows L2

theorem exF_ok {P : Program} {w : World} {H : Hp} {h : Heap} {a : Addr} {cls : Value} {d : Option Addr} {oe : Obj} {vs : Array Value} (e : h.get? a = some oe) (z : Zc cls d oe) (q : oe.data = .fields vs) : ObjOk P w H h a (ExF cls d a) :=
  ⟨⟨oe, vs, e, z, q⟩, ⟨oe, e⟩, fun _ _ ⟨o, v, q1, r⟩ k => ⟨o, v, k o q1, r⟩⟩
theorem exF_at {P : Program} {w : World} {H : Hp} {h : Heap} {a : Addr} {cls : Value} {d : Option Addr} (ok : HOk P w H h) (e : H a = some (ExF cls d a)) : ∃ (oe : Obj) (vs : Array Value), h.get? a = some oe ∧ Zc cls d oe ∧ oe.data = .fields vs :=
  (show ObjOk P w H h a (ExF cls d a) from ok a _ e).1
section
variable {X : Cx} {e : Expr} {t : L2.St → Hp → XK → Prop}
theorem pe_of_pmk (hm : PMk X e t) : PE X e (fun σ H Q => t σ H fun cls d H' => ∀ a, H' a = none → Q (.ref a) (upd H' a (ExF cls d a))) := by
  refine ⟨fun pins s σ H Q I h => wpAny_mono (hm pins s σ H _ I h) (fun u s' z => ?_) fun _ _ z => z⟩
  obtain ⟨a, oe, vs, sI, H', cls, d, rfl, J, k, hne, ha, hz, hd, h1, na, os, ag, r, q⟩ := z
  have I2 : Inv X pins σ (upd H' a (ExF cls d a)) { sI with heap := s'.heap, toks := s'.toks } := J.laidN k hne na (exF_ok ha hz hd)
  exact ⟨.ref a, _, ⟨I2.ok, os.trans I2.os, ag, I2.base, I2.loc, I2.cell, I2.free, I2.freeC, I2.pin, I2.hok, I2.len⟩, rfl, q a na⟩
end
section
variable {c : SC} {X : Cx} {W : WX} {cf : CF} {pos : Pos} {a b : Xp} {l r : Expr}
theorem new_cell {g : Gh} {H : Hp} {fr : Frame} {S : Store} {σ : L2.St} {Q : VK} {cl : Cell} {o : HO} {p : Addr} (h : Aft X.K X.mg W (rV X.K X.mg) g H σ (.ok (.fz (.ref S.length)) fr (S ++ [cl])) Q) (rel : Rel X.K X.mg g fr S σ H) (hp : H p = none)
    (hc : CellR X.K X.mg (g.push p) (upd H p o) p cl) : Q (.ref p) (upd H p o) := by
  have na : p ∉ g.tmp := fun z => rel.st.fresh hp (.inr (.inr z))
  have rel' := (rel.push (o := o) hp)
  refine h ⟨g.rho ++ [p], g.own, g.tmp⟩ _ (.ref p) (keep_share (g := g.push p) (a := p) (t := g.tmp) rfl na rfl (keep_push hp)) (rel'.share (t := g.tmp) rfl na hc) ⟨rfl, .ref ?_⟩
  show (g.rho ++ [p])[S.length]? = some p
  rw [List.getElem?_append_right (by rw [rel.st.len]; exact Nat.le_refl _), rel.st.len]
  simp
theorem se_mkx (G : Good c X W cf) {x : Str} {p : Pos} (hx : c.xs.contains x = true) (hg : glB c x = true) (ha : PE X l (tV c X W cf a)) (hp : pln l = true) : PE X (.Call (.Name x p) [l] [] pos) (tV c X W cf (.mkx x a)) := by
  obtain ⟨C, h1, h2, h3, h4, h5⟩ := G.exc x hx
  obtain ⟨g1, g2⟩ := G.glob hg
  refine (pe_of_pmk (SkE.pmk_own1 PySem.F.excBase_ValueError h2 h1 h3 (raises_own h4 h5) g1 (frzPE ha) (pln_star hp _) g2)).weak fun σ H Q ⟨g, fr, S, rel, h⟩ => ⟨g, fr, S, rel, ?_⟩
  refine (Aft.bind rD_tmp h).imp fun v H1 ⟨d1, fr1, S1, g1, k1, rel1, r1, t1, h1'⟩ q na => ?_
  exact new_cell h1' rel1 na ⟨C, none, h1, upd_same, .inl ⟨rfl, rfl, rfl⟩⟩
theorem se_mkxf (G : Good c X W cf) (tp : c.top = true) {x f : Str} {p : Pos} (hx : c.xf.contains (x, f) = true) (hg : glB c x = true) (ha : PE X l (tV c X W cf a)) (hp : pln l = true) : PE X (.Call (.Name x p) [l] [] pos) (tV c X W cf (.mkxf x f a)) := by
  obtain ⟨C, fI, fd, ps, k, h1, T, iC, tI, F, hr, hb⟩ := G.xf tp x f hx
  obtain ⟨g1, g2⟩ := G.glob hg
  refine (pe_of_pmk (pmk_oex (CX := C8.CX0) T iC tI F hr hb .nil pass0 g1 h1 (pa_cons (frzPE ha) pa_nil (pln_star hp _)) g2 (pln_star hp _) rfl)).weak fun σ H Q ⟨g, fr, S, rel, h⟩ => ?_
  refine ⟨g, fr, S, rel, (Aft.bind rD_tmp h).imp fun v H1 ⟨d, fr1, S1, g1, k1, rel1, r1, t1, h2⟩ => ⟨by show 1 ≤ 1000; omega, fun a na => ⟨a, v, rfl, upd_same, fun dx nd ne => ?_⟩⟩⟩
  have nd2 : H1 dx = none := by rw [upd_ne ne] at nd; exact nd
  refine ⟨rfl, dx, [(f, v)], upd_same, (upd_ne ne).trans upd_same, nd2, ?_⟩
  have eh : upd (L2.del (upd (upd (upd H1 a (exo a C none)) dx (exd dx [(f, v)])) a (exo a C (some dx))) a) dx (.xd [(f, v)]) = upd H1 dx (.xd [(f, v)]) := by
    funext b
    by_cases hbd : b = dx
    · rw [hbd, upd_same, upd_same]
    · rw [upd_ne hbd, upd_ne hbd]
      by_cases hba : b = a
      · rw [hba, L2.del_same, na]
      · rw [L2.del_ne hba, upd_ne hba, upd_ne hbd, upd_ne hba]
  rw [eh]
  intro q nq
  have gr : Grows H1 (upd H1 dx (.xd [(f, v)])) := Grows.fresh nd2
  have qd : dx ≠ q := fun z => by rw [← z, upd_same] at nq; cases nq
  have ndx : ¬ (g1.push q).av dx := fun z => by
    rcases z with z | z | z
    · exact rel1.st.fresh nd2 (.inl z)
    · exact rel1.st.fresh nd2 (.inr (.inl z))
    · rcases List.mem_cons.mp z with z | z
      · exact qd z
      · exact rel1.st.fresh nd2 (.inr (.inr z))
  exact new_cell (Aft.shift gr.keep rfl h2) (rel1.grows gr) nq ⟨C, some dx, h1, upd_same, .inr ⟨dx, [v], rfl, (upd_ne qd).trans upd_same, ndx, rfl, .one ((r1.2.mono gr.mono).mono (mono_push nq))⟩⟩
end
section
variable {K : PySem.W.Frag} {mg : Str → Option Value} {g : Gh} {S : Store} {H : Hp} {n : Nat} {cl : Str} {ns : List Str} {ds : List D} {x : V}
theorem exn_at (st : StR K mg g S H) (r : RD K g H (.ref n) x) (e : S[n]? = some (.exn cl ns ds)) :
    ∃ (p C : Addr) (d : Option Addr), x = .ref p ∧ mg cl = some (.ref C) ∧ H p = some (ExF (.ref C) d p) ∧ ((ns = [] ∧ ds = [] ∧ d = none) ∨ ∃ (dx : Addr) (vs : List V), d = some dx ∧ H dx = some (.xd (ns.zip vs)) ∧ RDs K g H ds vs) := by
  obtain ⟨p, rfl, hp⟩ := r.of_ref
  obtain ⟨C, d, h1, h2, h3⟩ := st.cell n _ p e hp
  refine ⟨p, C, d, rfl, h1, h2, ?_⟩
  rcases h3 with h3 | ⟨dx, vs, e1, e2, _, _, e3⟩
  · exact .inl h3
  · exact .inr ⟨dx, vs, e1, e2, e3⟩
end
theorem exn_inst {X : Cx} {pins : List (Addr × Obj)} {σ : L2.St} {H : Hp} {s : Shared} {p C : Addr} {d : Option Addr} (I : Inv X pins σ H s) (hp : H p = some (ExF (.ref C) d p)) (hd : d = none ∨ ∃ (dx : Addr) (fs : List (Str × V)), d = some dx ∧ H dx = some (.xd fs)) :
    ∃ (oe : Obj) (od : Option Obj), PySem.W.InstAt s.heap p oe C od ∧ ∀ (dx : Addr) (fs : List (Str × V)), d = some dx → H dx = some (.xd fs) → ∃ (o : Obj), od = some o ∧ ∀ (f : Str) (v : V), fs.lookup f = some v → ∃ u, PySem.W.lookIn f o = some (some u) ∧ RelV v u := by
  obtain ⟨oe, vs, hget, hz, hv⟩ := exF_at I.hok hp
  rcases hd with rfl | ⟨dx, fs, rfl, ed⟩
  · refine ⟨oe, none, ?_, fun _ _ z => nomatch z⟩
    obtain ⟨oc, od, oda, osl⟩ := oe
    obtain ⟨h1, h2⟩ := hz
    dsimp only at h1 h2 hv
    subst h1 h2 hv
    exact ⟨hget, rfl, rfl, trivial⟩
  · obtain ⟨mA, hns, hr⟩ : ObjOk X.prog X.w H s.heap dx (.xd fs) := I.hok dx _ ed
    obtain ⟨od, ho, hl⟩ := lookIn_ns hns
    refine ⟨oe, some od, ⟨hget, hz.1, by unfold PySem.W.notCls; rw [hv] <;> rfl, by rw [hz.2]; exact ho⟩, fun dx' fs' e1 e2 => ?_⟩
    cases e1
    rw [ed] at e2
    cases e2
    refine ⟨od, rfl, fun f v hf => ?_⟩
    obtain ⟨u, hu, ru⟩ := RelO.some_of (v := v) (o := mA f) (by rw [← hf]; exact hr f)
    exact ⟨u, by rw [hl, hu], ru⟩
def rIsX (K : PySem.W.Frag) : List V → Hp → VK → Prop := fun xs H Q => ∃ (a D : Addr) (d : Option Addr) (c : V) (cv : Value) (b : Bool), xs = [.ref a, c] ∧ H a = some (ExF (.ref D) d a) ∧ (d = none ∨ ∃ (dx : Addr) (fs : List (Str × V)), d = some dx ∧ H dx = some (.xd fs)) ∧ ExcC K D ∧ (∀ u, RelV c u → u = cv) ∧ PySem.W.kitOne K (.ref D) cv = some b ∧ Q (.bl b) H
theorem call_isX {X : Cx} : CallR X (.builtin "isinstance") (rIsX X.K) := by
  intro pins s σ H xs us Q I r h
  obtain ⟨a, D, d, c, cv, b, rfl, ha, hd, T, hcv, e, q⟩ := h
  obtain ⟨u1, u2, rfl, r1, r2⟩ := vals2 r
  obtain rfl : u1 = Value.ref a := r1
  have e2 := hcv _ r2
  subst e2
  obtain ⟨oe, od, J, _⟩ := exn_inst I ha hd
  have hcl : (PySem.W.clsIn X.K D).isSome = true := by obtain ⟨cd, hc, _⟩ := PySem.W.any_some T.hd; rw [hc]; rfl
  exact PySem.W.kia_one (PySem.W.kitx_exc hcl T.hg T.hk T.hs T.ha T.hn T.ht T.hm) I.kIn J e (fun z => nomatch z) fun tk => ⟨.bl b, H, I.tok tk, rfl, q⟩
theorem isX_at {S : Store} {yes no : List Str} {x : D} {b : Bool} (h : isX S yes no x = some b) : ∃ n k ns ds, x = .ref n ∧ S[n]? = some (.exn k ns ds) ∧ ((b = true ∧ yes.contains k = true) ∨ (b = false ∧ no.contains k = true)) := by
  cases x with
  | ref n =>
    unfold isX at h
    dsimp only at h
    cases q : S[n]? with
    | none => rw [q] at h; cases h
    | some ce =>
      rw [q] at h
      cases ce with
      | exn k ns ds =>
        have h' : (if yes.contains k then some true else if no.contains k then some false else none) = some b := h
        by_cases h1 : yes.contains k = true
        · rw [if_pos h1] at h'
          cases h'
          exact ⟨n, k, ns, ds, rfl, q, .inl ⟨rfl, h1⟩⟩
        · rw [if_neg h1] at h'
          by_cases h2 : no.contains k = true
          · rw [if_pos h2] at h'
            cases h'
            exact ⟨n, k, ns, ds, rfl, q, .inr ⟨rfl, h2⟩⟩
          · rw [if_neg h2] at h'; cases h'
      | _ => cases h
  | _ => cases h
section
variable {c : SC} {X : Cx} {W : WX} {cf : CF} {pos : Pos} {a b : Xp} {l r : Expr}
theorem se_isx (G : Good c X W cf) {cl : Str} {yes no : List Str} {p p2 : Pos} (hg : glB c "isinstance" = true) (hz : glB c cl = true) (hne : yes.isEmpty = false) (hy : (yes.all fun k => decide (c.xz.xi k cl = some true)) = true) (hn : (no.all fun k => decide (c.xz.xi k cl = some false)) = true) (ha : PE X l (tV c X W cf a)) (hp : pln l = true) :
    PE X (.Call (.Name "isinstance" p) [l, .Name cl p2] [] pos) (tV c X W cf (.isx cl yes no a)) := by
  obtain ⟨g1, g2⟩ := G.glob hg
  obtain ⟨z1, z2⟩ := G.glob hz
  have ask : ∀ k t, (t = true ∧ yes.contains k = true) ∨ (t = false ∧ no.contains k = true) → XiOk X.K X.mg k cl t := fun k t h => by
    rcases h with ⟨rfl, h⟩ | ⟨rfl, h⟩
    · exact G.xi k cl true (of_decide_eq_true (List.all_eq_true.mp hy k (by simpa using h)))
    · exact G.xi k cl false (of_decide_eq_true (List.all_eq_true.mp hn k (by simpa using h)))
  have go : ∀ (cx : V) (cv : Value), (∀ u, RelV cx u → u = cv) → PE X (.Name cl p2) (tC cx) → (∀ k t, XiOk X.K X.mg k cl t → ∃ D, X.mg k = some (.ref D) ∧ ExcC X.K D ∧ PySem.W.kitOne X.K (.ref D) cv = some t) → PE X (.Call (.Name "isinstance" p) [l, .Name cl p2] [] pos) (tV c X W cf (.isx cl yes no a)) := by
    intro cx cv hcv hnm hk
    refine (pe_callB call_isX g1 (G.blt _ (by decide +kernel)) (by decide +kernel) (pa_cons (frzPE ha) (pa_cons hnm pa_nil rfl) (pln_star hp _)) (by decide +kernel) g2 (pln_star hp _) rfl).weak fun σ H Q ⟨g, fr, S, rel, h⟩ => ⟨g, fr, S, rel, ?_⟩
    refine (Aft.bind rD_tmp h).imp fun x H1 ⟨d1, fr1, S1, g1, k1, rel1, r1, t1, h1⟩ => ?_
    have h1' : Aft X.K X.mg W (rV X.K X.mg) g1 H1 σ (RX.lift ((isX S1 yes no d1).map fun r => Val.fz (.bl r)) fr1 S1) Q := h1
    cases e : isX S1 yes no d1 with
    | none => rw [e] at h1'; exact h1'.elim
    | some t =>
      rw [e] at h1'
      obtain ⟨n, k, ns, ds, rfl, e1, e2⟩ := isX_at e
      obtain ⟨q, C, d, rfl, hC, hq, hd⟩ := exn_at rel1.st r1.2 e1
      obtain ⟨D, hD, T, hkit⟩ := hk k t (ask k t e2)
      rw [hC] at hD
      cases hD
      refine ⟨q, C, d, cx, cv, t, rfl, hq, ?_, T, hcv, hkit, fin_old h1' rel1 (.bl _)⟩
      rcases hd with ⟨_, _, e⟩ | ⟨dx, vs, e, e3, _⟩
      · exact .inl e
      · exact .inr ⟨dx, _, e, e3⟩
  by_cases hv : cl = "ValueError"
  · subst hv
    refine go (.ty "ValueError") (.type "ValueError") (fun u h => h) (pe_bltn z1 (G.blt _ (by decide +kernel)) (by decide +kernel) rfl (by decide +kernel) z2) fun k t ⟨D, cv, h1, h2, h3, h4⟩ => ?_
    rcases h2 with ⟨C, h2, rfl⟩ | ⟨_, rfl⟩
    · rw [G.blt _ (by decide +kernel)] at h2; cases h2
    · exact ⟨D, h1, h3, h4⟩
  · cases hyl : yes with
    | nil => rw [hyl] at hne; cases hne
    | cons k0 ys =>
      obtain ⟨D0, cv0, _, h2, _⟩ := ask k0 true (.inl ⟨rfl, by rw [hyl]; simp⟩)
      rcases h2 with ⟨C, hm, rfl⟩ | ⟨z, _⟩
      · rw [← hyl]
        refine go (.ref C) (.ref C) (fun u h => h) (pe_glob z1 hm rfl z2) fun k t ⟨D, cv, h1, h2, h3, h4⟩ => ?_
        rcases h2 with ⟨C', h2, rfl⟩ | ⟨z, _⟩
        · rw [hm] at h2
          cases h2
          exact ⟨D, h1, h3, h4⟩
        · exact absurd z hv
      · exact absurd z hv
theorem xfldD_at {S : Store} {cl f : Str} {x d : D} (h : xfldD S cl f x = some d) : ∃ n ns ds, x = .ref n ∧ S[n]? = some (.exn cl ns ds) ∧ fldGet ns ds f = some d := by
  cases x with
  | ref n =>
    unfold xfldD at h
    dsimp only at h
    cases q : S[n]? with
    | none => rw [q] at h; cases h
    | some ce =>
      rw [q] at h
      cases ce with
      | exn k ns ds =>
        have h' : (if k = cl then fldGet ns ds f else none) = some d := h
        by_cases h1 : k = cl
        · rw [if_pos h1] at h'
          subst h1
          exact ⟨n, ns, ds, rfl, q, h'⟩
        · rw [if_neg h1] at h'; cases h'
      | _ => cases h
  | _ => cases h
def tXg (K : PySem.W.Frag) (f : Str) (te : TE) : TE := fun σ H Q => te σ H fun x H1 => ∃ (a C dx : Addr) (fs : List (Str × V)) (v : V), x = .ref a ∧ H1 a = some (ExF (.ref C) (some dx) a) ∧ H1 dx = some (.xd fs) ∧ ExFld K C f ∧ fs.lookup f = some v ∧ Q v H1
theorem pe_xg {e : Expr} {te : TE} {f : Str} (he : PE X e te) (hb : attributeBase e f X.env (eval e X.env) = eval e X.env) : PE X (.Attribute e f pos) (tXg X.K f te) := by
  refine ⟨fun pins s σ H Q I h => ?_⟩
  refine attr_of hb (thn (he.run pins s σ H _ I h) fun u s1 hh => ?_)
  obtain ⟨x, H1, I1, rx, a, C, dx, fs, v, ex, ha, ed, T, hv, q⟩ := hh
  subst ex
  obtain rfl : u = Value.ref a := rx
  obtain ⟨oe, od, J, look⟩ := exn_inst I1 ha (.inr ⟨dx, fs, rfl, ed⟩)
  obtain ⟨o, rfl, lk⟩ := look dx fs rfl ed
  obtain ⟨u, hu, ru⟩ := lk f v hv
  exact HandSPX.exc_get I1.kIn J T.ga T.gg T.ex (PySem.W.findObj_own T.hd T.no rfl hu) (handed_of ru) ⟨v, H1, I1.tok _, ru, q⟩
theorem se_xfld (G : Good c X W cf) {cl f : Str} (hs : noSup l = true) (hf : c.xz.xg.contains (cl, f) = true) (ha : PE X l (tV c X W cf a)) : PE X (.Attribute l f pos) (tV c X W cf (.xfld cl f a)) := by
  refine (pe_xg (frzPE ha) (noSup_base hs _ _)).weak fun σ H Q ⟨g, fr, S, rel, h⟩ => ⟨g, fr, S, rel, ?_⟩
  refine (Aft.bind rD_tmp h).imp fun x H1 ⟨d1, fr1, S1, g1, k1, rel1, r1, t1, h1⟩ => ?_
  have h1' : Aft X.K X.mg W (rV X.K X.mg) g1 H1 σ (RX.lift ((xfldD S1 cl f d1).map Val.fz) fr1 S1) Q := h1
  cases e : xfldD S1 cl f d1 with
  | none => rw [e] at h1'; exact h1'.elim
  | some d =>
    rw [e] at h1'
    obtain ⟨n, ns, ds, rfl, e1, e2⟩ := xfldD_at e
    obtain ⟨q, C, dd, rfl, hC, hq, hd⟩ := exn_at rel1.st r1.2 e1
    rcases hd with ⟨rfl, rfl, _⟩ | ⟨dx, vs, rfl, e3, e4⟩
    · cases e2
    · obtain ⟨C2, hC2, T⟩ := G.xg cl f hf
      rw [hC] at hC2; cases hC2
      obtain ⟨v, e5, e6⟩ := fldGet_rel e4 e2
      exact ⟨q, C, dx, _, v, rfl, hq, e3, T, e5, fin_old h1' rel1 e6⟩
def tIdx (K : PySem.W.Frag) (td ty : TE) : TE := fun σ H Q => td σ H fun x H1 => (∃ a vs, x = .ref a ∧ SqL K H1 a vs) ∧ ty σ H1 fun y H2 => ∃ (a : Addr) (bs : List Bool) (b : Bool), x = .ref a ∧ H2 a = some (.lst (bs.map V.bl)) ∧ y = .bl b ∧ b ∈ bs ∧ bs.length ≤ sizeLine ∧ Q (.int ((bs.idxOf b : Nat) : Int)) H2
theorem items_bools {A : Around} {s : Shared} {b : Bool} : ∀ {bs : List Bool} {us : List Value}, Vals (bs.map V.bl) us → SeqAt.ItemsEq A s us bs (.bool b) b := fun {bs us} r => by
  refine ⟨by rw [← r.length, List.length_map], fun j h1 h2 => ?_⟩
  obtain ⟨u, hu, ru⟩ := r.get (i := j) (x := .bl bs[j]) (by rw [List.getElem?_map, List.getElem?_eq_getElem h2]; rfl)
  have e1 : us[j] = u := by
    rw [List.getElem?_eq_getElem h1] at hu
    exact Option.some.inj hu
  have e2 : u = Value.bool bs[j] := ru
  rw [e1, e2]
  have := SeqAt.EqAt.bool_bool (A := A) (s := s) bs[j] b
  have e3 : (bs[j] == b) = decide (bs[j] = b) := by cases bs[j] <;> cases b <;> rfl
  rw [e3] at this
  exact this
theorem pe_idx {o e : Expr} {td ty : TE} {apos cpos : Pos} (ho : PE X o td) (he : PE X e ty) (m : M1 X o "index" apos e cpos) : PE X (.Call (.Attribute o "index" apos) [e] [] cpos) (tIdx X.K td ty) := by
  refine ⟨fun pins s σ H Q I h => ?_⟩
  refine wpAny_Call_method m.base m.few m.line PySem.F.plainAttrs_list PySem.F.slot_list_index PySem.F.type_list_index (thn (ho.run pins s σ H _ I h) fun u s1 ⟨x, H1, I1, rx, ⟨a, vs, ex, hq⟩, q1⟩ => ?_)
  subst ex
  obtain rfl : u = Value.ref a := rx
  obtain ⟨its, rv, ⟨ob, n, hob, hc, hdn, hdt⟩, hlen⟩ := I1.list hq
  refine ⟨⟨ob, hob, hc⟩, fun b e => by cases e; exact ⟨ob, hob, hdn⟩, ?_⟩
  rw [m.trees]
  refine Calls.callWith_builtin rfl (Calls.evalArgs_plain (Calls.spliced_cons (thn (he.run pins s1 σ H1 _ I1 q1) fun iv s2 ⟨y, H2, I2, ry, a2, bs, b, ea, hl, ey, hm, hz, q2⟩ => Calls.spliced_nil ?_)))
  cases ea
  subst ey
  obtain rfl : iv = Value.bool b := ry
  obtain ⟨its2, rv2, ⟨ob2, n2, hob2, hc2, hdn2, hdt2⟩, hlen2⟩ := I2.list (SqL.of (K := X.K) hl)
  exact SeqAt.call_list_index ⟨ob2, hob2, hc2, n2, hdt2⟩ (items_bools rv2) hz hm ⟨.int _, H2, I2.tok _, ⟨_, rfl⟩, q2⟩
theorem se_lidx (G : Good c X W cf) {i : Nat} {y : Str} {py ap : Pos} (hv : visB c i y = true) (hline : (ap.endLine == pos.line) = true) (hb : PE X r (tV c X W cf b)) (hp : pln r = true) :
    PE X (.Call (.Attribute (.Name y py) "index" ap) [r] [] pos) (tV c X W cf (.lidx i b)) := by
  obtain ⟨v1, v2, v3, v4⟩ := G.vis hv
  refine (pe_idx (pe_var v1 v2 v3 v4) (frzPE hb) ⟨rfl, by rw [pln_star hp]; rfl, hline, by rw [pln_star hp]; rfl⟩).weak fun σ H Q ⟨g, fr, S, rel, h⟩ => ?_
  have h' : Aft X.K X.mg W (rV X.K X.mg) g H σ (if lstP (peek i fr S) then (frzX (ev cf c.gl b fr S)).bind fun y fr S => RX.lift ((peek i fr S).bind fun d => idxD d y) fr S else .no) Q := h
  cases e : peek i fr S with
  | none => rw [e] at h'; exact h'.elim
  | some d =>
    rw [e] at h'
    cases d with
    | lst ds =>
      have h2 : Aft X.K X.mg W (rV X.K X.mg) g H σ ((frzX (ev cf c.gl b fr S)).bind fun y fr S => RX.lift ((peek i fr S).bind fun d => idxD d y) fr S) Q := h'
      obtain ⟨x, e1, a, vs, rfl, hH, _⟩ := peek_rel rel e
      refine ⟨.ref a, e1, ⟨a, vs, rfl, SqL.of hH⟩, g, fr, S, rel, ?_⟩
      refine (Aft.bind rD_tmp h2).imp fun y H1 ⟨d1, fr1, S1, g1, k1, rel1, r1, t1, h1⟩ => ?_
      cases e' : peek i fr1 S1 with
      | none => rw [e'] at h1; exact h1.elim
      | some d2 =>
        rw [e'] at h1
        obtain ⟨q', e2, v⟩ := peek_rel rel1 e'
        rw [e1] at e2; cases e2
        have h3 : Aft X.K X.mg W (rV X.K X.mg) g1 H1 σ (RX.lift (idxD d2 d1) fr1 S1) Q := h1
        cases d2 with
        | lst xs =>
          cases d1 with
          | bl t =>
            obtain rfl := RD.of_bl r1.2
            obtain ⟨a2, vs2, ea, hH2, rr⟩ := v
            cases ea
            have h4 : Aft X.K X.mg W (rV X.K X.mg) g1 H1 σ (RX.lift ((boolL xs).bind fun bs => if bs.contains t = true ∧ bs.length ≤ sizeLine then some (Val.fz (.int ((bs.idxOf t : Nat) : Int))) else none) fr1 S1) Q := h3
            cases eb : boolL xs with
            | none => rw [eb] at h4; exact h4.elim
            | some bs =>
              rw [eb] at h4
              obtain rfl := boolL_rel rr eb
              have h5 : Aft X.K X.mg W (rV X.K X.mg) g1 H1 σ (RX.lift (if bs.contains t = true ∧ bs.length ≤ sizeLine then some (Val.fz (.int ((bs.idxOf t : Nat) : Int))) else none) fr1 S1) Q := h4
              by_cases ht : bs.contains t = true ∧ bs.length ≤ sizeLine
              · rw [if_pos ht] at h5
                exact ⟨a, bs, t, rfl, hH2, rfl, by simpa using ht.1, ht.2, fin_old h5 rel1 (.int _)⟩
              · rw [if_neg ht] at h5; exact h5.elim
          | _ => exact h3.elim
        | _ => exact h3.elim
    | _ => exact h'.elim
end
end Eng
end

section
namespace Eng
open PySem PySem.Spec PyProof.Rows L2

theorem look_mem {α : Type} {x : Str} {v : α} : ∀ {l : List (Str × α)}, l.lookup x = some v → (x, v) ∈ l
  | [], h => nomatch h
  | (y, w) :: r, h => by
    rw [List.lookup_cons] at h
    split at h
    · rename_i e
      cases h
      have : x = y := by simpa using e
      rw [this]
      exact List.mem_cons_self
    · exact List.mem_cons_of_mem _ (look_mem h)
end Eng
end

section
namespace Eng
open PySem PySem.Spec PyProof.Rows L2

section
variable {K : PySem.W.Frag} {C : Addr}
end

end Eng
namespace Eng
open PySem PySem.Spec PyProof.Rows L2
end Eng
namespace Eng
open PySem PySem.Spec PyProof.Rows L2
end Eng
namespace Eng
open PySem PySem.Spec PyProof.Rows L2
end Eng
end

section
namespace Eng
open PySem PySem.Spec PyProof.Rows L2
end Eng
end

section
namespace Eng
open PySem PySem.Spec PyProof.Rows L2
theorem SK.ne (k : SK) : k.name ≠ "__name__" := by cases k <;> decide +kernel
end Eng
end

section
namespace PySem.SeqAt
open AutoSeq1 (wpAny_loadPart')
open MeetsSeq MeetsSeq2 MeetsSeq3
end PySem.SeqAt
namespace Eng
open PySem PySem.Spec PyProof.Rows L2
end Eng
end

section
namespace Eng
open PySem PySem.Spec PyProof.Rows L2
section
variable {c : SC} {X : Cx} {W : WX} {cf : CF} {pos : Pos} {a b d : Xp} {l r z : Expr}
theorem wk_cmpl (k : CK) {i : Nat} : ∀ σ H Q, tV c X W cf (.cmpl k i b) σ H Q → tOp (rCmp X W k) (tVar i) (tF c X W cf b) σ H Q := fun σ H Q ⟨g, fr, S, rel, h⟩ => by
  have h' : Aft X.K X.mg W (rV X.K X.mg) g H σ (if (peek i fr S).isSome then (frzX (ev cf c.gl b fr S)).bind fun y fr S => RX.lift ((peek i fr S).bind fun d => (cmpD k d (look S y)).map fun r => Val.fz (.bl r)) fr S else .no) Q := h
  cases e : peek i fr S with
  | none => rw [e] at h'; exact h'.elim
  | some d0 =>
    rw [e] at h'
    obtain ⟨q, e1, _⟩ := peek_rel rel e
    refine ⟨_, e1, g, fr, S, rel, ?_⟩
    refine (Aft.bind rD_tmp h').imp fun x H1 ⟨d1, fr1, S1, g1, k1, rel1, r1, t1, h1⟩ => ?_
    cases e' : peek i fr1 S1 with
    | none => rw [e'] at h1; exact h1.elim
    | some d2 =>
      rw [e'] at h1
      obtain ⟨q', e2, v⟩ := peek_rel rel1 e'
      rw [e1] at e2; cases e2
      exact ⟨g1, fr1, S1, σ, d2, look S1 d1, rel1, v, vw_look rel1.st r1.2, h1⟩
theorem se_cmpl (G : Good c X W cf) (k : CK) {i : Nat} {y : Str} {p : Pos} (hv : visB c i y = true) (hb : PE X r (tV c X W cf b)) (hp : pln r = true) : PE X (.Compare (.Name y p) [k.op] [r] pos) (tV c X W cf (.cmpl k i b)) := by
  obtain ⟨h1, h2, h3, h4⟩ := G.vis hv
  exact (pe_cmpR (op_cmp (W := W) (hu_of' G) k) (pe_var h1 h2 h3 h4) (frzPE hb) (pln_in hp _)).weak (wk_cmpl k)
theorem st_cmpl (G : Good c X W cf) (k : CK) {i : Nat} {y : Str} {p : Pos} (hv : visB c i y = true) (hb : PE X r (tV c X W cf b)) (hp : pln r = true) : PT X (.Compare (.Name y p) [k.op] [r] pos) (tTs c X W cf (.cmpl k i b)) := by
  obtain ⟨h1, h2, h3, h4⟩ := G.vis hv
  refine (pt_cmpR (op_cmp (W := W) (hu_of' G) k) (pe_var h1 h2 h3 h4) (frzPE hb) (pln_in hp _)).weak fun σ H Q ⟨g, fr, S, rel, h⟩ => ?_
  refine wk_cmpl k σ H _ ⟨g, fr, S, rel, bool_res (fun fr S v fr' S' e => ?_) h⟩
  have e0 : (if (peek i fr S).isSome then (frzX (ev cf c.gl b fr S)).bind fun y fr S => RX.lift ((peek i fr S).bind fun d => (cmpD k d (look S y)).map fun r => Val.fz (.bl r)) fr S else .no) = RX.ok v fr' S' := e
  by_cases ok : (peek i fr S).isSome = true
  · rw [if_pos ok] at e0
    obtain ⟨x, f1, s1, _, e1⟩ := bind_ok e0
    have e' := lift_ok e1
    cases q : peek i f1 s1 with
    | none => rw [q] at e'; cases e'
    | some d => rw [q] at e'; exact map_bl e'
  · rw [if_neg ok] at e0; cases e0
end
end Eng
end

section
namespace Eng
open PySem PySem.Spec PyProof.Rows L2
section
variable {K : PySem.W.Frag} {mg : Str → Option Value} {g g1 : Gh} {H H1 : Hp} {fr fr1 : Frame} {S S1 : Store} {σ : L2.St} {a d : Addr} {o : HO} {i : Nat}
def Gh.out (g : Gh) (d : Addr) : Gh := { g with own := g.own.filter (fun z => decide (z ≠ d)), tmp := d :: g.tmp }
def Gh.back (g : Gh) (d : Addr) (t : List Addr) : Gh := { g with own := d :: g.own, tmp := t }
end
section
variable {c : SC} {X : Cx} {W : WX} {cf : CF} {pos : Pos} {a b : Xp} {l r : Expr}
theorem count_toPs {d : D} (hd : d.pl = true) : ∀ xs : List D, D.pls xs = true → (D.toPs xs).countP (fun y => PyData.eqv y d.toP) = xs.countP fun y => D.eqv y d
  | [], _ => rfl
  | x :: xs, h => by
    have h' : (D.pl x && D.pls xs) = true := h
    rw [Bool.and_eq_true] at h'
    show List.countP _ (x.toP :: D.toPs xs) = _
    rw [List.countP_cons, List.countP_cons, toP_eqv x d h'.1 hd, count_toPs hd xs h'.2]
theorem se_lcnt (G : Good c X W cf) {i : Nat} {y : Str} {py ap : Pos} (hv : visB c i y = true) (hline : (ap.endLine == pos.line) = true) (hb : PE X r (tV c X W cf b)) (hp : pln r = true) :
    PE X (.Call (.Attribute (.Name y py) "count" ap) [r] [] pos) (tV c X W cf (.lcnt i b)) := by
  obtain ⟨v1, v2, v3, v4⟩ := G.vis hv
  have hu : X.A.units + 66 < cLine := hu_of' G
  refine (pe_count hu (pe_var v1 v2 v3 v4) (frzPE hb) ⟨rfl, by rw [pln_star hp]; rfl, hline, by rw [pln_star hp]; rfl⟩).weak fun σ H Q ⟨g, fr, S, rel, h⟩ => ?_
  have h' : Aft X.K X.mg W (rV X.K X.mg) g H σ (if lstP (peek i fr S) then (frzX (ev cf c.gl b fr S)).bind fun y fr S => RX.lift ((peek i fr S).bind fun d => cntD d (look S y)) fr S else .no) Q := h
  cases e : peek i fr S with
  | none => rw [e] at h'; exact h'.elim
  | some d =>
    rw [e] at h'
    cases d with
    | lst ds =>
      have h2 : Aft X.K X.mg W (rV X.K X.mg) g H σ ((frzX (ev cf c.gl b fr S)).bind fun y fr S => RX.lift ((peek i fr S).bind fun d => cntD d (look S y)) fr S) Q := h'
      obtain ⟨x, e1, a, vs, rfl, hH, _⟩ := peek_rel rel e
      refine ⟨.ref a, e1, ⟨a, vs, rfl, SqL.of hH⟩, g, fr, S, rel, ?_⟩
      refine (Aft.bind rD_tmp h2).imp fun y H1 ⟨d1, fr1, S1, g1, k1, rel1, r1, t1, h1⟩ => ?_
      cases e' : peek i fr1 S1 with
      | none => rw [e'] at h1; exact h1.elim
      | some d2 =>
        rw [e'] at h1
        obtain ⟨q', e2, v⟩ := peek_rel rel1 e'
        rw [e1] at e2; cases e2
        have va := vw_look rel1.st r1.2
        generalize look S1 d1 = da at h1 va
        have h3 : Aft X.K X.mg W (rV X.K X.mg) g1 H1 σ (RX.lift (cntD d2 da) fr1 S1) Q := h1
        cases d2 with
        | lst xs =>
          have h4 : Aft X.K X.mg W (rV X.K X.mg) g1 H1 σ (RX.lift (if da.pl && D.pls xs && decide (min (D.deps xs) da.dep ≤ 64) then some (Val.fz (.int ((xs.countP fun y => D.eqv y da : Nat) : Int))) else none) fr1 S1) Q := h3
          by_cases ht : (da.pl && D.pls xs && decide (min (D.deps xs) da.dep ≤ 64)) = true
          · rw [if_pos ht] at h4
            rw [Bool.and_eq_true, Bool.and_eq_true, decide_eq_true_iff] at ht
            obtain ⟨⟨p1, p2⟩, p3⟩ := ht
            have pl2 : (D.lst xs).pl = true := p2
            have q := fin_old h4 rel1 (.int _)
            rw [← count_toPs p1 xs p2] at q
            exact ⟨D.toPs xs, da.toP, v.dp pl2, va.dp p1, toPs_plain xs p2, toP_plain da p1, by rw [toP_dep da p1, toPs_dep xs p2]; exact p3, q⟩
          · rw [if_neg ht] at h4; exact h4.elim
        | _ => exact h3.elim
    | _ => exact h'.elim
end
end Eng
end

section
namespace Eng
open PySem PySem.Spec PyProof.Rows L2
end Eng
end

section
namespace Eng
open PySem PySem.Spec PyProof.Rows L2
end Eng
end

section
namespace Eng
open PySem PySem.Spec PyProof.Rows L2

abbrev SV (m : Xp) : Prop := ∀ (c : SC) (X : Cx) (W : WX) (cf : CF), Good c X W cf → (∀ e, (chk2 m c).v e = true → PE X e (tV c X W cf m)) ∧ ∀ e, (chk2 m c).t e = true → PT X e (tTs c X W cf m)
mutual
theorem sv : ∀ m : Xp, SV m
  | .con d => fun c X W cf G => ⟨fun e h => by
      cases e with
      | Constant k j p => exact se_con d h
      | _ => exact (nomatch h), fun e h => (nomatch h)⟩
  | .var i => fun c X W cf G => ⟨fun e h => by
      cases e with
      | Name x p => exact se_var G h
      | _ => exact (nomatch h), fun e h => by
      cases e with
      | Name x p => exact st_truth (fun _ => rfl) (se_var G h)
      | _ => exact (nomatch h)⟩
  | .glo x => fun c X W cf G => ⟨fun e h => Bool.noConfusion (show false = true from h), fun e h => Bool.noConfusion (show false = true from h)⟩
  | .bin k a b => fun c X W cf G => ⟨fun e h => by
      cases e with
      | BinOp l o r p =>
        obtain ⟨h, h3⟩ := and2 h
        obtain ⟨h1, h2⟩ := and2 h
        obtain rfl := of_decide_eq_true h1
        exact se_bin k ((sv a c X W cf G).1 _ h2) ((sv b c X W cf G).1 _ h3)
      | _ => exact (nomatch h), fun e h => (nomatch h)⟩
  | .cmp k a b => fun c X W cf G => ⟨fun e h => by
      cases e with
      | Compare l os rs p =>
        cases os with
        | nil => exact (nomatch h)
        | cons o os => cases os with
          | cons _ _ => cases rs with
            | nil => exact (nomatch h)
            | cons _ _ => exact (nomatch h)
          | nil => cases rs with
            | nil => exact (nomatch h)
            | cons r rs => cases rs with
              | cons _ _ => exact (nomatch h)
              | nil =>
                obtain ⟨h, h4⟩ := and2 h
                obtain ⟨h, h3⟩ := and2 h
                obtain ⟨h1, h2⟩ := and2 h
                obtain rfl := of_decide_eq_true h1
                exact se_cmp G k ((sv a c X W cf G).1 _ h3) ((sv b c X W cf G).1 _ h4) h2
      | _ => exact (nomatch h), fun e h => by
      cases e with
      | Compare l os rs p =>
        cases os with
        | nil => exact (nomatch h)
        | cons o os => cases os with
          | cons _ _ => cases rs with
            | nil => exact (nomatch h)
            | cons _ _ => exact (nomatch h)
          | nil => cases rs with
            | nil => exact (nomatch h)
            | cons r rs => cases rs with
              | cons _ _ => exact (nomatch h)
              | nil =>
                obtain ⟨h, h4⟩ := and2 h
                obtain ⟨h, h3⟩ := and2 h
                obtain ⟨h1, h2⟩ := and2 h
                obtain rfl := of_decide_eq_true h1
                exact st_cmp G k ((sv a c X W cf G).1 _ h3) ((sv b c X W cf G).1 _ h4) h2
      | _ => exact (nomatch h)⟩
  | .chain k m a b d => fun c X W cf G => ⟨fun e h => Bool.noConfusion (show false = true from h), fun e h => Bool.noConfusion (show false = true from h)⟩
  | .not a => fun c X W cf G => ⟨fun e h => by
      cases e with
      | UnaryOp o x p => cases o with
        | Not => exact se_not ((sv a c X W cf G).1 _ h)
        | _ => exact (nomatch h)
      | _ => exact (nomatch h), fun e h => by
      cases e with
      | UnaryOp o x p => cases o with
        | Not => exact st_not ((sv a c X W cf G).2 _ h)
        | _ => exact (nomatch h)
      | _ => exact (nomatch h)⟩
  | .and a b => fun c X W cf G => ⟨fun e h => by
      cases e with
      | BoolOp o vs p => cases o with
        | Or => exact (nomatch h)
        | And => cases vs with
          | nil => exact (nomatch h)
          | cons x vs => cases vs with
            | nil => exact (nomatch h)
            | cons y vs => cases vs with
              | nil => exact se_and1 ((sv a c X W cf G).1 _ (and2 h).1) ((sv b c X W cf G).1 _ (and2 h).2)
              | cons z vs => exact se_and ((sv a c X W cf G).1 _ (and2 h).1) ((sv b c X W cf G).1 _ (and2 h).2)
      | _ => exact (nomatch h), fun e h => by
      cases e with
      | BoolOp o vs p => cases o with
        | Or => exact (nomatch h)
        | And => cases vs with
          | nil => exact (nomatch h)
          | cons x vs => cases vs with
            | nil => exact (nomatch h)
            | cons y vs => cases vs with
              | nil => exact st_and1 ((sv a c X W cf G).2 _ (and2 h).1) ((sv b c X W cf G).2 _ (and2 h).2)
              | cons z vs => exact st_and ((sv a c X W cf G).2 _ (and2 h).1) ((sv b c X W cf G).2 _ (and2 h).2)
      | _ => exact (nomatch h)⟩
  | .or a b => fun c X W cf G => ⟨fun e h => by
      cases e with
      | BoolOp o vs p => cases o with
        | And => exact (nomatch h)
        | Or => cases vs with
          | nil => exact (nomatch h)
          | cons x vs => cases vs with
            | nil => exact (nomatch h)
            | cons y vs => cases vs with
              | nil => exact se_or1 ((sv a c X W cf G).1 _ (and2 h).1) ((sv b c X W cf G).1 _ (and2 h).2)
              | cons z vs => exact se_or ((sv a c X W cf G).1 _ (and2 h).1) ((sv b c X W cf G).1 _ (and2 h).2)
      | _ => exact (nomatch h), fun e h => by
      cases e with
      | BoolOp o vs p => cases o with
        | And => exact (nomatch h)
        | Or => cases vs with
          | nil => exact (nomatch h)
          | cons x vs => cases vs with
            | nil => exact (nomatch h)
            | cons y vs => cases vs with
              | nil => exact st_or1 ((sv a c X W cf G).2 _ (and2 h).1) ((sv b c X W cf G).2 _ (and2 h).2)
              | cons z vs => exact st_or ((sv a c X W cf G).2 _ (and2 h).1) ((sv b c X W cf G).2 _ (and2 h).2)
      | _ => exact (nomatch h)⟩
  | .ife t a b => fun c X W cf G => ⟨fun e h => Bool.noConfusion (show false = true from h), fun e h => Bool.noConfusion (show false = true from h)⟩
  | .tup es => fun c X W cf G => ⟨fun e h => by
      cases e with
      | Tuple l k p => exact se_tup ((sas es c X W cf G).1 _ h)
      | _ => exact (nomatch h), fun e h => (nomatch h)⟩
  | .lst es => fun c X W cf G => ⟨fun e h => by
      cases e with
      | List l p => exact se_lst ((sas es c X W cf G).1 _ h)
      | _ => exact (nomatch h), fun e h => (nomatch h)⟩
  | .sub a b => fun c X W cf G => ⟨fun e h => Bool.noConfusion (show false = true from h), fun e h => Bool.noConfusion (show false = true from h)⟩
  | .slice a lo hi => fun c X W cf G => ⟨fun e h => Bool.noConfusion (show false = true from h), fun e h => Bool.noConfusion (show false = true from h)⟩
  | .omit => fun c X W cf G => ⟨fun e h => (nomatch h), fun e h => (nomatch h)⟩
  | .call f es => fun c X W cf G =>
    have main : ∀ e, (chk2 (.call f es) c).v e = true → (∃ p1 ys p, e = .Call (.Name f p1) ys [] p) ∧ PE X e (tV c X W cf (.call f es)) := fun e h => by
      cases e with
      | Call g as ks p => cases g with
        | Name x p1 => cases as with
          | nil => cases ks with
            | cons _ _ => exact (nomatch h)
            | nil =>
              obtain ⟨h, h4⟩ := and2 h
              obtain ⟨h, h5⟩ := and2 h
              obtain ⟨h, h3⟩ := and2 h
              obtain ⟨h1, h2⟩ := and2 h
              obtain rfl := of_decide_eq_true h1
              cases es with
              | nil => exact ⟨⟨_, _, _, rfl⟩, se_call0 G h2 h3 h5⟩
              | cons _ _ => exact (nomatch h4)
          | cons y ys => cases ks with
            | cons _ _ => exact (nomatch h)
            | nil =>
              obtain ⟨h, h4⟩ := and2 h
              obtain ⟨h, h5⟩ := and2 h
              obtain ⟨h, h3⟩ := and2 h
              obtain ⟨h1, h2⟩ := and2 h
              obtain rfl := of_decide_eq_true h1
              exact ⟨⟨_, _, _, rfl⟩, se_call G h2 h3 h5 ((sas es c X W cf G).1 _ h4) h4⟩
        | _ => exact (nomatch h)
      | _ => exact (nomatch h)
    ⟨fun e h => (main e h).2, fun e h => by
      obtain ⟨⟨p1, ys, p, rfl⟩, q⟩ := main e h
      exact st_truth (fun _ => rfl) q⟩
  | .blt k es => fun c X W cf G =>
    have main : ∀ e, (chk2 (.blt k es) c).v e = true → ∃ p1 y ys p, e = .Call (.Name k.name p1) (y :: ys) [] p ∧ PE X e (tV c X W cf (.blt k es)) := fun e h => by
      cases e with
      | Call g as ks p => cases g with
        | Name x p1 => cases as with
          | nil => exact (nomatch h)
          | cons y ys => cases ks with
            | cons _ _ => exact (nomatch h)
            | nil =>
              obtain ⟨h, h4⟩ := and2 h
              obtain ⟨h1, h3⟩ := and2 h
              obtain rfl := of_decide_eq_true h1
              exact ⟨p1, y, ys, p, rfl, se_blt G k h3 ((sas es c X W cf G).1 _ h4) h4⟩
        | _ => exact (nomatch h)
      | _ => exact (nomatch h)
    ⟨fun e h => let ⟨_, _, _, _, _, q⟩ := main e h; q, fun e h => by
      obtain ⟨p1, y, ys, p, rfl, q⟩ := main e h
      exact st_truth (fun _ => rfl) q⟩
  | .isi t a => fun c X W cf G => ⟨fun e h => Bool.noConfusion (show false = true from h), fun e h => Bool.noConfusion (show false = true from h)⟩
  | .bltv k i => fun c X W cf G =>
    have main : ∀ e, (chk2 (.bltv k i) c).v e = true → ∃ p1 y ys p, e = .Call (.Name k.name p1) (y :: ys) [] p ∧ PE X e (tV c X W cf (.bltv k i)) := fun e h => by
      cases e with
      | Call g as ks p => cases g with
        | Name x p1 => cases as with
          | nil => exact (nomatch h)
          | cons y ys => cases ys with
            | cons _ _ => cases y <;> exact (nomatch h)
            | nil => cases y with
              | Name w p2 => cases ks with
                | cons _ _ => exact (nomatch h)
                | nil =>
                  obtain ⟨h, h3⟩ := and2 h
                  obtain ⟨h1, h2⟩ := and2 h
                  obtain rfl := of_decide_eq_true h1
                  exact ⟨p1, _, _, p, rfl, se_bltv G k h2 h3⟩
              | _ => exact (nomatch h)
        | _ => exact (nomatch h)
      | _ => exact (nomatch h)
    ⟨fun e h => let ⟨_, _, _, _, _, q⟩ := main e h; q, fun e h => by
      obtain ⟨p1, y, ys, p, rfl, q⟩ := main e h
      exact st_truth (fun _ => rfl) q⟩
  | .subv i b => fun c X W cf G =>
    have main : ∀ e, (chk2 (.subv i b) c).v e = true → ∃ x y p, e = .Subscript x y p ∧ PE X e (tV c X W cf (.subv i b)) := fun e h => by
      cases e with
      | Subscript x y p => cases x with
        | Name w p2 =>
          obtain ⟨h, h3⟩ := and2 h
          obtain ⟨h1, h2⟩ := and2 h
          exact ⟨_, _, _, rfl, se_subv G h2 ((sv b c X W cf G).1 _ h3) h1⟩
        | _ => exact (nomatch h)
      | _ => exact (nomatch h)
    ⟨fun e h => let ⟨_, _, _, _, q⟩ := main e h; q, fun e h => by
      obtain ⟨x, y, p, rfl, q⟩ := main e h
      exact st_truth (fun _ => rfl) q⟩
  | .cmpv k a i => fun c X W cf G =>
    have main : ∀ e, (chk2 (.cmpv k a i) c).v e = true → ∃ l o y p2 p, e = .Compare l [o] [.Name y p2] p ∧ o = k.op ∧ visB c i y = true ∧ (chk2 a c).v l = true := fun e h => by
      cases e with
      | Compare l os rs p =>
        cases os with
        | nil => exact (nomatch h)
        | cons o os => cases os with
          | cons _ _ => cases rs with
            | nil => exact (nomatch h)
            | cons x _ => cases x <;> exact (nomatch h)
          | nil => cases rs with
            | nil => exact (nomatch h)
            | cons r rs => cases rs with
              | cons _ _ => cases r <;> exact (nomatch h)
              | nil => cases r with
                | Name y p2 =>
                  obtain ⟨h, h3⟩ := and2 h
                  obtain ⟨h1, h2⟩ := and2 h
                  exact ⟨l, o, y, p2, p, rfl, of_decide_eq_true h1, h2, h3⟩
                | _ => exact (nomatch h)
      | _ => exact (nomatch h)
    ⟨fun e h => by
      obtain ⟨l, o, y, p2, p, rfl, rfl, h2, h3⟩ := main e h
      exact se_cmpv G k h2 ((sv a c X W cf G).1 _ h3), fun e h => by
      obtain ⟨l, o, y, p2, p, rfl, rfl, h2, h3⟩ := main e h
      exact st_cmpv G k h2 ((sv a c X W cf G).1 _ h3)⟩
  | .popv i b => fun c X W cf G => ⟨fun e h => Bool.noConfusion (show false = true from h), fun e h => Bool.noConfusion (show false = true from h)⟩
  | .comp elt tg it cs => fun c X W cf G => ⟨fun e h => by
      cases e with
      | ListComp el gs sc p => cases gs with
        | nil => exact (nomatch h)
        | cons g gs => cases gs with
          | cons _ _ =>
            obtain ⟨t, i, fs, as⟩ := g
            cases as with
            | ofNat n => cases n with
              | zero => exact (nomatch h)
              | succ n => exact (nomatch h)
            | negSucc n => exact (nomatch h)
          | nil =>
            obtain ⟨t, i, fs, as⟩ := g
            cases as with
            | negSucc n => exact (nomatch h)
            | ofNat n => cases n with
              | succ n => exact (nomatch h)
              | zero =>
                have h' : (blkC c.N c.sc sc (tg.own c.N) && pln i && chkW it c t i && chkG { c with sc := relS sc c.sc, top := false } tg t && chkC cs { c with sc := relS sc c.sc, top := false } fs &&
                  (chk2 elt { c with sc := relS sc c.sc, top := false }).v el) = true := h
                obtain ⟨h, h6⟩ := and2 h'
                obtain ⟨h, h5⟩ := and2 h
                obtain ⟨h, h4⟩ := and2 h
                obtain ⟨h, h3⟩ := and2 h
                obtain ⟨h1, h2⟩ := and2 h
                exact se_comp G h1 h2 (sws it c X W cf G _ _ h3) (fun s H C cl fp b => sg (G.blk sc s H C cl fp b) tg t h4) (fun s H C cl fp b => (sas cs _ _ _ cf (G.blk sc s H C cl fp b)).2 _ h5)
                  (fun s H C cl fp b => (sv elt _ _ _ cf (G.blk sc s H C cl fp b)).1 _ h6)
      | _ => exact (nomatch h), fun e h => (nomatch h)⟩
  | .comps elt tg it cs => fun c X W cf G => ⟨fun e h => Bool.noConfusion (show false = true from h), fun e h => Bool.noConfusion (show false = true from h)⟩
  | .share a => fun c X W cf G => ⟨fun e h => se_share ((sv a c X W cf G).1 _ h), fun e h => (nomatch h)⟩
  | .listrg b => fun c X W cf G => ⟨fun e h => Bool.noConfusion (show false = true from h), fun e h => Bool.noConfusion (show false = true from h)⟩
  | .lenset b => fun c X W cf G => ⟨fun e h => Bool.noConfusion (show false = true from h), fun e h => Bool.noConfusion (show false = true from h)⟩
  | .neg a => fun c X W cf G => ⟨fun e h => Bool.noConfusion (show false = true from h), fun e h => Bool.noConfusion (show false = true from h)⟩
  | .never => fun c X W cf G => ⟨fun e _ => ⟨fun pins s σ H Q I ⟨g, fr, S, rel, h⟩ => h.elim⟩, fun e _ => ⟨fun pins s σ H Q I ⟨g, fr, S, rel, h⟩ => h.elim⟩⟩
  | .rev a => fun c X W cf G => ⟨fun e h => Bool.noConfusion (show false = true from h), fun e h => Bool.noConfusion (show false = true from h)⟩
  | .dic0 t => fun c X W cf G => ⟨fun e h => Bool.noConfusion (show false = true from h), fun e h => Bool.noConfusion (show false = true from h)⟩
  | .sortset a => fun c X W cf G => ⟨fun e h => Bool.noConfusion (show false = true from h), fun e h => Bool.noConfusion (show false = true from h)⟩
  | .mind a b => fun c X W cf G => ⟨fun e h => Bool.noConfusion (show false = true from h), fun e h => Bool.noConfusion (show false = true from h)⟩
  | .mth k a es => fun c X W cf G => ⟨fun e h => Bool.noConfusion (show false = true from h), fun e h => Bool.noConfusion (show false = true from h)⟩
  | .mthv k i es => fun c X W cf G => ⟨fun e h => Bool.noConfusion (show false = true from h), fun e h => Bool.noConfusion (show false = true from h)⟩
  | .fld cl f a => fun c X W cf G => ⟨fun e h => Bool.noConfusion (show false = true from h), fun e h => Bool.noConfusion (show false = true from h)⟩
  | .meth cl m f a es => fun c X W cf G => ⟨fun e h => Bool.noConfusion (show false = true from h), fun e h => Bool.noConfusion (show false = true from h)⟩
  | .make cl f es => fun c X W cf G => ⟨fun e h => Bool.noConfusion (show false = true from h), fun e h => Bool.noConfusion (show false = true from h)⟩
  | .orv a b => fun c X W cf G => ⟨fun e h => Bool.noConfusion (show false = true from h), fun e h => Bool.noConfusion (show false = true from h)⟩
  | .isc cl a => fun c X W cf G => ⟨fun e h => Bool.noConfusion (show false = true from h), fun e h => Bool.noConfusion (show false = true from h)⟩
  | .isr cl t a => fun c X W cf G => ⟨fun e h => Bool.noConfusion (show false = true from h), fun e h => Bool.noConfusion (show false = true from h)⟩
  | .eqo ne cl f a b => fun c X W cf G => ⟨fun e h => Bool.noConfusion (show false = true from h), fun e h => Bool.noConfusion (show false = true from h)⟩
  | .neol cl f a b => fun c X W cf G => ⟨fun e h => Bool.noConfusion (show false = true from h), fun e h => Bool.noConfusion (show false = true from h)⟩
  | .cmpl k i b => fun c X W cf G =>
    have main : ∀ e, (match xCmp e with | some (.Name x _, o, r) => decide (o = k.op) && pln r && visB c i x && (chk2 b c).v r | _ => false) = true → ∃ x px r p, e = .Compare (.Name x px) [k.op] [r] p ∧ pln r = true ∧ visB c i x = true ∧ (chk2 b c).v r = true := fun e h' => by
      cases q : xCmp e with
      | none => rw [q] at h'; cases h'
      | some t =>
        obtain ⟨l, o, r⟩ := t
        rw [q] at h'
        obtain ⟨p, rfl⟩ := xCmp_eq q
        cases l with
        | Name x px =>
          obtain ⟨h, h4⟩ := and2 h'
          obtain ⟨h, h3⟩ := and2 h
          obtain ⟨h1, h2⟩ := and2 h
          obtain rfl := of_decide_eq_true h1
          exact ⟨_, _, _, _, rfl, h2, h3, h4⟩
        | _ => cases h'
    ⟨fun e h => by
      obtain ⟨x, px, r, p, rfl, h2, h3, h4⟩ := main e h
      exact se_cmpl G k h3 ((sv b c X W cf G).1 _ h4) h2, fun e h => by
      obtain ⟨x, px, r, p, rfl, h2, h3, h4⟩ := main e h
      exact st_cmpl G k h3 ((sv b c X W cf G).1 _ h4) h2⟩
  | .tlen cl f a => fun c X W cf G => ⟨fun e h => Bool.noConfusion (show false = true from h), fun e h => Bool.noConfusion (show false = true from h)⟩
  | .callk f q es ks => fun c X W cf G => ⟨fun e h => Bool.noConfusion (show false = true from h), fun e h => Bool.noConfusion (show false = true from h)⟩
  | .methk cl m f q a es ks => fun c X W cf G => ⟨fun e h => Bool.noConfusion (show false = true from h), fun e h => Bool.noConfusion (show false = true from h)⟩
  | .makek cl f q es ks => fun c X W cf G => ⟨fun e h => Bool.noConfusion (show false = true from h), fun e h => Bool.noConfusion (show false = true from h)⟩
  | .compi elt tg i cs => fun c X W cf G => ⟨fun e h => Bool.noConfusion (show false = true from h), fun e h => Bool.noConfusion (show false = true from h)⟩
  | .compw elt tg en i cs => fun c X W cf G => by cases en <;> exact ⟨fun e h => Bool.noConfusion (show false = true from h), fun e h => Bool.noConfusion (show false = true from h)⟩
  | .mmlv mx i => fun c X W cf G => ⟨fun e h => Bool.noConfusion (show false = true from h), fun e h => Bool.noConfusion (show false = true from h)⟩
  | .suml a b => fun c X W cf G => ⟨fun e h => Bool.noConfusion (show false = true from h), fun e h => Bool.noConfusion (show false = true from h)⟩
  | .sumv i => fun c X W cf G => ⟨fun e h => Bool.noConfusion (show false = true from h), fun e h => Bool.noConfusion (show false = true from h)⟩
  | .lcnt i b => fun c X W cf G => ⟨fun e h => by
      have h' : (match xMeth e with | some (.Name y _, m, ap, [z], p) => decide (m = "count") && (ap.endLine == p.line) && visB c i y && pln z && (chk2 b c).v z | _ => false) = true := h
      cases q : xMeth e with
      | none => rw [q] at h'; cases h'
      | some t =>
        obtain ⟨o, m, ap, l, p⟩ := t
        rw [q] at h'
        obtain rfl := xMeth_eq q
        cases o with
        | Name y py => cases l with
          | nil => cases h'
          | cons z zs => cases zs with
            | cons _ _ => cases h'
            | nil =>
              obtain ⟨h, h5⟩ := and2 h'
              obtain ⟨h, h4⟩ := and2 h
              obtain ⟨h, h3⟩ := and2 h
              obtain ⟨h1, h2⟩ := and2 h
              obtain rfl := of_decide_eq_true h1
              exact se_lcnt G h3 h2 ((sv b c X W cf G).1 _ h5) h4
        | _ => exact (nomatch h'), fun e h => nomatch h⟩
  | .dprs a => fun c X W cf G => ⟨fun e h => Bool.noConfusion (show false = true from h), fun e h => Bool.noConfusion (show false = true from h)⟩
  | .fmt a => fun c X W cf G => ⟨fun e h => Bool.noConfusion (show false = true from h), fun e h => Bool.noConfusion (show false = true from h)⟩
  | .fstr es => fun c X W cf G => ⟨fun e h => Bool.noConfusion (show false = true from h), fun e h => Bool.noConfusion (show false = true from h)⟩
  | .owc k cl f a => fun c X W cf G => ⟨fun e h => Bool.noConfusion (show false = true from h), fun e h => Bool.noConfusion (show false = true from h)⟩
  | .isx cl yes no a => fun c X W cf G =>
    have main : ∀ e, (chk2 (.isx cl yes no a) c).v e = true → (∃ x p1 as ks p, e = .Call (.Name x p1) as ks p) ∧ PE X e (tV c X W cf (.isx cl yes no a)) := fun e h => by
      have h' : (match xFn e with | some (x, _, [y, .Name z _], _) => decide (x = "isinstance") && decide (z = cl) && glB c x && glB c z && !yes.isEmpty && (yes.all fun k => decide (c.xz.xi k cl = some true)) && (no.all fun k => decide (c.xz.xi k cl = some false)) && pln y && (chk2 a c).v y | _ => false) = true := h
      cases q : xFn e with
      | none => rw [q] at h'; cases h'
      | some r =>
        obtain ⟨x, q1, l, p⟩ := r
        rw [q] at h'
        obtain rfl := xFn_eq q
        cases l with
        | nil => cases h'
        | cons y l => cases l with
          | nil => cases h'
          | cons z l => cases l with
            | cons _ _ => cases z <;> cases h'
            | nil => cases z with
              | Name z pz =>
                obtain ⟨h, h9⟩ := and2 h'
                obtain ⟨h, h8⟩ := and2 h
                obtain ⟨h, h7⟩ := and2 h
                obtain ⟨h, h6⟩ := and2 h
                obtain ⟨h, h5⟩ := and2 h
                obtain ⟨h, h4⟩ := and2 h
                obtain ⟨h, h3⟩ := and2 h
                obtain ⟨h1, h2⟩ := and2 h
                obtain rfl := of_decide_eq_true h1
                obtain rfl := of_decide_eq_true h2
                rw [Bool.not_eq_true'] at h5
                exact ⟨⟨_, _, _, _, _, rfl⟩, se_isx G h3 h4 h5 h6 h7 ((sv a c X W cf G).1 _ h9) h8⟩
              | _ => cases h'
    ⟨fun e h => (main e h).2, fun e h => by
      obtain ⟨⟨x, p1, as, ks, p, rfl⟩, q⟩ := main e h
      exact st_truth (fun _ => rfl) q⟩
  | .mkx cl a => fun c X W cf G => ⟨fun e h => by
      have h' : (match xFn e with | some (x, _, [y], _) => decide (x = cl) && c.xs.contains x && glB c x && pln y && (chk2 a c).v y | _ => false) = true := h
      cases q : xFn e with
      | none => rw [q] at h'; cases h'
      | some t =>
        obtain ⟨x, q1, l, p⟩ := t
        rw [q] at h'
        obtain rfl := xFn_eq q
        cases l with
        | nil => cases h'
        | cons y ys => cases ys with
          | cons _ _ => cases h'
          | nil =>
            obtain ⟨h, h5⟩ := and2 h'
            obtain ⟨h, h4⟩ := and2 h
            obtain ⟨h, h3⟩ := and2 h
            obtain ⟨h1, h2⟩ := and2 h
            obtain rfl := of_decide_eq_true h1
            exact se_mkx G h2 h3 ((sv a c X W cf G).1 _ h5) h4, fun e h => nomatch h⟩
  | .mkxf cl f a => fun c X W cf G => ⟨fun e h => by
      have h' : (match xFn e with | some (x, _, [y], _) => decide (x = cl) && c.top && c.xf.contains (x, f) && glB c x && pln y && (chk2 a c).v y | _ => false) = true := h
      cases q : xFn e with
      | none => rw [q] at h'; cases h'
      | some t =>
        obtain ⟨x, q1, l, p⟩ := t
        rw [q] at h'
        obtain rfl := xFn_eq q
        cases l with
        | nil => cases h'
        | cons y ys => cases ys with
          | cons _ _ => cases h'
          | nil =>
            obtain ⟨h, h6⟩ := and2 h'
            obtain ⟨h, h5⟩ := and2 h
            obtain ⟨h, h4⟩ := and2 h
            obtain ⟨h, h3⟩ := and2 h
            obtain ⟨h1, h2⟩ := and2 h
            obtain rfl := of_decide_eq_true h1
            exact se_mkxf G h2 h3 h4 ((sv a c X W cf G).1 _ h6) h5, fun e h => nomatch h⟩
  | .xfld cl f a => fun c X W cf G => ⟨fun e h => by
      have h' : (match xAttr e with | some (o, f', _) => decide (f = f') && noSup o && c.xz.xg.contains (cl, f) && (chk2 a c).v o | none => false) = true := h
      cases q : xAttr e with
      | none => rw [q] at h'; cases h'
      | some r =>
        obtain ⟨o, f', p⟩ := r
        rw [q] at h'
        obtain rfl := xAttr_eq q
        obtain ⟨h, h4⟩ := and2 h'
        obtain ⟨h, h3⟩ := and2 h
        obtain ⟨h1, h2⟩ := and2 h
        obtain rfl := of_decide_eq_true h1
        exact se_xfld G h2 h3 ((sv a c X W cf G).1 _ h4), fun e h => nomatch h⟩
  | .lidx i b => fun c X W cf G => ⟨fun e h => by
      have h' : (match xMeth e with | some (.Name y _, m, ap, [z], p) => decide (m = "index") && (ap.endLine == p.line) && visB c i y && pln z && (chk2 b c).v z | _ => false) = true := h
      cases q : xMeth e with
      | none => rw [q] at h'; cases h'
      | some t =>
        obtain ⟨o, m, ap, l, p⟩ := t
        rw [q] at h'
        obtain rfl := xMeth_eq q
        cases o with
        | Name y py => cases l with
          | nil => cases h'
          | cons z zs => cases zs with
            | cons _ _ => cases h'
            | nil =>
              obtain ⟨h, h5⟩ := and2 h'
              obtain ⟨h, h4⟩ := and2 h
              obtain ⟨h, h3⟩ := and2 h
              obtain ⟨h1, h2⟩ := and2 h
              obtain rfl := of_decide_eq_true h1
              exact se_lidx G h3 h2 ((sv b c X W cf G).1 _ h5) h4
        | _ => exact (nomatch h'), fun e h => nomatch h⟩
  | .dcopy a => fun c X W cf G => ⟨fun e h => Bool.noConfusion (show false = true from h), fun e h => Bool.noConfusion (show false = true from h)⟩
  | .cmpe ne i b => fun c X W cf G => ⟨fun e h => Bool.noConfusion (show false = true from h), fun e h => Bool.noConfusion (show false = true from h)⟩
  | .tuprg b => fun c X W cf G => ⟨fun e h => Bool.noConfusion (show false = true from h), fun e h => Bool.noConfusion (show false = true from h)⟩
  | .mml mx a => fun c X W cf G => ⟨fun e h => Bool.noConfusion (show false = true from h), fun e h => Bool.noConfusion (show false = true from h)⟩
  | .ask k me f hs df a => fun c X W cf G => ⟨fun e h => Bool.noConfusion (show false = true from h), fun e h => Bool.noConfusion (show false = true from h)⟩
  | .disp k v => fun c X W cf G => ⟨fun e h => Bool.noConfusion (show false = true from h), fun e h => Bool.noConfusion (show false = true from h)⟩
theorem sas : ∀ (ms : Xs) (c : SC) (X : Cx) (W : WX) (cf : CF), Good c X W cf → (∀ es, chks ms c es = true → PA X es (tAs c X W cf ms)) ∧ ∀ fs, chkC ms c fs = true → PTs X fs (tX X.K X.mg W rId (evC cf c.gl ms))
  | .nil => fun c X W cf G => ⟨fun es h => by
      cases es with
      | nil => exact sa_nil
      | cons _ _ => exact (nomatch h), fun fs h => by
      cases fs with
      | nil => exact pts_nil.weak fun σ H Q ⟨g, fr, S, rel, h⟩ => h g H true Keep.refl rel ⟨rfl, rfl⟩
      | cons _ _ => exact (nomatch h)⟩
  | .cons m ms => fun c X W cf G => ⟨fun es h => by
      cases es with
      | nil => exact (nomatch h)
      | cons x xs =>
        obtain ⟨h, h3⟩ := and2 h
        obtain ⟨h1, h2⟩ := and2 h
        exact sa_cons ((sv m c X W cf G).1 _ h2) ((sas ms c X W cf G).1 _ h3) h1, fun fs h => by
      cases ms with
      | cons _ _ => exact (nomatch h)
      | nil => cases fs with
        | nil => exact (nomatch h)
        | cons x xs => cases xs with
          | cons _ _ => exact (nomatch h)
          | nil => exact pts_one ((sv m c X W cf G).2 _ h)⟩
theorem sks : ∀ (ms : Xs) (c : SC) (X : Cx) (W : WX) (cf : CF), Good c X W cf → ∀ kws : List Keyword, chks ms c (kws.map (·.value)) = true → L2.PK X kws (tAs c X W cf ms)
  | .nil => fun c X W cf G kws h => by
      cases kws with
      | nil => exact sk_nil
      | cons _ _ => exact (nomatch h)
  | .cons m ms => fun c X W cf G kws h => by
      cases kws with
      | nil => exact (nomatch h)
      | cons x xs =>
        obtain ⟨k, e, p⟩ := x
        obtain ⟨h, h3⟩ := and2 (show (pln e && (chk2 m c).v e && chks ms c (xs.map (·.value))) = true from h)
        obtain ⟨h1, h2⟩ := and2 h
        exact sk_cons ((sv m c X W cf G).1 _ h2) (sks ms c X W cf G _ h3)
theorem sfs : ∀ (ms : Xs) (c : SC) (X : Cx) (W : WX) (cf : CF), Good c X W cf → ∀ es, chks ms c es = true → PJ X es (tFs c X W cf ms)
  | .nil => fun c X W cf G es h => by
      cases es with
      | nil => exact pj_nil
      | cons _ _ => exact (nomatch h)
  | .cons m ms => fun c X W cf G es h => by
      cases es with
      | nil => exact (nomatch h)
      | cons x xs =>
        obtain ⟨h, h3⟩ := and2 h
        obtain ⟨h1, h2⟩ := and2 h
        exact pj_cons ((sv m c X W cf G).1 _ h2) (sfs ms c X W cf G _ h3)
theorem sae : ∀ (ms : Xs) (c : SC) (X : Cx) (W : WX) (cf : CF), Good c X W cf → ∀ es, chks ms c es = true → Args c X W cf ms es
  | .nil => fun c X W cf G es h => by
      cases es with
      | nil => exact trivial
      | cons _ _ => exact (nomatch h)
  | .cons m ms => fun c X W cf G es h => by
      cases es with
      | nil => exact (nomatch h)
      | cons x xs =>
        obtain ⟨h, h3⟩ := and2 h
        obtain ⟨h1, h2⟩ := and2 h
        exact ⟨(sv m c X W cf G).1 _ h2, sae ms c X W cf G _ h3⟩
theorem sws : ∀ (w : Wk) (c : SC) (X : Cx) (W : WX) (cf : CF), Good c X W cf → ∀ t x, chkW w c t x = true → PI X t x (tWk c X W cf w)
  | .seq e => fun c X W cf G t x h => sw_seq ((sv e c X W cf G).1 _ h)
  | .rng1 a => fun c X W cf G t x h => by
      cases x with
      | Call g as ks p => cases g with
        | Name f p1 => cases as with
          | nil => exact (nomatch h)
          | cons y ys => cases ys with
            | cons _ _ => exact (nomatch h)
            | nil => cases ks with
              | cons _ _ => exact (nomatch h)
              | nil =>
                obtain ⟨h, h4⟩ := and2 h
                obtain ⟨h, h3⟩ := and2 h
                obtain ⟨h1, h2⟩ := and2 h
                obtain rfl := of_decide_eq_true h1
                exact sw_rng1 G h2 ((sv a c X W cf G).1 _ h4) h3
        | _ => exact (nomatch h)
      | _ => exact (nomatch h)
  | .rng2 a b => fun c X W cf G t x h => by
      cases x with
      | Call g as ks p => cases g with
        | Name f p1 => cases as with
          | nil => exact (nomatch h)
          | cons y ys => cases ys with
            | nil => exact (nomatch h)
            | cons z ys => cases ys with
              | cons _ _ => exact (nomatch h)
              | nil => cases ks with
                | cons _ _ => exact (nomatch h)
                | nil =>
                  obtain ⟨h, h6⟩ := and2 h
                  obtain ⟨h, h5⟩ := and2 h
                  obtain ⟨h, h4⟩ := and2 h
                  obtain ⟨h, h3⟩ := and2 h
                  obtain ⟨h1, h2⟩ := and2 h
                  obtain rfl := of_decide_eq_true h1
                  exact sw_rng2 G h2 ((sv a c X W cf G).1 _ h5) ((sv b c X W cf G).1 _ h6) h3 h4
        | _ => exact (nomatch h)
      | _ => exact (nomatch h)
  | .enm a => fun c X W cf G t x h => by
      cases t with
      | Tuple es kk tp => cases x with
        | Call g as ks p => cases g with
          | Name f p1 => cases as with
            | nil => exact (nomatch h)
            | cons y ys => cases ys with
              | cons _ _ => exact (nomatch h)
              | nil => cases ks with
                | cons _ _ => exact (nomatch h)
                | nil =>
                  obtain ⟨h, h4⟩ := and2 h
                  obtain ⟨h, h3⟩ := and2 h
                  obtain ⟨h1, h2⟩ := and2 h
                  obtain rfl := of_decide_eq_true h1
                  exact sw_enm G h2 ((sv a c X W cf G).1 _ h4) h3
          | _ => exact (nomatch h)
        | _ => exact (nomatch h)
      | _ => exact (nomatch h)
  | .zip a b => fun c X W cf G t x h => by
      cases t with
      | Tuple es kk tp => cases x with
        | Call g as ks p => cases g with
          | Name f p1 => cases as with
            | nil => exact (nomatch h)
            | cons y ys => cases ys with
              | nil => exact (nomatch h)
              | cons z ys => cases ys with
                | cons _ _ => exact (nomatch h)
                | nil => cases ks with
                  | cons _ _ => exact (nomatch h)
                  | nil =>
                    obtain ⟨h, h6⟩ := and2 h
                    obtain ⟨h, h5⟩ := and2 h
                    obtain ⟨h, h4⟩ := and2 h
                    obtain ⟨h, h3⟩ := and2 h
                    obtain ⟨h1, h2⟩ := and2 h
                    obtain rfl := of_decide_eq_true h1
                    exact sw_zip G h2 ((sv a c X W cf G).1 _ h5) ((sv b c X W cf G).1 _ h6) h3 h4
          | _ => exact (nomatch h)
        | _ => exact (nomatch h)
      | _ => exact (nomatch h)
  | .rng3 a b d => fun c X W cf G t x h => by
      cases x with
      | Call g as ks p => cases g with
        | Name f p1 => cases as with
          | nil => exact (nomatch h)
          | cons y ys => cases ys with
            | nil => exact (nomatch h)
            | cons z ys => cases ys with
              | nil => exact (nomatch h)
              | cons u ys => cases ys with
                | cons _ _ => exact (nomatch h)
                | nil => cases ks with
                  | cons _ _ => exact (nomatch h)
                  | nil =>
                    obtain ⟨h, h8⟩ := and2 h
                    obtain ⟨h, h7⟩ := and2 h
                    obtain ⟨h, h6⟩ := and2 h
                    obtain ⟨h, h5⟩ := and2 h
                    obtain ⟨h, h4⟩ := and2 h
                    obtain ⟨h, h3⟩ := and2 h
                    obtain ⟨h1, h2⟩ := and2 h
                    obtain rfl := of_decide_eq_true h1
                    exact sw_rng3 G h2 ((sv a c X W cf G).1 _ h6) ((sv b c X W cf G).1 _ h7) ((sv d c X W cf G).1 _ h8) h3 h4 h5
        | _ => exact (nomatch h)
      | _ => exact (nomatch h)
theorem swsS : ∀ (w : Wk) (c : SC) (X : Cx) (W : WX) (cf : CF), Good c X W cf → ∀ t x, chkWs w c t x = true → PI X t x (tWs c X W cf w)
  | .seq e => fun c X W cf G t x h => sx_seq ((sv e c X W cf G).1 _ h)
  | .rng1 a => fun c X W cf G t x h => nomatch h
  | .rng2 a b => fun c X W cf G t x h => nomatch h
  | .enm a => fun c X W cf G t x h => nomatch h
  | .zip a b => fun c X W cf G t x h => by
      cases t with
      | Tuple es kk tp => cases x with
        | Call g as ks p => cases g with
          | Name f p1 => cases as with
            | nil => exact (nomatch h)
            | cons y ys => cases ys with
              | nil => exact (nomatch h)
              | cons z ys => cases ys with
                | cons _ _ => exact (nomatch h)
                | nil => cases ks with
                  | cons _ _ => exact (nomatch h)
                  | nil =>
                    obtain ⟨h, h6⟩ := and2 h
                    obtain ⟨h, h5⟩ := and2 h
                    obtain ⟨h, h4⟩ := and2 h
                    obtain ⟨h, h3⟩ := and2 h
                    obtain ⟨h1, h2⟩ := and2 h
                    obtain rfl := of_decide_eq_true h1
                    exact sx_zip G h2 ((sv a c X W cf G).1 _ h5) ((sv b c X W cf G).1 _ h6) h3 h4
          | _ => exact (nomatch h)
        | _ => exact (nomatch h)
      | _ => exact (nomatch h)
  | .rng3 a b d => fun c X W cf G t x h => nomatch h
end
end Eng
end

section
namespace Eng
open PySem PySem.Spec PyProof.Rows L2

def noComp : Expr → Bool
  | .ListComp .. => false
  | .SetComp .. => false
  | .DictComp .. => false
  | _ => true
def noTup : Expr → Bool
  | .Tuple .. => false
  | _ => true
def swB (c : SC) (e : Expr) (x : Str) (p : Pos) : Bool := match e with
  | .ListComp _ _ s q => decide (c.sc.kind = .function) && decide (c.sc.names.lookup x = some .local) && (p.line == q.line) && !(s.names.any fun (n, k) => n == x && (k == .local || k == .cell))
  | _ => false
def Xp.isComp : Xp → Bool
  | .comp _ _ _ _ => true
  | _ => false
def raiseB (x : Str) (c : SC) : Stmt → Bool
  | .Raise (some (.Call (.Name y _) [.Constant (.str _) _ _] [] _)) none _ => c.top && decide (x = y) && c.xs.contains y && glB c y
  | _ => false
def parB (c : SC) (x y : Str) (px py : Pos) (a b : Expr) : Bool := decide (c.sc.kind = .function) && decide (c.sc.names.lookup x = some .local) && decide (c.sc.names.lookup y = some .local) && (py.line == px.line) && !(x == y) && pln a && pln b &&
  !(foldedForSure 8 a && foldedForSure 8 b) && !(constantsAlone 8 a && constantsAlone 8 b)
def par2B (c : SC) (x y : Str) (a b : Expr) : Bool := pln a && pln b && isLoc c.top (c.sc.names.lookup x) && isLoc c.top (c.sc.names.lookup y) && (decide (c.sc.names.lookup x ≠ some .local) || decide (c.sc.names.lookup y ≠ some .local))
def par3B (c : SC) (x y z : Str) (px py pz : Pos) (a b e : Expr) : Bool := decide (c.sc.kind = .function) && (decide (c.sc.names.lookup x = some .local) && (decide (c.sc.names.lookup y = some .local) && (decide (c.sc.names.lookup z = some .local) && ((py.line == px.line) && ((pz.line == px.line) && (!(x == y) && (!(x == z) && (!(y == z) && (pln a && (pln b && (pln e &&
  (!(foldedForSure 8 a && (foldedForSure 8 b && foldedForSure 8 e)) && !(constantsAlone 8 a && (constantsAlone 8 b && constantsAlone 8 e))))))))))))))
def xPar3 : Stmt → Option ((Str × Pos) × (Str × Pos) × (Str × Pos) × Expr × Expr × Expr)
  | .Assign [.Tuple [.Name x px, .Name y py, .Name z pz] _ _] (.Tuple [a, b, e] _ _) _ => some ((x, px), (y, py), (z, pz), a, b, e)
  | _ => none
def xAppr : Stmt → Option (Expr × Str × Pos × Expr × Pos)
  | .Expr (.Call (.Attribute x f ap) [y] [] cp) _ => some (x, f, ap, y, cp)
  | _ => none
def xClr : Stmt → Option (Str × Pos × Str × Pos × Pos)
  | .Expr (.Call (.Attribute (.Name x p) f ap) [] [] cp) _ => some (x, p, f, ap, cp)
  | _ => none
def xSetF : Stmt → Option (Expr × Str × Expr)
  | .Assign [.Attribute o f _] e _ => some (o, f, e)
  | _ => none
mutual
def chkS : Sm → SC → Stmt → Bool
  | .exp m, c => fun _ => false
  | .set i m, c => fun s => match s with
    | .Assign [.Name x p] e _ => decide (c.N[i]? = some x) && isLoc c.top (c.sc.names.lookup x) && (noComp e || decide (c.sc.names.lookup x = some .cell) && (match e with | .ListComp .. => true | _ => false) || m.isComp && swB c e x p) && (chk2 m c).v e
    | _ => false
  | .asg t m, c => fun _ => false
  | .ret m, c => fun s => match s with | .Return (some e) _ => (chk2 m c).v e | _ => false
  | .retN, _ => fun _ => false
  | .cond t a b, c => fun s => match s with | .If e x y _ => (chk2 t c).t e && chkSs a c x && chkSs b c y | _ => false
  | .loop tg it body, c => fun s => match s with | .For t i b [] _ => c.top && pln i && chkG c tg t && chkW it c t i && chkSs body c b | _ => false
  | .loops tg it body, c => fun _ => false
  | .raise x, c => fun _ => false
  | .raise1 x f m, c => fun _ => false
  | .whl t b, c => fun _ => false
  | .appv i m, c => fun _ => false
  | .extv i m, c => fun _ => false
  | .setv i ix m, c => fun _ => false
  | .setr a ix m, c => fun s => match s with | .Assign [.Subscript x y _] e _ => noComp e && pln y && (chk2 a c).v x && (chk2 ix c).v y && (chk2 m c).v e | _ => false
  | .pass, _ => fun _ => false
  | .setf cl f a m, c => fun _ => false
  | .setrd a ix m, c => fun _ => false
  | .never, _ => fun _ => true
  | .par i j m n, c => fun _ => false
  | .appr a m, c => fun _ => false
  | .remv i m, c => fun _ => false
  | .clrv i, c => fun _ => false
  | .par3 i j k m n o, c => fun _ => false
  | .setd i ix m, c => fun _ => false
def chkSs : Sms → SC → List Stmt → Bool
  | .nil, _ => fun l => l.isEmpty
  | .cons s ss, c => fun l => match l with | x :: xs => chkS s c x && chkSs ss c xs | [] => false
end

def AftS (K : PySem.W.Frag) (mg : Str → Option Value) (W : WX) (g : Gh) (H : Hp) (r : RS) (D : Ends) : Prop := match r with
  | .nx fr S => ∀ g' H' σ', Keep g H g' H' → g'.tmp = g.tmp → Rel K mg g' fr S σ' H' → D.nx σ' H'
  | .rt v fr S => ∀ g' H' σ' x, Keep g H g' H' → Rel K mg g' fr S σ' H' → rV K mg g.tmp g' H' v x → D.rt x H'
  | .ex e fr S => ∀ g' H' σ' c d, Keep g H g' H' → Rel K mg g' fr S σ' H' → g'.tmp = g.tmp → XR K mg g' H' e c d → W c d σ' H'
  | .bk fr S => ∀ g' H' σ', Keep g H g' H' → g'.tmp = g.tmp → Rel K mg g' fr S σ' H' → D.bk σ' H'
  | .ct fr S => ∀ g' H' σ', Keep g H g' H' → g'.tmp = g.tmp → Rel K mg g' fr S σ' H' → D.ct σ' H'
  | .no => False
def tS (K : PySem.W.Frag) (mg : Str → Option Value) (W : WX) (f : Frame → Store → RS) : TS := fun D σ H => ∃ g fr S, Rel K mg g fr S σ H ∧ AftS K mg W g H (f fr S) D
section
variable {K : PySem.W.Frag} {mg : Str → Option Value} {W : WX} {g g1 : Gh} {H H1 : Hp} {σ : L2.St} {D : Ends}
theorem AftS.shift {r : RS} (k : Keep g H g1 H1) (t : g1.tmp = g.tmp) (h : AftS K mg W g H r D) : AftS K mg W g1 H1 r D := by
  cases r with
  | nx fr S => exact fun g' H' σ' k' t' e => h g' H' σ' (k.trans k') (t'.trans t) e
  | rt v fr S => exact fun g' H' σ' x k' e q => h g' H' σ' x (k.trans k') e (by rw [← t]; exact q)
  | ex e fr S => exact fun g' H' σ' c d k' e t' q => h g' H' σ' c d (k.trans k') e (t'.trans t) q
  | bk fr S => exact fun g' H' σ' k' t' e => h g' H' σ' (k.trans k') (t'.trans t) e
  | ct fr S => exact fun g' H' σ' k' t' e => h g' H' σ' (k.trans k') (t'.trans t) e
  | no => exact h
theorem AftS.bind {α β : Type} {R : List Addr → Gh → Hp → α → β → Prop} {r : RX α} {k : α → Frame → Store → RS} (hR : ∀ t g H a b, R t g H a b → g.tmp = t) (h : AftS K mg W g H (r.thn k) D) :
    Aft K mg W R g H σ r (fun b H1 => ∃ a fr1 S1 g1, Keep g H g1 H1 ∧ Rel K mg g1 fr1 S1 σ H1 ∧ R g1.tmp g1 H1 a b ∧ g1.tmp = g.tmp ∧ AftS K mg W g1 H1 (k a fr1 S1) D) := by
  cases r with
  | ok a fr S => exact fun g' H' b k' e q => ⟨a, fr, S, g', k', e, by rw [hR _ _ _ _ _ q]; exact q, hR _ _ _ _ _ q, AftS.shift k' (hR _ _ _ _ _ q) h⟩
  | ex e fr S => exact fun g' H' c d k' e t q => h g' H' σ c d k' e t q
  | no => exact h
end

section
variable {c : SC} {X : Cx} {W : WX} {cf : CF} {pos : Pos} {m : Xp} {e : Expr}
abbrev tSm (c : SC) (X : Cx) (W : WX) (cf : CF) (s : Sm) : TS := tS X.K X.mg W (ex cf c.gl s)
abbrev tSs (c : SC) (X : Cx) (W : WX) (cf : CF) (s : Sms) : TS := tS X.K X.mg W (exs cf c.gl s)
theorem noComp_sw (h : noComp e = true) (t : Option Expr) (l : Nat) (env : Env) : swapsWith e t l env = pure false := by
  cases e <;> first | rfl | cases h
theorem noComp_sole (h : noComp e = true) (t : Expr) (l : Nat) (env : Env) : swapsWithSole [t] e l env = pure false := noComp_sw h (some t) l env
theorem wk_set {i : Nat} {D : Ends} {σ : L2.St} {H : Hp} (h : tSm c X W cf (.set i m) D σ H) : tV c X W cf m σ H (fun x H1 => D.nx (σ.set i (some x)) H1) := by
  obtain ⟨g, fr, S, rel, h⟩ := h
  refine ⟨g, fr, S, rel, ?_⟩
  have h' : AftS X.K X.mg W g H ((ev cf c.gl m fr S).thn fun v fr S => .nx (fr.set i (some v)) S) D := h
  cases e : ev cf c.gl m fr S with
  | no => rw [e] at h'; exact h'
  | ex x f s => rw [e] at h'; exact fun g' H' c d k' e t q => h' g' H' σ c d k' e t q
  | ok v f s =>
    rw [e] at h'
    intro g1 H1 x k1 rel1 rv
    cases v with
    | fz d => exact h' g1 H1 _ k1 rv.1 (rel1.setFz rv.2)
    | own cl =>
      obtain ⟨a, rfl, ht, na, hc⟩ := rv
      refine h' ⟨g1.rho, a :: g1.own, g.tmp⟩ H1 _ ⟨fun b o h0 n1 n2 => ?_, fun b o h0 n1 n2 z => z, k1.tups, k1.pre⟩ rfl (rel1.setOwn ht na hc)
      obtain ⟨q1, q2, q3⟩ := k1.keep b o h0 n1 n2
      refine ⟨q1, q2, fun z => ?_⟩
      rcases List.mem_cons.mp z with z | z
      · subst z
        exact na (k1.tmp b o h0 n1 n2 (by rw [ht]; exact List.mem_cons_self))
      · exact q3 z
theorem good_loc (G : Good c X W cf) {i : Nat} {x : Str} (h1 : c.N[i]? = some x) (h2 : isLoc c.top (c.sc.names.lookup x) = true) : X.N[i]? = some x ∧ L2.Loc X.env.scope x ∧ (X.fn x = true ∨ X.env.scope.names.lookup x = some .local) := by
  refine ⟨by rw [G.N]; exact h1, ?_⟩
  unfold L2.Loc
  rw [G.sc]
  cases q : c.sc.names.lookup x with
  | none => rw [q] at h2; cases h2
  | some k =>
    rw [q] at h2
    cases k with
    | «local» => exact ⟨.inl rfl, .inr rfl⟩
    | cell => exact ⟨.inr rfl, .inl (G.top h2 x)⟩
    | free => cases h2
    | globalExplicit => cases h2
    | globalImplicit => cases h2
theorem ss_set (G : Good c X W cf) {i : Nat} {x : Str} {p : Pos} (h1 : c.N[i]? = some x) (h2 : isLoc c.top (c.sc.names.lookup x) = true) (hs : swapsWith e (some (.Name x p)) pos.line X.env = pure false) (h : PE X e (tV c X W cf m)) :
    PS X (.Assign [.Name x p] e pos) (tSm c X W cf (.set i m)) := by
  obtain ⟨l1, l2, l3⟩ := good_loc G h1 h2
  exact (ps_set (i := i) (by rw [G.N]; exact G.nd) l1 l2 h hs l3).weak fun D σ H h => wk_set h
theorem sw_cell {el : Expr} {gs : List Comprehension} {sc : Scope} {q p : Pos} {x : Str} {l : Nat} {env : Env} (h : env.scope.names.lookup x = some .cell) : swapsWith (.ListComp el gs sc q) (some (.Name x p)) l env = pure false := by
  have hk : (env.kindOf x == some NameKind.local) = false := by
    show (env.scope.names.lookup x == some NameKind.local) = false
    rw [h]; rfl
  show (pure (env.blockKind == .function && env.kindOf x == some .local && _ && _) : Sem Bool) = pure false
  rw [hk, Bool.and_false, Bool.false_and, Bool.false_and]
theorem ss_setLc (G : Good c X W cf) {i : Nat} {x : Str} {p q : Pos} {elt : Xp} {tg : Tg} {it : Wk} {cs : Xs} {el t ie : Expr} {fs : List Expr} {sc : Scope} (h1 : c.N[i]? = some x) (h2 : c.sc.names.lookup x = some .local)
    (hk : c.sc.kind = .function) (hl : (p.line == q.line) = true) (ha : (sc.names.any fun (n, k) => n == x && (k == .local || k == .cell)) = false)
    (h : (chk2 (.comp elt tg it cs) c).v (.ListComp el [⟨t, ie, fs, 0⟩] sc q) = true) : PS X (.Assign [.Name x p] (.ListComp el [⟨t, ie, fs, 0⟩] sc q) pos) (tSm c X W cf (.set i (.comp elt tg it cs))) := by
  have h' : (blkC c.N c.sc sc (tg.own c.N) && pln ie && chkW it c t ie && chkG { c with sc := relS sc c.sc, top := false } tg t && chkC cs { c with sc := relS sc c.sc, top := false } fs &&
    (chk2 elt { c with sc := relS sc c.sc, top := false }).v el) = true := h
  obtain ⟨h, b6⟩ := and2 h'
  obtain ⟨h, b5⟩ := and2 h
  obtain ⟨h, b4⟩ := and2 h
  obtain ⟨h, b3⟩ := and2 h
  obtain ⟨b1, b2⟩ := and2 h
  have hok' : BlkOk X.N X.env.scope sc (tg.own c.N) := by rw [G.N, G.sc]; exact blkOk_by b1
  have hlx : X.env.scope.names.lookup x = some .local := by rw [G.sc]; exact h2
  refine (ps_setLcE (i := i) (wi := tWk c X W cf it) (g := gT X tg) (tt := tX X.K X.mg W rId (evC cf c.gl cs)) (te := tX X.K X.mg W (rD X.K) (fun fr S => frzX (ev cf c.gl elt fr S))) G.calm (by rw [G.N]; exact G.nd) (by rw [G.N]; exact h1) hlx (sw_true (by rw [G.sc]; exact hk) hlx hl ha) (sws it c X W cf G _ _ b3) hok' (fun s H C cl fp b => sg (G.blk sc s H C cl fp b) tg t b4)
    (fun s H C cl fp b => (sas cs _ _ _ cf (G.blk sc s H C cl fp b)).2 _ b5) (fun s H C cl fp b => frzPE ((sv elt _ _ _ cf (G.blk sc s H C cl fp b)).1 _ b6)) (pln_fold b2 _)).weak fun D σ H h => ?_
  exact wk_comp G σ H _ (wk_set h)
theorem _root_.Eng.Rel.moveOut {K : PySem.W.Frag} {mg : Str → Option Value} {g : Gh} {fr : Frame} {S : Store} {σ : L2.St} {H : Hp} {i : Nat} {cl : Cell} {a : Addr} (r : Rel K mg g fr S σ H) (e : fr[i]? = some (some (.own cl))) (hs : σ[i]? = some (some (.ref a))) :
    ∃ g', Keep g H g' H ∧ Rel K mg g' (fr.set i none) S σ H ∧ g'.tmp = a :: g.tmp ∧ a ∉ g.tmp ∧ CellR K mg g' H a cl := by
  obtain ⟨y, e1, b, e2, hb, hcell⟩ := r.slot i _ e
  rw [hs] at e1; cases e1; cases e2
  let g' : Gh := ⟨g.rho, g.own.filter fun z => decide (z ≠ a), a :: g.tmp⟩
  have mem' : ∀ z, z ∈ g'.own ↔ z ∈ g.own ∧ z ≠ a := fun z => by
    show z ∈ g.own.filter _ ↔ _
    rw [List.mem_filter, decide_eq_true_iff]
  have av' : ∀ z, g'.av z → g.av z := fun z w => by
    rcases w with w | w | w
    · exact .inl w
    · exact .inr (.inl ((mem' z).mp w).1)
    · rcases List.mem_cons.mp w with w | w
      · exact .inr (.inl (w ▸ hb))
      · exact .inr (.inr w)
  have mm : Mono K g H g' H := Mono.less av' fun _ _ z => z
  refine ⟨g', ⟨fun b o h n w => ⟨h, n, fun z => w ((mem' b).mp z).1⟩, fun b o h n w z => ?_, fun _ _ z => z, fun _ _ z => z⟩, ?_, rfl, r.st.ot a hb, hcell.mono mm rfl⟩
  · rcases List.mem_cons.mp z with z | z
    · exact absurd (z ▸ hb) w
    · exact z
  · have q := r.setNone (i := i)
    refine ⟨q.len, fun j v ej => ?_, q.apart, ⟨r.st.len, r.st.nd, fun n c' a' e' q' => (r.st.cell n c' a' e' q').mono mm rfl, fun z w => ⟨fun t => (r.st.rt z w).1 ((mem' z).mp t).1, fun t => ?_⟩, fun z w t => ?_, fun z w => r.st.tr z (av' z w)⟩⟩
    · have hj : i ≠ j := fun hj => by
        subst hj
        have hl : i < (fr.set i (none : Option Val)).length := (List.getElem?_eq_some_iff.mp ej).1
        rw [List.length_set] at hl
        rw [List.getElem?_set_self hl] at ej; cases ej
      rw [List.getElem?_set_ne hj] at ej
      obtain ⟨y, e1, s⟩ := r.slot j v ej
      refine ⟨y, e1, ?_⟩
      cases v with
      | fz d' => exact RD.mono mm s
      | own c' =>
        obtain ⟨b', e2, hb', hc'⟩ := s
        refine ⟨b', e2, (mem' b').mpr ⟨hb', fun z => ?_⟩, hc'.mono mm rfl⟩
        subst z; subst e2
        exact r.apart i j cl c' b' hj e ej hs e1
    · rcases List.mem_cons.mp t with t | t
      · exact (r.st.rt z w).1 (t ▸ hb)
      · exact (r.st.rt z w).2 t
    · rcases List.mem_cons.mp t with t | t
      · exact ((mem' z).mp w).2 t
      · exact r.st.ot z ((mem' z).mp w).1 t
theorem se_ret (G : Good c X W cf) (h : (chk2 m c).v e = true) : PE X e (tX X.K X.mg W (rV X.K X.mg) (retX m (ev cf c.gl m))) := by
  have plain : ∀ f : Frame → Store → RX Val, retX m f = f → PE X e (tX X.K X.mg W (rV X.K X.mg) f) → PE X e (tX X.K X.mg W (rV X.K X.mg) (retX m f)) := fun f h1 h2 => by rw [h1]; exact h2
  cases m with
  | var i =>
    cases e with
    | Name x p =>
      obtain ⟨h1, h2, h3, h4⟩ := G.vis h
      refine (pe_var h1 h2 h3 h4).weak fun σ H Q ⟨g, fr, S, rel, a⟩ => ?_
      have a' : Aft X.K X.mg W (rV X.K X.mg) g H σ (match fr[i]? with
        | some (some (.fz d)) => .ok (.fz d) fr S
        | some (some (.own c)) => .ok (.own c) (fr.set i none) S
        | _ => .no) Q := a
      cases e : fr[i]? with
      | none => rw [e] at a'; exact a'.elim
      | some o =>
        cases o with
        | none => rw [e] at a'; exact a'.elim
        | some v =>
          rw [e] at a'
          cases v with
          | fz d =>
            obtain ⟨x, e1, s⟩ := rel.slot i _ e
            exact ⟨x, e1, fin_old a' rel s⟩
          | own cl =>
            obtain ⟨x, e1, b, rfl, hb, hc⟩ := rel.slot i _ e
            obtain ⟨g', k', rel', t', n', c'⟩ := rel.moveOut e e1
            exact ⟨_, e1, a' g' H _ k' rel' ⟨b, rfl, t', n', c'⟩⟩
    | _ => exact (nomatch h)
  | _ => exact plain _ rfl ((sv _ c X W cf G).1 _ h)
theorem ss_ret (G : Good c X W cf) (h : (chk2 m c).v e = true) : PS X (.Return (some e) pos) (tSm c X W cf (.ret m)) := by
  refine (ps_ret (se_ret G h)).weak fun D σ H ⟨g, fr, S, rel, h⟩ => ⟨g, fr, S, rel, ?_⟩
  have h' : AftS X.K X.mg W g H ((retX m (ev cf c.gl m) fr S).thn fun v fr S => .rt v fr S) D := h
  cases e : retX m (ev cf c.gl m) fr S with
  | no => rw [e] at h'; exact h'
  | ex x f s => rw [e] at h'; exact fun g' H' c d k' e t q => h' g' H' σ c d k' e t q
  | ok v f s =>
    rw [e] at h'
    exact fun g1 H1 x k1 rel1 rv => h' g1 H1 σ x k1 rel1 rv
theorem ss_cond {a b : Sms} {x y : List Stmt} (ht : PT X e (tTs c X W cf m)) (ha : PSs X x (tSs c X W cf a)) (hb : PSs X y (tSs c X W cf b)) : PS X (.If e x y pos) (tSm c X W cf (.cond m a b)) := by
  refine (ps_if ht ha hb).weak fun D σ H ⟨g, fr, S, rel, h⟩ => ⟨g, fr, S, rel, ?_⟩
  refine (AftS.bind rId_tmp h).imp fun x H1 ⟨t, fr1, S1, g1, k1, rel1, r1, t1, h1⟩ => ?_
  obtain ⟨_, rfl⟩ := r1
  cases t with
  | true => exact iteT ⟨g1, fr1, S1, rel1, h1⟩
  | false => exact iteF ⟨g1, fr1, S1, rel1, h1⟩
theorem ss_appr (G : Good c X W cf) {a : Xp} {x : Expr} {ap cp : Pos} (hs : noSup x = true) (hx : PE X x (tV c X W cf a)) (hb : PE X e (tV c X W cf m)) (hp : pln e = true) (hline : (ap.endLine == cp.line) = true) :
    PS X (.Expr (.Call (.Attribute x "append" ap) [e] [] cp) pos) (tSm c X W cf (.appr a m)) := by
  have hfew : ((backTo cp (starEach [e] X.env)).all (fun x => !x.1) && (backToKw cp (keywordEach [] X.env)).all (fun x => x.1.isSome)
      && decide (([e] : List Expr).length + ([] : List Keyword).length + (if ([] : List Keyword).isEmpty then 0 else 1) < 30)) = true := by
    rw [pln_star hp]; rfl
  refine (ps_expr (pe_bm PySem.F.plainAttrs_list PySem.F.slot_list_append PySem.F.type_list_append mt_append (frzPE hx) (pa_cons (frzPE hb) pa_nil (pln_star hp _)) (noSup_base hs _ X.env) hfew hline (pln_star hp _) rfl) rfl).weak fun D σ H ⟨g, fr, S, rel, h⟩ => ⟨g, fr, S, rel, ?_⟩
  refine (AftS.bind rD_tmp h).imp fun v H1 ⟨d1, fr1, S1, g1, k1, rel1, r1, t1, h1⟩ => ?_
  have h1' : AftS X.K X.mg W g1 H1 (if isLst S1 d1 then (frzX (ev cf c.gl m fr1 S1)).thn fun d fr S => apprX d1 d fr S else .no) D := h1
  by_cases ho : isLst S1 d1 = true
  · rw [if_pos ho] at h1'
    cases d1 with
    | ref nn =>
      have ho' : (match S1[nn]? with | some (.lst _) => true | _ => false) = true := ho
      cases q : S1[nn]? with
      | none => rw [q] at ho'; cases ho'
      | some cl =>
        rw [q] at ho'
        cases cl with
        | lst xs =>
          obtain ⟨b, rfl, hb'⟩ := r1.2.of_ref
          obtain ⟨vs, hv1, rv1⟩ := rel1.st.cell nn _ b q hb'
          refine ⟨.inl ⟨rfl, vs, SqL.of hv1⟩, g1, fr1, S1, rel1, ?_⟩
          refine (AftS.bind rD_tmp h1').imp fun x2 H2 ⟨d2, fr2, S2, g2, k2, rel2, r2, t2, h2⟩ => ?_
          have h2' : AftS X.K X.mg W g2 H2 (match S2[nn]? with | some (.lst ys) => if ys.length < sizeLine then .nx fr2 (S2.set nn (.lst (ys ++ [d2]))) else .no | _ => .no) D := h2
          have hb2 := k2.pre _ _ hb'
          cases q2 : S2[nn]? with
          | none => rw [q2] at h2'; exact h2'.elim
          | some cl2 =>
            rw [q2] at h2'
            cases cl2 with
            | lst ys =>
              dsimp only at h2'
              obtain ⟨ws, hw1, rw1⟩ := rel2.st.cell nn _ b q2 hb2
              by_cases hz : ys.length < sizeLine
              · rw [if_pos hz] at h2'
                obtain ⟨kp, rl⟩ := rel2.mutS (c' := .lst (ys ++ [d2])) (o := .lst (ws ++ [x2])) q2 hb2 (fun g4 H4 mm hh => ⟨_, hh, (rw1.mono mm).append (.one (r2.2.mono mm))⟩)
                exact ⟨b, ws, x2, rfl, rfl, hw1, by rw [← rw1.length]; exact hz, h2' g2 _ σ kp rfl rl⟩
              · rw [if_neg hz] at h2'; exact h2'.elim
            | _ => exact h2'.elim
        | _ => cases ho'
    | _ => cases ho
  · rw [if_neg ho] at h1'; exact h1'.elim
theorem pln_asg {o i : Expr} (h : pln i = true) (env : Env) (v : Value) : assign (.Subscript o i pos) env v = (do
      let ov ← holding [v] (eval o env)
      let iv ← holding [v, ov] (eval i env)
      standAt pos
      holding [v, ov, iv] (setItem ov iv v)
      release [v, ov, iv] []) := by
  cases i <;> first | rfl | cases h
theorem ss_setr (G : Good c X W cf) {a ix : Xp} {p2 : Pos} {x y : Expr} (hn : noComp e = true) (hp : pln y = true) (hx : PE X x (tV c X W cf a)) (hy : PE X y (tV c X W cf ix)) (he : PE X e (tV c X W cf m)) :
    PS X (.Assign [.Subscript x y p2] e pos) (tSm c X W cf (.setr a ix m)) := by
  have hw : swappedStores [.Subscript x y p2] e X.env = pure none := by cases e <;> rfl
  refine (ps_asg (frzPE he) (pg_sub (frzPE hx) (frzPE hy) set_list (pln_asg hp X.env)) (noComp_sole hn _ _ _) hw rfl).weak fun D σ H ⟨g, fr, S, rel, h⟩ => ⟨g, fr, S, rel, ?_⟩
  refine (AftS.bind rD_tmp h).imp fun v H1 ⟨d1, fr1, S1, g1, k1, rel1, r1, t1, h1⟩ => ⟨g1, fr1, S1, rel1, ?_⟩
  refine (AftS.bind rD_tmp h1).imp fun u H2 ⟨d2, fr2, S2, g2, k2, rel2, r2, t2, h2⟩ => ⟨g2, fr2, S2, rel2, ?_⟩
  refine (AftS.bind rD_tmp h2).imp fun w H3 ⟨d3, fr3, S3, g3, k3, rel3, r3, t3, h3⟩ => ?_
  have h3' : AftS X.K X.mg W g3 H3 (setrX d2 d3 d1 fr3 S3) D := h3
  cases d2 with
  | ref n =>
    cases d3 with
    | int k =>
      have h4 : AftS X.K X.mg W g3 H3 (match S3[n]? with
        | some (.lst xs) => match ixN xs.length k with
          | some j => .nx fr3 (S3.set n (.lst (xs.set j d1)))
          | none => .no
        | _ => .no) D := h3'
      obtain rfl := RD.of_int r3.2
      obtain ⟨b, rfl, hb⟩ := (r2.2.mono k3.mono).of_ref
      cases q : S3[n]? with
      | none => rw [q] at h4; exact h4.elim
      | some cl =>
        rw [q] at h4
        cases cl with
        | lst xs =>
          dsimp only at h4
          obtain ⟨ws, hw1, rw1⟩ := rel3.st.cell n _ b q hb
          cases q2 : ixN xs.length k with
          | none => rw [q2] at h4; exact h4.elim
          | some j =>
            rw [q2] at h4
            obtain ⟨kp, rl⟩ := rel3.mutS (c' := .lst (xs.set j d1)) (o := .lst (ws.set j v)) q hb (fun g4 H4 mm hh => ⟨_, hh, RDs.set (((r1.2.mono k2.mono).mono k3.mono).mono mm) j (rw1.mono mm)⟩)
            exact ⟨b, ws, k, j, rfl, rfl, hw1, by rw [← rw1.length]; exact q2, h4 g3 _ σ kp rfl rl⟩
        | _ => exact h4.elim
    | _ => exact h3'.elim
  | _ => exact h3'.elim

theorem ss_loop (G : Good c X W cf) (tp : c.top = true) {tg : Tg} {it : Wk} {body : Sms} {t i : Expr} {b : List Stmt} (hp : pln i = true) (hg : chkG c tg t = true) (hw : PI X t i (tWk c X W cf it)) (hb : PSs X b (tSs c X W cf body)) :
    PS X (.For t i b [] pos) (tSm c X W cf (.loop tg it body)) := by
  refine (ps_for (G.po tp) G.calm hw (sg G tg t hg) hb (pln_fold hp _)).weak fun D σ H ⟨g, fr, S, rel, h⟩ => ⟨g, fr, S, rel, ?_⟩
  refine (AftS.bind rW_tmp h).imp fun J H1 ⟨ds, fr1, S1, g1, k1, rel1, r1, t1, h1⟩ => ?_
  obtain ⟨GG, Y, wk, hG, hY⟩ := r1.2
  generalize hR : loopGo tg (exs cf c.gl body) ds fr1 S1 = R0 at h1
  refine for_it wk (fun j σ2 H2 => ∃ g2 fr2 S2, Keep g1 H1 g2 H2 ∧ g2.tmp = g1.tmp ∧ Rel X.K X.mg g2 fr2 S2 σ2 H2 ∧ loopGo tg (exs cf c.gl body) (ds.drop j) fr2 S2 = R0)
    ⟨g1, fr1, S1, Keep.refl, rfl, rel1, hR⟩ (fun j σ2 H2 _ ⟨g2, _, _, kp, _⟩ => hG g2 H2 kp) ?_ ?_
  · rintro j x σ2 H2 H2' hj ⟨g2, fr2, S2, kp, tm, rl, hgo⟩ hy
    obtain ⟨gr, d, ed, rd⟩ := hY j g2 H2 x H2' kp hj hy
    have rl' := rl.grows gr
    have kp' : Keep g1 H1 g2 H2' := kp.trans gr.keep
    have edrop : ds.drop j = d :: ds.drop (j + 1) := by
      obtain ⟨hb, e⟩ := List.getElem?_eq_some_iff.mp ed
      rw [List.drop_eq_getElem_cons hb, e]
    rw [edrop] at hgo
    have hgo' : (match asg tg d fr2 with
      | none => RS.no
      | some fr1 => match exs cf c.gl body fr1 S2 with
        | .nx fr2 S2 => loopGo tg (exs cf c.gl body) (ds.drop (j + 1)) fr2 S2
        | .ct fr2 S2 => loopGo tg (exs cf c.gl body) (ds.drop (j + 1)) fr2 S2
        | .bk fr2 S2 => .nx fr2 S2
        | r => r) = R0 := hgo
    cases q1 : asg tg d fr2 with
    | none => rw [q1] at hgo'; rw [← hgo'] at h1; exact h1.elim
    | some fr3 =>
      rw [q1] at hgo'
      dsimp only at hgo'
      refine ⟨g2, fr2, S2, d, fr3, rl', rd, q1, fun σ3 rel3 _ _ => ⟨g2, fr3, S2, rel3, ?_⟩⟩
      cases q2 : exs cf c.gl body fr3 S2 with
      | nx fr4 S4 =>
        rw [q2] at hgo'
        exact fun g4 H4 σ4 k4 t4 rel4 => ⟨g4, fr4, S4, kp'.trans k4, t4.trans tm, rel4, hgo'⟩
      | ct fr4 S4 =>
        rw [q2] at hgo'
        exact fun g4 H4 σ4 k4 t4 rel4 => ⟨g4, fr4, S4, kp'.trans k4, t4.trans tm, rel4, hgo'⟩
      | bk fr4 S4 =>
        rw [q2] at hgo'
        rw [← hgo'] at h1
        exact fun g4 H4 σ4 k4 t4 rel4 => h1 g4 H4 σ4 (kp'.trans k4) (t4.trans tm) rel4
      | rt v fr4 S4 =>
        rw [q2] at hgo'
        rw [← hgo'] at h1
        exact fun g4 H4 σ4 x k4 rel4 rv => h1 g4 H4 σ4 x (kp'.trans k4) rel4 (by rw [← tm]; exact rv)
      | ex e fr4 S4 =>
        rw [q2] at hgo'
        rw [← hgo'] at h1
        exact fun g4 H4 σ4 cl d k4 rel4 t4 xr => h1 g4 H4 σ4 cl d (kp'.trans k4) rel4 (t4.trans tm) xr
      | no =>
        rw [q2] at hgo'
        rw [← hgo'] at h1
        exact h1
  · rintro σ2 H2 ⟨g2, fr2, S2, kp, tm, rl, hgo⟩
    rw [List.drop_length] at hgo
    rw [← hgo] at h1
    exact h1 g2 H2 σ2 kp tm rl
theorem sss_nil : PSs X [] (tSs c X W cf .nil) := pss_nil.weak fun D σ H ⟨g, fr, S, rel, h⟩ => h g H σ Keep.refl rfl rel
theorem sss_cons {s : Sm} {ss : Sms} {st : Stmt} {sts : List Stmt} (h1 : PS X st (tSm c X W cf s)) (h2 : PSs X sts (tSs c X W cf ss)) : PSs X (st :: sts) (tSs c X W cf (.cons s ss)) := by
  refine (pss_cons h1 h2).weak fun D σ H ⟨g, fr, S, rel, h⟩ => ⟨g, fr, S, rel, ?_⟩
  have h' : AftS X.K X.mg W g H ((ex cf c.gl s fr S).seq fun fr S => exs cf c.gl ss fr S) D := h
  show AftS X.K X.mg W g H (ex cf c.gl s fr S) _
  cases e : ex cf c.gl s fr S with
  | nx f s1 =>
    rw [e] at h'
    exact fun g1 H1 σ1 k1 t1 rel1 => ⟨g1, f, s1, rel1, AftS.shift k1 t1 h'⟩
  | rt v f s1 => rw [e] at h'; exact h'
  | ex x f s1 => rw [e] at h'; exact h'
  | bk f s1 => rw [e] at h'; exact h'
  | ct f s1 => rw [e] at h'; exact h'
  | no => rw [e] at h'; exact h'
end

mutual
theorem ssv : ∀ (s : Sm) (c : SC) (X : Cx) (W : WX) (cf : CF), Good c X W cf → ∀ st, chkS s c st = true → PS X st (tSm c X W cf s)
  | .exp m => fun c X W cf G st h => Bool.noConfusion (show false = true from h)
  | .set i m => fun c X W cf G st h => by
      cases st with
      | Assign ts e p => cases ts with
        | nil => exact (nomatch h)
        | cons t ts => cases ts with
          | cons _ _ => cases t <;> exact (nomatch h)
          | nil => cases t with
            | Name x p2 =>
              obtain ⟨h, h4⟩ := and2 h
              obtain ⟨h, h3⟩ := and2 h
              obtain ⟨h1, h2⟩ := and2 h
              have h1' := of_decide_eq_true h1
              rw [Bool.or_eq_true, Bool.or_eq_true] at h3
              rcases h3 with (h3 | h3) | h3
              · exact ss_set G h1' h2 (noComp_sw h3 _ _ _) ((sv m c X W cf G).1 _ h4)
              · obtain ⟨h5, h6⟩ := and2 h3
                cases e with
                | ListComp el gs sc q =>
                  exact ss_set G h1' h2 (sw_cell (by rw [G.sc]; exact of_decide_eq_true h5)) ((sv m c X W cf G).1 _ h4)
                | _ => exact (nomatch h6)
              · obtain ⟨h5, h6⟩ := and2 h3
                cases m with
                | comp elt tg it cs =>
                  cases e with
                  | ListComp el gs sc q =>
                    cases gs with
                    | nil => exact (nomatch h4)
                    | cons g gs => cases gs with
                      | cons _ _ =>
                        obtain ⟨t, i, fs, as⟩ := g
                        cases as with
                        | ofNat n => cases n with
                          | zero => exact (nomatch h4)
                          | succ n => exact (nomatch h4)
                        | negSucc n => exact (nomatch h4)
                      | nil =>
                        obtain ⟨t, ie, fs, as⟩ := g
                        cases as with
                        | negSucc n => exact (nomatch h4)
                        | ofNat n => cases n with
                          | succ n => exact (nomatch h4)
                          | zero =>
                            obtain ⟨h6, b4⟩ := and2 h6
                            obtain ⟨h6, b3⟩ := and2 h6
                            obtain ⟨b1, b2⟩ := and2 h6
                            exact ss_setLc G h1' (of_decide_eq_true b2) (of_decide_eq_true b1) b3 (by rw [Bool.not_eq_true'] at b4; exact b4) h4
                  | _ => exact (nomatch h6)
                | _ => exact (nomatch h5)
            | _ => exact (nomatch h)
      | _ => exact (nomatch h)
  | .asg t m => fun c X W cf G st h => Bool.noConfusion (show false = true from h)
  | .ret m => fun c X W cf G st h => by
      cases st with
      | Return o p => cases o with
        | none => exact (nomatch h)
        | some e => exact ss_ret G h
      | _ => exact (nomatch h)
  | .retN => fun c X W cf G st h => Bool.noConfusion (show false = true from h)
  | .cond t a b => fun c X W cf G st h => by
      cases st with
      | If e x y p =>
        obtain ⟨h, h3⟩ := and2 h
        obtain ⟨h1, h2⟩ := and2 h
        exact ss_cond ((sv t c X W cf G).2 _ h1) (sssv a c X W cf G _ h2) (sssv b c X W cf G _ h3)
      | _ => exact (nomatch h)
  | .loop tg it body => fun c X W cf G st h => by
      cases st with
      | For t i b o p => cases o with
        | cons _ _ => exact (nomatch h)
        | nil =>
          obtain ⟨h, h4⟩ := and2 h
          obtain ⟨h, h3⟩ := and2 h
          obtain ⟨h, h2⟩ := and2 h
          obtain ⟨h0, h1⟩ := and2 h
          exact ss_loop G h0 h1 h2 (sws it c X W cf G _ _ h3) (sssv body c X W cf G _ h4)
      | _ => exact (nomatch h)
  | .loops tg it body => fun c X W cf G st h => Bool.noConfusion (show false = true from h)
  | .whl t b => fun c X W cf G st h => Bool.noConfusion (show false = true from h)
  | .raise x => fun c X W cf G st h => Bool.noConfusion (show false = true from h)
  | .raise1 x f m => fun c X W cf G st h => Bool.noConfusion (show false = true from h)
  | .appv i m => fun c X W cf G st h => Bool.noConfusion (show false = true from h)
  | .extv i m => fun c X W cf G st h => Bool.noConfusion (show false = true from h)
  | .remv i m => fun c X W cf G st h => Bool.noConfusion (show false = true from h)
  | .setv i ix m => fun c X W cf G st h => Bool.noConfusion (show false = true from h)
  | .setr a ix m => fun c X W cf G st h => by
      cases st with
      | Assign ts e p => cases ts with
        | nil => exact (nomatch h)
        | cons t ts => cases ts with
          | cons _ _ => cases t <;> exact (nomatch h)
          | nil => cases t with
            | Subscript x y p2 =>
                obtain ⟨h, h5⟩ := and2 h
                obtain ⟨h, h4⟩ := and2 h
                obtain ⟨h, h3⟩ := and2 h
                obtain ⟨h1, h2⟩ := and2 h
                exact ss_setr G h1 h2 ((sv a c X W cf G).1 _ h3) ((sv ix c X W cf G).1 _ h4) ((sv m c X W cf G).1 _ h5)
            | _ => exact (nomatch h)
      | _ => exact (nomatch h)
  | .pass => fun c X W cf G st h => Bool.noConfusion (show false = true from h)
  | .never => fun c X W cf G st h => ⟨fun pins s σ H D I ⟨g, fr, S, rel, h⟩ => h.elim⟩
  | .par i j m n => fun c X W cf G st h => Bool.noConfusion (show false = true from h)
  | .appr a m => fun c X W cf G st h => Bool.noConfusion (show false = true from h)
  | .clrv i => fun c X W cf G st h => Bool.noConfusion (show false = true from h)
  | .par3 i j k m n o => fun c X W cf G st h => Bool.noConfusion (show false = true from h)
  | .setf cl f a m => fun c X W cf G st h => Bool.noConfusion (show false = true from h)
  | .setrd a ix m => fun c X W cf G st h => Bool.noConfusion (show false = true from h)
  | .setd i ix m => fun c X W cf G st h => Bool.noConfusion (show false = true from h)
theorem sssv : ∀ (s : Sms) (c : SC) (X : Cx) (W : WX) (cf : CF), Good c X W cf → ∀ st, chkSs s c st = true → PSs X st (tSs c X W cf s)
  | .nil => fun c X W cf G st h => by
      cases st with
      | nil => exact sss_nil
      | cons _ _ => exact (nomatch h)
  | .cons s ss => fun c X W cf G st h => by
      cases st with
      | nil => exact (nomatch h)
      | cons x xs => exact sss_cons (ssv s c X W cf G _ (and2 h).1) (sssv ss c X W cf G _ (and2 h).2)
end
end Eng
end

section
namespace Eng
open PySem PySem.Spec PyProof.Rows L2

structure BP (d : He.DefD) : Prop where
  none : d.dfl = [] → ∀ (kV doc pm : Value) (an : Option Addr) (cdv ct : Value) (us : List Value), us.length = (d.params.args.map (·.arg)).length → bindArgs (PySem.W.fnOf d.name d.qual d.params d.body d.scope .none kV doc pm an cdv ct) ⟨us, []⟩ = pure ((d.params.args.map (·.arg)).zip us)
  some : d.dfl ≠ [] → ∀ (j : Nat), j ≤ d.dfl.length → ∀ (T : Addr) (kV doc pm : Value) (an : Option Addr) (cdv ct : Value) (us its : List Value), us.length + (d.dfl.length - j) = (d.params.args.map (·.arg)).length → its.length = d.dfl.length →
    ∃ k, bindArgs (PySem.W.fnOf d.name d.qual d.params d.body d.scope (.ref T) kV doc pm an cdv ct) ⟨us, []⟩ = seqItems? (.ref T) >>= k ∧ k (Option.some its.toArray) = pure ((d.params.args.map (·.arg)).zip (us ++ its.drop j))
def arrV {α : Type} (z : α) (pm : List PP) (us ws its : List α) : List α := pm.map fun
  | .pos i => us.getD i z
  | .key j => ws.getD j z
  | .dfl i _ => its.getD i z
def dflB (dfl : List D) : PP → Bool
  | .dfl i d => (match dfl[i]? with
    | some e => D.same e d
    | none => false)
  | _ => true
structure BKn (d : He.DefD) (dfl : List D) (q : KQ) : Prop where
  len : q.pm.length = (d.params.args.map (·.arg)).length
  dfs : q.pm.all (dflB dfl) = true
  none : d.dfl = [] → ∀ (kV doc pm : Value) (an : Option Addr) (cdv ct : Value) (us ws : List Value), us.length = q.n → ws.length = q.ks.length → bindArgs (PySem.W.fnOf d.name d.qual d.params d.body d.scope .none kV doc pm an cdv ct) ⟨us, q.ks.zip ws⟩ = pure ((d.params.args.map (·.arg)).zip (arrV .none q.pm us ws []))
  some : d.dfl ≠ [] → ∀ (T : Addr) (kV doc pm : Value) (an : Option Addr) (cdv ct : Value) (us its ws : List Value), us.length = q.n → its.length = d.dfl.length → ws.length = q.ks.length →
    ∃ k, bindArgs (PySem.W.fnOf d.name d.qual d.params d.body d.scope (.ref T) kV doc pm an cdv ct) ⟨us, q.ks.zip ws⟩ = seqItems? (.ref T) >>= k ∧ k (Option.some its.toArray) = pure ((d.params.args.map (·.arg)).zip (arrV .none q.pm us ws its))
theorem vals_getD : ∀ {vs : List V} {us : List Value} (i : Nat), Vals vs us → RelV (vs.getD i .non) (us.getD i .none)
  | _, _, _, .nil => rfl
  | _, _, 0, .cons h _ => h
  | _, _, i + 1, .cons _ t => vals_getD i t
theorem rds_getD {K : PySem.W.Frag} {g : Gh} {H : Hp} : ∀ {ds : List D} {vs : List V} (i : Nat), RDs K g H ds vs → RD K g H (ds.getD i .non) (vs.getD i .non)
  | _, _, _, .nil => .non
  | _, _, 0, .cons h _ => h
  | _, _, i + 1, .cons _ t => rds_getD i t
theorem arr_vals {us its ws : List Value} {vs ds zs : List V} (r1 : Vals vs us) (r2 : Vals ds its) (r3 : Vals zs ws) : ∀ pm : List PP, Vals (arrV .non pm vs zs ds) (arrV .none pm us ws its)
  | [] => .nil
  | .pos i :: pm => .cons (vals_getD i r1) (arr_vals r1 r2 r3 pm)
  | .key j :: pm => .cons (vals_getD j r3) (arr_vals r1 r2 r3 pm)
  | .dfl i d :: pm => .cons (vals_getD i r2) (arr_vals r1 r2 r3 pm)
theorem arr_rds {K : PySem.W.Frag} {g : Gh} {H : Hp} {xs ys dD : List D} {vs zs ds : List V} (r1 : RDs K g H xs vs) (r2 : RDs K g H ys zs) (r3 : RDs K g H dD ds) : ∀ pm : List PP, pm.all (dflB dD) = true → RDs K g H (arrD pm xs ys) (arrV .non pm vs zs ds)
  | [], _ => .nil
  | .pos i :: pm, h => .cons (rds_getD i r1) (arr_rds r1 r2 r3 pm (andJ h).2)
  | .key j :: pm, h => .cons (rds_getD j r2) (arr_rds r1 r2 r3 pm (andJ h).2)
  | .dfl i d :: pm, h => by
    refine .cons ?_ (arr_rds r1 r2 r3 pm (andJ h).2)
    have h1 : (match dD[i]? with | Option.some e => D.same e d | Option.none => false) = true := (andJ h).1
    cases e : dD[i]? with
    | none => rw [e] at h1; cases h1
    | some x =>
      rw [e] at h1
      obtain rfl := same_of x d h1
      have := rds_getD i r3
      rw [List.getD_eq_getElem?_getD, e] at this
      exact this
theorem kbinds0 {K : PySem.W.Frag} {x qual : Str} {params : Arguments} {body : List Stmt} {scope : Scope} {kws : List (Str × V)} {f : Addr} {fd : FuncData} {ps : List Str} (F : FunD K x qual params body scope [] kws f fd) (n : Nat) (ks : List Str) {gg : List Value → List Value → List Value} {gV : List V → List V → List V}
    (hrel : ∀ {vs zs : List V} {us ws : List Value}, Vals vs us → Vals zs ws → Vals (gV vs zs) (gg us ws))
    (h : ∀ (kV doc pm : Value) (an : Option Addr) (cdv ct : Value) (us ws : List Value), us.length = n → ws.length = ks.length → bindArgs (PySem.W.fnOf x qual params body scope .none kV doc pm an cdv ct) ⟨us, ks.zip ws⟩ = pure (ps.zip (gg us ws))) : KBn K fd ps n ks gg gV := by
  obtain ⟨oc, od, dV, kV, doc, pm, an, cdv, ct, osl, rfl, lk, hcd, hD, hK⟩ := F.ex
  rcases hD with ⟨_, rfl⟩ | ⟨e, _⟩
  · exact ⟨fun s us ws X l1 l2 => BindsTo.of_eq (h kV doc pm an cdv ct us ws l1 l2), hrel⟩
  · exact absurd rfl e
theorem kbinds1 {K : PySem.W.Frag} {x qual : Str} {params : Arguments} {body : List Stmt} {scope : Scope} {dvs : List V} {kws : List (Str × V)} {f : Addr} {fd : FuncData} {ps : List Str} (F : FunD K x qual params body scope dvs kws f fd) (n : Nat) (ks : List Str) (pm : List PP) (hd : dvs ≠ [])
    (h : ∀ (T : Addr) (kV doc pmv : Value) (an : Option Addr) (cdv ct : Value) (us its ws : List Value), us.length = n → its.length = dvs.length → ws.length = ks.length →
      ∃ k, bindArgs (PySem.W.fnOf x qual params body scope (.ref T) kV doc pmv an cdv ct) ⟨us, ks.zip ws⟩ = seqItems? (.ref T) >>= k ∧ k (some its.toArray) = pure (ps.zip (arrV .none pm us ws its))) :
    ∃ its : List Value, KBn K fd ps n ks (fun us ws => arrV .none pm us ws its) (fun vs zs => arrV .non pm vs zs dvs) := by
  obtain ⟨oc, od, dV, kV, doc, pmv, an, cdv, ct, osl, rfl, lk, hcd, hD, hK⟩ := F.ex
  rcases hD with ⟨e, _⟩ | ⟨_, T, o, its, m, rfl, lT, oT, rT⟩
  · exact absurd e hd
  · refine ⟨its, ⟨fun s us ws X l1 l2 => ?_, fun r1 r2 => arr_vals r1 rT r2 pm⟩⟩
    obtain ⟨k, e1, e2⟩ := h T kV doc pmv an cdv ct us its ws l1 rT.length.symm l2
    refine BindsTo.of_looks fun M => ?_
    rw [e1]
    exact looks_items X lT oT (.of_pure e2)
def scopeB (N ps : List Str) (sc : Scope) : Bool := decide (sc.kind = .function) && !sc.isCoroutine && !sc.isGenerator && decide N.Nodup && decide (N.take ps.length = ps) && (ps.all fun x => decide (sc.names.lookup x = some .local) || decide (sc.names.lookup x = some .cell)) &&
  sc.names.all fun y => decide (y.2 ≠ .free)
theorem scopeB_ok {N ps : List Str} {sc : Scope} (h : scopeB N ps sc = true) : FnScope N ps sc := by
  unfold scopeB at h
  obtain ⟨h, h7⟩ := and2 h
  obtain ⟨h, h6⟩ := and2 h
  obtain ⟨h, h5⟩ := and2 h
  obtain ⟨h, h4⟩ := and2 h
  obtain ⟨h, h3⟩ := and2 h
  obtain ⟨h1, h2⟩ := and2 h
  refine ⟨of_decide_eq_true h1, by rw [Bool.not_eq_true'] at h2; exact h2, by rw [Bool.not_eq_true'] at h3; exact h3, of_decide_eq_true h4, of_decide_eq_true h5, fun x hx => ?_, fun y hy => of_decide_eq_true (List.all_eq_true.mp h7 y hy)⟩
  have := List.all_eq_true.mp h6 x hx
  rw [Bool.or_eq_true] at this
  exact this.imp of_decide_eq_true of_decide_eq_true

theorem start_rel {K : PySem.W.Frag} {mg : Str → Option Value} {g : Gh} {S : Store} {H : Hp} {ds : List D} {vs : List V} {N : List Str} {d : Df} (st : StR K mg g S H) (r : RDs K g H ds vs) (hn : N.length = d.ns) (hp : ds.length ≤ d.ns) :
    Rel K mg g (d.start ds) S (L2.start N vs) H := by
  have hl : ds.length = vs.length := r.length
  have get1 : ∀ (i : Nat) v, (d.start ds)[i]? = some (some v) → ∃ e, ds[i]? = some e ∧ v = .fz e := fun i v e => by
    unfold Df.start at e
    by_cases hi : i < ds.length
    · rw [List.getElem?_append_left (by rw [List.length_map]; exact hi), List.getElem?_map] at e
      cases q : ds[i]? with
      | none => rw [q] at e; cases e
      | some x => rw [q] at e; exact ⟨x, rfl, (Option.some.inj (Option.some.inj e)).symm⟩
    · rw [List.getElem?_append_right (by rw [List.length_map]; omega)] at e
      obtain ⟨_, e⟩ := List.getElem?_eq_some_iff.mp e
      rw [List.getElem_replicate] at e
      cases e
  refine ⟨?_, fun i v e => ?_, fun i j c c' a ne e1 e2 e3 => ?_, st⟩
  · unfold Df.start L2.start
    rw [List.length_append, List.length_append, List.length_map, List.length_map, List.length_replicate, List.length_replicate, hl, hn]
  · obtain ⟨x, e1, rfl⟩ := get1 i v e
    obtain ⟨y, e2, e3⟩ := r.get e1
    refine ⟨y, ?_, e3⟩
    unfold L2.start
    have hi : i < vs.length := (List.getElem?_eq_some_iff.mp e2).1
    rw [List.getElem?_append_left (by rw [List.length_map]; exact hi), List.getElem?_map, e2]; rfl
  · obtain ⟨x, _, e⟩ := get1 i _ e1
    cases e
theorem StR.noOwn {K : PySem.W.Frag} {mg : Str → Option Value} {g : Gh} {S : Store} {H : Hp} (r : StR K mg g S H) : StR K mg ⟨g.rho, [], g.tmp⟩ S H := by
  have av : ∀ a, Gh.av ⟨g.rho, [], g.tmp⟩ a → g.av a := fun a z => by
    rcases z with z | z | z
    · exact .inl z
    · exact (nomatch z)
    · exact .inr (.inr z)
  exact ⟨r.len, r.nd, fun n c a e q => (r.cell n c a e q).mono (Mono.less av fun _ _ z => z) rfl, fun a z => ⟨fun w => (nomatch w), (r.rt a z).2⟩, fun a z => (nomatch z), fun a z => r.tr a (av a z)⟩
theorem mono_noOwn {K : PySem.W.Frag} {g : Gh} {H : Hp} : Mono K g H ⟨g.rho, [], g.tmp⟩ H := Mono.less (fun a z => by
    rcases z with z | z | z
    · exact .inl z
    · exact (nomatch z)
    · exact .inr (.inr z)) fun _ _ z => z
theorem Keep.noOwn {g g' : Gh} {H H' : Hp} (k : Keep g H g' H') : Keep g H ⟨g'.rho, [], g'.tmp⟩ H' := ⟨fun a o e n m => ⟨(k.keep a o e n m).1, (k.keep a o e n m).2.1, fun z => (nomatch z)⟩, k.tmp, k.tups, k.pre⟩
theorem rV.noOwn {K : PySem.W.Frag} {mg : Str → Option Value} {g : Gh} {H : Hp} {t : List Addr} {v : Val} {x : V} (h : rV K mg t g H v x) : rV K mg t ⟨g.rho, [], g.tmp⟩ H v x := by
  cases v with
  | fz d => exact ⟨h.1, h.2.mono mono_noOwn⟩
  | own c => obtain ⟨a, e, h1, h2, h3⟩ := h; exact ⟨a, e, h1, h2, h3.mono mono_noOwn rfl⟩

theorem fnG_of {prog : Program} {w : World} {K : PySem.W.Frag} {mg : Str → Option Value} {base : Heap} {x qual : Str} {params : Arguments} {body : List Stmt} {scope : Scope} {dvs : List V} {kws : List (Str × V)} {fa : Addr} {fd : FuncData} {N qs : List Str} {n : Nat} {sp : Sp}
    (F : FunD K x qual params body scope dvs kws fa fd) (S : FnScope N qs scope) (ar : ∀ xs H Q E, sp xs H Q E → xs.length = qs.length)
    (hb : ∀ (cv : Value) (A : Around) (out : List Env) (s : Shared) (H : Hp) (xs : List V) (Q : VK) (E : XK), (∃ oc od osl, K.lookup fa = some ⟨oc, od, .func fd, osl⟩ ∧ fd.code = cv ∧ PySem.W.codeIn K cv qual = true) → A.guards = some [] → Room n (A.deeper (envOfC qual scope s.heap.objs.size fa cv)) → sp xs H Q E →
      ∃ t, PSs (cxOf (L2.CX prog w) prog w K mg base N qual scope fa cv A out s H E) body t ∧ t { nx := fun _ H' => Q .non H', rt := Q } (L2.start N xs) H) : FnG prog w K mg base (n + 1) fa fd qs sp := by
  obtain ⟨oc, od, dV, kV, doc, pm, an, cv, ct, osl, rfl, look, code, _, _⟩ := F.ex
  refine ⟨ar, fun A out s H ags us xs Q E hq hr e0 bd rx hs => ?_⟩
  have old := fun b o (z : base.get? b = some o) => (e0.bs b o z).1
  have kin := e0.mod.kin.keeps old
  have kinds : ∀ y ∈ qs.zip us, scope.names.lookup y.1 = some .local ∨ (scope.names.lookup y.1 = some .cell ∧ ((cellsFrom (s.heap.objs.size + 1) scope.names []).lookup y.1).isSome = true) := by
    intro y hy
    have my := (List.of_mem_zip (a := y.1) (b := y.2) hy).1
    exact (S.par y.1 my).imp id fun z => ⟨z, PySem.W.cellsFrom_some _ _ _ (.inl z)⟩
  refine codeAny_call_function hr.depth (kin _ _ look) rfl S.co S.gen rfl (PySem.W.codeRec_of kin code) (bd _ _ _ _ (wpAny_newFunctionEnv_cells S.kind kinds fun env he s1 ic => ?_))
  subst he
  obtain ⟨t, pt, ht⟩ := hb cv A out s H xs Q E ⟨oc, od, osl, look, rfl, code⟩ hq (hr.deeper _) hs
  have inv0 := inv_start (CX := L2.CX prog w) (E := E) S hr.hd e0 (ar _ _ _ _ hs) rx ic
  refine ⟨(e0.mod.nolimit.keeps old).keeps ic.toInCall.keep, codeAny_func (wpAny_mono (pt.run [] s1 (L2.start N xs) H _ inv0 ht) (fun fl s2 z => ?_) fun _ _ z => z)⟩
  match fl, z with
  | .ret u, ⟨v, _, H2, J, rv, q⟩ => exact ⟨v, H2, J.os, J.bare, J.base, J.hok, rv, q⟩
  | .next, ⟨_, H2, J, q⟩ => exact ⟨V.non, H2, J.os, J.bare, J.base, J.hok, rfl, q⟩
  | .brk, ⟨_, _, _, q⟩ => exact q.elim
  | .cont, ⟨_, _, _, q⟩ => exact q.elim
structure Amb (prog : Program) (w : World) (K : PySem.W.Frag) (mg : Str → Option Value) (xs : List Str) (gl : Str → Option D) (cls : List Str) (ats : List (Str × Str)) (hk : List (Str × (List (Str × Hd) × Option Str))) (xf : List (Str × Str)) (xz : XZ) : Prop where
  blt : ∀ x ∈ bltNames, mg x = none
  gl : ∀ x d, gl x = some d → ∃ u v, mg x = some u ∧ RelV v u ∧ ∀ g H, RD K g H d v
  exc : ∀ x, xs.contains x = true → ∃ C, mg x = some (.ref C) ∧ PySem.W.excIn K C [.type "ValueError", .type "Exception", .type "BaseException", .type "object"] "ValueError.__new__" = true ∧
    PySem.W.keepIn K (.ref C) = true ∧ PySem.W.subIn K (.ref C) (.type "BaseException") = some true ∧ PySem.W.typeIn K (.ref C) = some (.type "type")
  cs : ∀ cl, cls.contains cl = true → ∃ C, mg cl = some (.ref C) ∧ Cls K C ∧ IsCls K C
  ats : ∀ cl f, ats.contains (cl, f) = true → cls.contains cl = true → ∃ C, mg cl = some (.ref C) ∧ NoAttr K C f
  hk : ∀ f hs df, hk.lookup f = some (hs, df) → CatchOk K mg f hs df
  xf : ∀ x f, xf.contains (x, f) = true → ∃ (C fI : Addr) (fd : FuncData) (ps : List Str), mg x = some (.ref C) ∧ OexC K C ∧ PySem.W.findIn K (.ref C) "__init__" = some (some (.ref fI)) ∧ PySem.W.typeIn K (.ref fI) = some (.type "function") ∧ (∀ base, FnOk prog w K mg base C8.CX0 1 fI fd ps (spXi C f)) ∧ Binds K fd ps []
  xi : ∀ k cl b, xz.xi k cl = some b → XiOk K mg k cl b
  xg : ∀ x f, xz.xg.contains (x, f) = true → XgOk K mg x f
def Able (prog : Program) (w : World) (K : PySem.W.Frag) (mg : Str → Option Value) (base : Heap) (cf : CF) (f : Str) (a : Addr) (k : Nat) (ar : AR) : Prop :=
  ∃ fd ps dD, FnG prog w K mg base k a fd ps (spC K mg (cf f) ps.length) ∧ ps.length = ar.2 ∧ (∀ n, ar.1 ≤ n → n ≤ ps.length → ps.length ≤ n + List.length dD ∧ ∃ dvs ds, Vals dvs ds ∧ Binds K fd ps ds ∧ (∀ g H, RDs K g H (dD.drop (n + dD.length - ps.length)) dvs)) ∧
    (∀ ds S, ds.length ≤ ps.length → ps.length ≤ ds.length + dD.length → cf f ds S = cf f (ds ++ dD.drop (ds.length + dD.length - ps.length)) S) ∧ ∀ q ∈ ar.kw, KwOk K fd ps q
theorem def_ok {prog : Program} {w : World} {K : PySem.W.Frag} {mg : Str → Option Value} {base : Heap} {fs xs : List Str} {gl : Str → Option D} {cs : List Str} {ats : List (Str × Str)} {ms : List (Str × Str × Str)} {ar : Str → AR} {tbs : List Str} {hk : List (Str × (List (Str × Hd) × Option Str))} {xf : List (Str × Str)} {xz : XZ} (am : Amb prog w K mg xs gl cs ats hk xf xz) {x qual : Str} {params : Arguments} {body : List Stmt} {scope : Scope} {dvs : List V} {kws : List (Str × V)} {f : Addr} {fd : FuncData} {d : Df} {N : List Str} {n : Nat} {cf : CF} {m : List D → Store → RC}
    (F : FunD K x qual params body scope dvs kws f fd) (hs : scopeB N (params.args.map (·.arg)) scope = true) (hN : N.length = d.ns) (hp : (params.args.map (·.arg)).length = d.ps) (hps : d.ps ≤ d.ns) (hc : chkSs d.body { sc := scope, N := N, fs := fs, gl := gl, xs := xs, top := true, ar := ar, ms := ms, cs := cs, ats := ats, me := qual, tbs := tbs, hk := hk, xf := xf, xz := xz } body = true)
    (hm : ∀ ds S, m ds S = runDf cf gl d ds S) (hT : tbs.contains qual = true → f = He.fAd K (qual, none) ∧ LamX.TabB base mg (He.cT K (qual, none)).1 (He.cT K (qual, none)).2)
    (hf : ∀ g, fs.contains g = true → ∃ a, Able prog w K mg base cf g a n (ar g) ∧ mg g = some (.ref a) ∧ PySem.W.keepIn K (.ref a) = true)
    (hme : ∀ g cl q, ms.contains (g, cl, q) = true → ∃ a C, Able prog w K mg base cf g a n (ar g) ∧ mg cl = some (.ref C) ∧ Cls K C ∧ Meth K C q a ∧ (q = "__init__" → Mk K C a)) :
    FnG prog w K mg base (n + 4) f fd (params.args.map (·.arg)) (spC K mg m (params.args.map (·.arg)).length) := by
  refine fnG_of F (N := N) (scopeB_ok hs) (fun vs H Q E h => h.1) (fun cdv A outer s H vs Q E hcd hq hr h => ?_)
  obtain ⟨hl, g, S, ds, e0, st, r, h⟩ := h
  have hds : ds.length = d.ps := by rw [r.length, hl, hp]
  have hpad : d.pad ds = ds := by
    unfold Df.pad
    rw [List.drop_eq_nil_of_le (by omega), List.append_nil]
  rw [hm] at h
  unfold runDf at h
  rw [hpad, if_pos hds] at h
  let c : SC := { sc := scope, N := N, fs := fs, gl := gl, xs := xs, top := true, ar := ar, ms := ms, cs := cs, ats := ats, me := qual, tbs := tbs, hk := hk, xf := xf, xz := xz }
  let X : Cx := cxOf (L2.CX prog w) prog w K mg base N qual scope f cdv A outer s H E
  have G : Good c X (fun cls d _ H => E cls d H) cf := {
    sc := rfl
    N := rfl
    nd := (scopeB_ok hs).nd
    calm := rfl
    tk := fun _ => takes_of rfl rfl rfl rfl
    po := fun _ => passes_of rfl
    air := airs_of rfl rfl (takes_of rfl rfl rfl rfl) fun _ _ _ _ _ h => h
    un := by have := hr.un; show (A.deeper _).units + 100 < cLine; omega
    gd := hq
    fn := fun y hy => let ⟨a, F, mg, kp⟩ := hf y hy; ⟨n, a, F, hr.mono (by omega), mg, kp⟩
    blt := am.blt
    gl := am.gl
    exc := am.exc
    ms := fun y cl q hy => let ⟨a, C, F, h1, h2, h3, h4⟩ := hme y cl q hy; ⟨n, a, C, F, hr.mono (by omega), h1, h2, h3, h4⟩
    cs := am.cs
    ats := am.ats
    top := fun _ _ => rfl
    hk := am.hk
    xf := fun _ x f hx => let ⟨C, fI, fd, ps, h1, h2, h3, h4, h5, h6⟩ := am.xf x f hx; ⟨C, fI, fd, ps, 1, h1, h2, h3, h4, h5 base, hr.mono (by omega), h6⟩
    xi := am.xi
    xg := am.xg
    lam := fun _ ht => by
      obtain ⟨rfl, tb⟩ := hT ht
      obtain ⟨oc, od, osl, lk, e1, e2⟩ := hcd
      obtain ⟨co, rfl⟩ := He.codeIn_ref e2
      have e3 := He.codeOf_eq lk e1
      have tb : LamX.TabB base mg (He.codeOf K (qual, none)) (He.cT K (qual, none)).2 := tb
      rw [e3] at tb
      refine ⟨co, n + 1, rfl, tb, rfl, hr, fun y hy => ?_, fun y cl q hy => ?_⟩
      · obtain ⟨a, F, h1, h2⟩ := hf y hy
        exact ⟨n, a, Nat.le_succ n, F, h1, h2⟩
      · obtain ⟨a, C, F, h1, h2, h3, h4⟩ := hme y cl q hy
        exact ⟨n, a, C, Nat.le_refl _, F, h1, h2, h3, h4⟩ }
  refine ⟨tSs c X _ cf d.body, sssv d.body c X _ cf G body hc, g, d.start ds, S, start_rel st r hN (by omega), ?_⟩
  show AftS K mg _ g H (exs cf gl d.body (d.start ds) S) _
  cases e : exs cf gl d.body (d.start ds) S with
  | nx fr' S' =>
    rw [e] at h
    exact fun g' H' σ' k t rel => h ⟨g'.rho, [], g'.tmp⟩ H' .non k.noOwn rfl rel.st.noOwn ⟨t, .non⟩
  | rt v fr' S' =>
    rw [e] at h
    exact fun g' H' σ' x k rel rv => h ⟨g'.rho, [], g'.tmp⟩ H' x k.noOwn rfl rel.st.noOwn rv.noOwn
  | ex x fr' S' =>
    rw [e] at h
    exact fun g' H' σ' cl dd k rel t xr => h ⟨g'.rho, [], g'.tmp⟩ H' cl dd k.noOwn rfl rel.st.noOwn t (xr.mono mono_noOwn)
  | bk fr' S' => rw [e] at h; exact h.elim
  | ct fr' S' => rw [e] at h; exact h.elim
  | no => rw [e] at h; exact h

def hwB (h : Hw) : Bool := decide (h.d.at_ = (h.d.qual, none)) && decide (h.d.name = h.d.qual) && h.d.dfl.isEmpty && h.d.kwd.isEmpty && scopeB h.N [h.a] h.d.scope && decide (h.d.params.args.map (·.arg) = [h.a]) && decide (h.N[0]? = some h.a) && isVis (h.d.scope.names.lookup h.a) &&
  !(h.a == ("__debug__" : Str)) && !(h.a == ("__classdict__" : Str)) && catchB h.d.scope h.N h.a h.hs h.df h.d.body
def xwB (h : Xw) : Bool := decide (h.d.at_ = (h.x, some ("__init__" : Str))) && h.d.dfl.isEmpty && h.d.kwd.isEmpty && scopeB h.N [h.sf, h.by_] h.d.scope && decide (h.d.params.args.map (·.arg) = [h.sf, h.by_]) && xiB h.N h.d.scope h.nd h.f h.sf h.by_ h.d.body
def Pr.hwOk (p : Pr) : Bool := p.hw.all hwB && p.xw.all xwB
def Pr.BPW (p : Pr) : Prop := (∀ h ∈ p.hw, BP h.d) ∧ ∀ h ∈ p.xw, BP h.d
theorem nInitB_ok {K : PySem.W.Frag} {N : Addr} (h : nInitB K N = true) : NInit K N := by
  unfold nInitB at h
  rw [Bool.and_eq_true, Bool.and_eq_true] at h
  obtain ⟨⟨h1, h2⟩, h3⟩ := h
  refine ⟨h1, of_decide_eq_true h2, ?_⟩
  split at h3
  · rename_i v e
    rw [e, of_decide_eq_true h3]
  · cases h3
theorem fldB_ok {K : PySem.W.Frag} {C : Addr} {f : Str} (h : fldB K C f = true) : ExFld K C f := by
  unfold fldB at h
  obtain ⟨h, h5⟩ := and2 h
  obtain ⟨h, h4⟩ := and2 h
  obtain ⟨h, h3⟩ := and2 h
  obtain ⟨h1, h2⟩ := and2 h
  exact ⟨of_decide_eq_true h1, of_decide_eq_true h2, of_decide_eq_true h3, of_decide_eq_true h4, h5⟩
def Pr.row (p : Pr) (x : Str) : Option Rw := p.defs.find? fun r => decide (r.d.qual = x)
def Pr.gl (p : Pr) (x : Str) : Option D := match p.gi.lookup x with
  | some i => some (.int i)
  | none => (p.gs.lookup x).map .str
def Pr.P (p : Pr) (x : Str) : Option Df := (p.row x).map (·.f)
def Pr.ar (p : Pr) (x : Str) : AR := match p.row x with
  | some r => ⟨r.f.ps - r.f.dfl.length, r.f.ps, r.kw⟩
  | none => ⟨1, 0, []⟩
def dvB : He.Dv → D → Bool
  | .non, .non => true
  | .bl b, .bl c => b == c
  | .int i, .int j => decide (i = j)
  | .str x, .str y => decide (x = y)
  | _, _ => false
def dvsB : List He.Dv → List D → Bool
  | [], [] => true
  | v :: vs, d :: ds => dvB v d && dvsB vs ds
  | _, _ => false
theorem dvsB_rel {K : PySem.W.Frag} : ∀ {vs : List He.Dv} {ds : List D}, dvsB vs ds = true → vs.length = ds.length ∧ ∀ g H, RDs K g H ds (vs.map (He.Dv.v K))
  | [], [], _ => ⟨rfl, fun _ _ => .nil⟩
  | [], _ :: _, h => nomatch h
  | _ :: _, [], h => nomatch h
  | v :: vs, d :: ds, h => by
    have h' : (dvB v d && dvsB vs ds) = true := h
    rw [Bool.and_eq_true] at h'
    obtain ⟨e, ih⟩ := dvsB_rel (K := K) h'.2
    refine ⟨by simp [e], fun g H => .cons ?_ (ih g H)⟩
    have h1 := h'.1
    cases v <;> cases d <;> first | (cases h1; done) | skip
    · exact .non
    · rename_i b c
      have h2 : (b == c) = true := h1
      have : b = c := by simpa using h2
      subst this; exact .bl _
    · obtain rfl := of_decide_eq_true h1; exact .int _
    · obtain rfl := of_decide_eq_true h1; exact .str _
def atB (p : Pr) (r : Rw) : Bool := match r.d.at_ with
  | (x, none) => decide (x = r.d.qual)
  | (c, some _) => p.cs.contains c
def tabB (p : Pr) (r : Rw) : Bool := !p.tbs.contains r.d.qual || decide (r.d.at_ = (r.d.qual, none))
def Rw.ok (p : Pr) (r : Rw) : Bool := tabB p r && atB p r && dvsB r.d.dfl r.f.dfl && decide (r.f.dfl.length ≤ r.f.ps) && r.d.kwd.isEmpty && scopeB r.N (r.d.params.args.map (·.arg)) r.d.scope && decide (r.N.length = r.f.ns) && decide ((r.d.params.args.map (·.arg)).length = r.f.ps) &&
  decide (r.f.ps ≤ r.f.ns) && chkSs r.f.body { sc := r.d.scope, N := r.N, fs := p.fs, gl := p.gl, xs := p.xs, top := true, ar := p.ar, ms := p.ms, cs := p.cs, ats := p.ats, me := r.d.qual, tbs := p.tbs, hk := p.hk, xf := p.xf, xz := p.xz } r.d.body
def Pr.ok (p : Pr) : Bool := p.defs.all (Rw.ok p)
theorem fact_mem {fa : List He.Fa} {fn : List He.DefD} {K : PySem.W.Frag} (c : He.SaysD fa fn K) {f : He.Fa} (h : f ∈ fa) : f.ok K = true := by
  obtain ⟨i, hi, e⟩ := List.getElem_of_mem h
  exact c.fact i (f := f) (by rw [List.getElem?_eq_getElem hi, e])
theorem lookup_mem {α : Type} {x : Str} {v : α} : ∀ {l : List (Str × α)}, l.lookup x = some v → (x, v) ∈ l
  | [], h => nomatch h
  | (y, w) :: r, h => by
    rw [List.lookup_cons] at h
    split at h
    · rename_i e
      cases h
      have : x = y := by simpa using e
      rw [this]
      exact List.mem_cons_self
    · exact List.mem_cons_of_mem _ (lookup_mem h)
section
variable {p : Pr} {f : He.Fa}
theorem fa_0 (h : f ∈ p.fa0) : f ∈ p.fa := List.mem_append.mpr (.inl h)
theorem fa_hx (h : f ∈ p.hx.map He.Fa.glo) : f ∈ p.fa := List.mem_append.mpr (.inr (List.mem_append.mpr (.inl h)))
theorem fa_h3 (h : f ∈ p.hw.map (fun h => He.Fa.glo h.d.qual) ++ (p.xw.map (fun h => He.Fa.glo h.x) ++ (p.xw.map (fun h => He.Fa.glo h.nd) ++ p.xv.map fun q => He.Fa.glo q.1))) : f ∈ p.fa := List.mem_append.mpr (.inr (List.mem_append.mpr (.inr h)))
theorem fa_hw (h : f ∈ p.hw.map fun h => He.Fa.glo h.d.qual) : f ∈ p.fa := fa_h3 (List.mem_append.mpr (.inl h))
theorem fa_xx (h : f ∈ p.xw.map fun h => He.Fa.glo h.x) : f ∈ p.fa := fa_h3 (List.mem_append.mpr (.inr (List.mem_append.mpr (.inl h))))
theorem fa_xn (h : f ∈ p.xw.map fun h => He.Fa.glo h.nd) : f ∈ p.fa := fa_h3 (List.mem_append.mpr (.inr (List.mem_append.mpr (.inr (List.mem_append.mpr (.inl h))))))
theorem fa_xv (h : f ∈ p.xv.map fun q => He.Fa.glo q.1) : f ∈ p.fa := fa_h3 (List.mem_append.mpr (.inr (List.mem_append.mpr (.inr (List.mem_append.mpr (.inr h))))))
theorem fn_mem {r : Rw} (h : r ∈ p.defs) : r.d ∈ p.fn := List.mem_append.mpr (.inl (List.mem_map.mpr ⟨r, h, rfl⟩))
theorem fn_hw {r : Hw} (h : r ∈ p.hw) : r.d ∈ p.fn := List.mem_append.mpr (.inr (List.mem_append.mpr (.inl (List.mem_map.mpr ⟨r, h, rfl⟩))))
theorem fn_xw {r : Xw} (h : r ∈ p.xw) : r.d ∈ p.fn := List.mem_append.mpr (.inr (List.mem_append.mpr (.inr (List.mem_map.mpr ⟨r, h, rfl⟩))))
theorem fa_fs (h : f ∈ p.fs.map He.Fa.glo) : f ∈ p.fa := fa_0 (List.mem_append.mpr (.inl h))
theorem fa_blt (h : f ∈ bltNames.map He.Fa.free) : f ∈ p.fa := fa_0 (List.mem_append.mpr (.inr (List.mem_append.mpr (.inl h))))
theorem fa_2 (h : f ∈ p.xs.map He.Fa.glo ++ (p.xs.map .exc ++ (p.gi.map (fun q => .int q.1 q.2) ++ (p.gs.map (fun q => .str q.1 q.2) ++ (p.cs.map .glo ++ (p.cs.map .cls ++ (p.ats.map (fun q => .noat q.1 q.2) ++ p.mfa))))))) : f ∈ p.fa := fa_0 (List.mem_append.mpr (.inr (List.mem_append.mpr (.inr h))))
theorem fa_xg (h : f ∈ p.xs.map He.Fa.glo) : f ∈ p.fa := fa_2 (List.mem_append.mpr (.inl h))
theorem fa_3 (h : f ∈ p.xs.map He.Fa.exc ++ (p.gi.map (fun q => .int q.1 q.2) ++ (p.gs.map (fun q => .str q.1 q.2) ++ (p.cs.map .glo ++ (p.cs.map .cls ++ (p.ats.map (fun q => .noat q.1 q.2) ++ p.mfa)))))) : f ∈ p.fa := fa_2 (List.mem_append.mpr (.inr h))
theorem fa_xe (h : f ∈ p.xs.map He.Fa.exc) : f ∈ p.fa := fa_3 (List.mem_append.mpr (.inl h))
theorem fa_4 (h : f ∈ p.gi.map (fun q => He.Fa.int q.1 q.2) ++ (p.gs.map (fun q => .str q.1 q.2) ++ (p.cs.map .glo ++ (p.cs.map .cls ++ (p.ats.map (fun q => .noat q.1 q.2) ++ p.mfa))))) : f ∈ p.fa := fa_3 (List.mem_append.mpr (.inr h))
theorem fa_gi (h : f ∈ p.gi.map (fun q => He.Fa.int q.1 q.2)) : f ∈ p.fa := fa_4 (List.mem_append.mpr (.inl h))
theorem fa_5 (h : f ∈ p.gs.map (fun q => He.Fa.str q.1 q.2) ++ (p.cs.map .glo ++ (p.cs.map .cls ++ (p.ats.map (fun q => .noat q.1 q.2) ++ p.mfa)))) : f ∈ p.fa := fa_4 (List.mem_append.mpr (.inr h))
theorem fa_gs (h : f ∈ p.gs.map (fun q => He.Fa.str q.1 q.2)) : f ∈ p.fa := fa_5 (List.mem_append.mpr (.inl h))
theorem fa_6 (h : f ∈ p.cs.map He.Fa.glo ++ (p.cs.map .cls ++ (p.ats.map (fun q => .noat q.1 q.2) ++ p.mfa))) : f ∈ p.fa := fa_5 (List.mem_append.mpr (.inr h))
theorem fa_cg (h : f ∈ p.cs.map He.Fa.glo) : f ∈ p.fa := fa_6 (List.mem_append.mpr (.inl h))
theorem fa_7 (h : f ∈ p.cs.map He.Fa.cls ++ (p.ats.map (fun q => .noat q.1 q.2) ++ p.mfa)) : f ∈ p.fa := fa_6 (List.mem_append.mpr (.inr h))
theorem fa_cc (h : f ∈ p.cs.map He.Fa.cls) : f ∈ p.fa := fa_7 (List.mem_append.mpr (.inl h))
theorem fa_8 (h : f ∈ p.ats.map (fun q => He.Fa.noat q.1 q.2) ++ p.mfa) : f ∈ p.fa := fa_7 (List.mem_append.mpr (.inr h))
theorem fa_at (h : f ∈ p.ats.map (fun q => He.Fa.noat q.1 q.2)) : f ∈ p.fa := fa_8 (List.mem_append.mpr (.inl h))
theorem fa_mm (h : f ∈ p.ms.map (fun q => He.Fa.meth q.2.1 q.2.2)) : f ∈ p.fa := fa_8 (List.mem_append.mpr (.inr (List.mem_append.mpr (.inl h))))
theorem fa_mk (h : f ∈ (p.ms.filter fun q => decide (q.2.2 = ("__init__" : Str))).map fun q => He.Fa.mkr q.2.1) : f ∈ p.fa := fa_8 (List.mem_append.mpr (.inr (List.mem_append.mpr (.inr h))))
end
theorem Pr.amb {p : Pr} {prog : Program} {w : World} {K : PySem.W.Frag} {h : Heap} {mg : Str → Option Value} (KX : K.In h) (G : h.Ns mainGlobals mg) (c : He.SaysD p.fa p.fn K) (cb : p.clsB K = true) (cx : p.exX K = true) (hwk : p.hwOk = true) (hbw : p.BPW) : Amb prog w K mg p.xs p.gl p.cs p.ats p.hk p.xf p.xz where
  blt := fun x hx => He.free_ok KX G (fact_mem c (fa_blt (List.mem_map.mpr ⟨x, hx, rfl⟩)))
  gl := fun x d e => by
    unfold Pr.gl at e
    cases q : p.gi.lookup x with
    | some i =>
      rw [q] at e
      cases e
      obtain ⟨t, e⟩ := He.int_ok KX G (fact_mem c (fa_gi (List.mem_map.mpr ⟨(x, i), lookup_mem q, rfl⟩)))
      exact ⟨_, .int i, e, ⟨t, rfl⟩, fun _ _ => .int i⟩
    | none =>
      rw [q] at e
      cases q2 : p.gs.lookup x with
      | none => rw [q2] at e; cases e
      | some z =>
        rw [q2] at e
        cases e
        obtain ⟨t, e⟩ := He.str_ok KX G (fact_mem c (fa_gs (List.mem_map.mpr ⟨(x, z), lookup_mem q2, rfl⟩)))
        exact ⟨_, .str z, e, ⟨t, rfl⟩, fun _ _ => .str z⟩
  exc := fun x hx => by
    have hx' : x ∈ p.xs := by simpa using hx
    obtain ⟨h1, h2, h3, h4⟩ := He.exc_ok (fact_mem c (fa_xe (List.mem_map.mpr ⟨x, hx', rfl⟩)))
    exact ⟨_, He.glo_ok KX G (fact_mem c (fa_xg (List.mem_map.mpr ⟨x, hx', rfl⟩))), h1, h2, h3, h4⟩
  cs := fun x hx => by
    have hx' : x ∈ p.cs := by simpa using hx
    have hb := List.all_eq_true.mp cb x hx'
    rw [Bool.and_eq_true, Bool.and_eq_true] at hb
    exact ⟨_, He.glo_ok KX G (fact_mem c (fa_cg (List.mem_map.mpr ⟨x, hx', rfl⟩))), He.cls_ok (fact_mem c (fa_cc (List.mem_map.mpr ⟨x, hx', rfl⟩))), hb.1.1, hb.1.2, hb.2⟩
  ats := fun x f hx hc => by
    have hx' : (x, f) ∈ p.ats := by simpa using hx
    have hc' : x ∈ p.cs := by simpa using hc
    exact ⟨_, He.glo_ok KX G (fact_mem c (fa_cg (List.mem_map.mpr ⟨x, hc', rfl⟩))), He.noat_ok (fact_mem c (fa_at (List.mem_map.mpr ⟨(x, f), hx', rfl⟩)))⟩
  hk := fun f hs df e => by
    obtain ⟨h, hm, eh⟩ := List.mem_map.mp (look_mem e)
    cases eh
    have b := List.all_eq_true.mp (and2 hwk).1 h hm
    unfold hwB at b
    obtain ⟨b, b11⟩ := and2 b
    obtain ⟨b, b10⟩ := and2 b
    obtain ⟨b, b9⟩ := and2 b
    obtain ⟨b, b8⟩ := and2 b
    obtain ⟨b, b7⟩ := and2 b
    obtain ⟨b, b6⟩ := and2 b
    obtain ⟨b, b5⟩ := and2 b
    obtain ⟨b, b4⟩ := and2 b
    obtain ⟨b, b3⟩ := and2 b
    obtain ⟨b1, b2⟩ := and2 b
    obtain ⟨fd, F⟩ := He.SaysD.defs c (fn_hw hm)
    have dn : h.d.dvs K = [] := by
      unfold He.DefD.dvs
      rw [List.isEmpty_iff.mp b3]; rfl
    rw [dn, of_decide_eq_true b1] at F
    have B := F.bindsN ((hbw.1 h hm).none (List.isEmpty_iff.mp b3))
    rw [of_decide_eq_true b6] at B
    rw [of_decide_eq_true b2] at F
    have kp := F.kp
    obtain ⟨oc, od, dV, kV, doc, pm, an, cg, ct, osl, rfl, lk, code, _, _⟩ := F.ex
    rw [Bool.not_eq_true'] at b9 b10
    have mgx : ∀ x z, (x, z) ∈ h.hs → mg x = some (.ref (He.ga K x)) := fun x z hx => He.glo_ok KX G (fact_mem c (fa_hx (List.mem_map.mpr ⟨x, List.mem_flatMap.mpr ⟨h, hm, List.mem_map.mpr ⟨(x, z), hx, rfl⟩⟩, rfl⟩)))
    refine ⟨He.ga K h.d.qual, h.d.params, h.d.body, h.d.scope, dV, kV, doc, pm, cg, ct, oc, an, od, osl, h.N, h.a, He.glo_ok KX G (fact_mem c (fa_hw (List.mem_map.mpr ⟨h, hm, rfl⟩))), kp, lk, code, B, scopeB_ok b5, of_decide_eq_true b7, ?_, b9, b10, b11, fun x z hx => ⟨_, mgx x z hx, fun z' f e => fldB_ok (by
      have q := (and2 (List.all_eq_true.mp (List.all_eq_true.mp (and2 cx).1 h hm) (x, z) hx)).2
      rw [e] at q; exact q)⟩, fun x z y v hx hy C D eC eD => ?_⟩
    · cases e : h.d.scope.names.lookup h.a with
      | none => rw [e] at b8; cases b8
      | some k =>
        rw [e] at b8
        unfold Vis
        rw [e]
        cases k with
        | «local» => exact .inl rfl
        | cell => exact .inr (.inl rfl)
        | free => exact .inr (.inr rfl)
        | globalExplicit => cases b8
        | globalImplicit => cases b8
    · rw [mgx x z hx] at eC
      rw [mgx y v hy] at eD
      cases eC; cases eD
      exact of_decide_eq_true (List.all_eq_true.mp (and2 (List.all_eq_true.mp (List.all_eq_true.mp (and2 cx).1 h hm) (x, z) hx)).1 (y, v) hy)
  xi := fun k cl b e => by
    have xb := (and2 (and2 (and2 cx).2).2).1
    have glo : ∀ {x : Str} {s : List Str}, p.xv.lookup x = some s → mg x = some (.ref (He.ga K x)) ∧ (x, s) ∈ p.xv := fun {x s} q => ⟨He.glo_ok KX G (fact_mem c (fa_xv (List.mem_map.mpr ⟨(x, s), lookup_mem q, rfl⟩))), lookup_mem q⟩
    have e' : ((p.xv.lookup k).bind fun s => if cl = "ValueError" ∨ (p.xv.lookup cl).isSome = true then some (s.contains cl) else none) = some b := e
    cases q : p.xv.lookup k with
    | none => rw [q] at e'; cases e'
    | some s =>
      rw [q] at e'
      obtain ⟨gk, mk⟩ := glo q
      have row := List.all_eq_true.mp xb _ mk
      obtain ⟨r1, r23⟩ := and2 row
      obtain ⟨r2, r3⟩ := and2 r23
      have e2 : (if cl = "ValueError" ∨ (p.xv.lookup cl).isSome = true then some (s.contains cl) else none) = some b := e'
      by_cases hv : cl = "ValueError"
      · rw [if_pos (.inl hv)] at e2
        refine ⟨_, .type "ValueError", gk, .inr ⟨hv, rfl⟩, excCB_ok r1, ?_⟩
        rw [← e2, hv]
        exact of_decide_eq_true r2
      · by_cases hc : (p.xv.lookup cl).isSome = true
        · rw [if_pos (.inr hc)] at e2
          obtain ⟨s2, q2⟩ := Option.isSome_iff_exists.mp hc
          obtain ⟨gc, mc⟩ := glo q2
          refine ⟨_, .ref (He.ga K cl), gk, .inl ⟨_, gc, rfl⟩, excCB_ok r1, ?_⟩
          rw [← e2]
          exact of_decide_eq_true (List.all_eq_true.mp r3 _ mc)
        · rw [if_neg (fun z => z.elim hv hc)] at e2
          cases e2
  xg := fun x f hx => by
    have hx2 : (if p.xv.isEmpty then [] else p.xf).contains (x, f) = true := hx
    cases he : p.xv.isEmpty with
    | true => rw [he, if_pos rfl] at hx2; cases hx2
    | false =>
      rw [he, if_neg Bool.false_ne_true] at hx2
      have xb := (and2 (and2 (and2 cx).2).2).2
      rw [he, Bool.false_or] at xb
      have hx' : (x, f) ∈ p.xf := by simpa using hx2
      obtain ⟨h, hm, eh⟩ := List.mem_map.mp hx'
      cases eh
      exact ⟨_, He.glo_ok KX G (fact_mem c (fa_xx (List.mem_map.mpr ⟨h, hm, rfl⟩))), fldB_ok (List.all_eq_true.mp xb h hm)⟩
  xf := fun x f hx => by
    have hx' : (x, f) ∈ p.xf := by simpa using hx
    obtain ⟨h, hm, eh⟩ := List.mem_map.mp hx'
    cases eh
    have b := List.all_eq_true.mp (and2 hwk).2 h hm
    unfold xwB at b
    obtain ⟨b, b6⟩ := and2 b
    obtain ⟨b, b5⟩ := and2 b
    obtain ⟨b, b4⟩ := and2 b
    obtain ⟨b, b3⟩ := and2 b
    obtain ⟨b1, b2⟩ := and2 b
    have k := List.all_eq_true.mp (and2 (and2 cx).2).1 h hm
    unfold xwK at k
    obtain ⟨k, k5⟩ := and2 k
    obtain ⟨k, k4⟩ := and2 k
    obtain ⟨k, k3⟩ := and2 k
    obtain ⟨k1, k2⟩ := and2 k
    obtain ⟨fd, F⟩ := He.SaysD.defs c (fn_xw hm)
    have dn : h.d.dvs K = [] := by
      unfold He.DefD.dvs
      rw [List.isEmpty_iff.mp b2]; rfl
    have kn : h.d.kws K = [] := by
      unfold He.DefD.kws
      rw [List.isEmpty_iff.mp b3]; rfl
    rw [dn, of_decide_eq_true b1] at F
    have B := F.bindsN ((hbw.2 h hm).none (List.isEmpty_iff.mp b2))
    rw [of_decide_eq_true b5] at B
    rw [kn] at F
    exact ⟨_, _, fd, [h.sf, h.by_], He.glo_ok KX G (fact_mem c (fa_xx (List.mem_map.mpr ⟨h, hm, rfl⟩))), oexB_ok k1, of_decide_eq_true k2, of_decide_eq_true k3,
      fun base => xi_ok F (scopeB_ok b4) b6 (He.glo_ok KX G (fact_mem c (fa_xn (List.mem_map.mpr ⟨h, hm, rfl⟩)))) (nInitB_ok k5) (oexB_ok k1) (of_decide_eq_true k4), B⟩
theorem able_of {p : Pr} {prog : Program} {w : World} {K : PySem.W.Frag} {mg : Str → Option Value} {base : Heap} {n : Nat} {r : Rw} {a : Addr} {fd : FuncData} (hrow : Rw.ok p r = true) (hfr : p.row r.d.qual = some r) (hb : BP r.d) (hbk : ∀ q ∈ r.kw, BKn r.d r.f.dfl q)
    (F : FunD K r.d.name r.d.qual r.d.params r.d.body r.d.scope (r.d.dvs K) (r.d.kws K) a fd) (ih : FnG prog w K mg base (4 * n) a fd (r.d.params.args.map (·.arg)) (spC K mg (callN p.P p.gl n r.d.qual) (r.d.params.args.map (·.arg)).length)) :
    Able prog w K mg base (callN p.P p.gl n) r.d.qual a (4 * n) (p.ar r.d.qual) := by
  unfold Rw.ok at hrow
  obtain ⟨q, c10⟩ := and2 hrow
  obtain ⟨q, c7⟩ := and2 q
  obtain ⟨q, c6⟩ := and2 q
  obtain ⟨q, c5⟩ := and2 q
  obtain ⟨q, c4⟩ := and2 q
  obtain ⟨q, c3⟩ := and2 q
  obtain ⟨q, c2b⟩ := and2 q
  obtain ⟨c1, c2⟩ := and2 q
  have hps := of_decide_eq_true c6
  have hdl := of_decide_eq_true c2b
  obtain ⟨hlen, hrd⟩ := dvsB_rel (K := K) c2
  have ar1 : p.ar r.d.qual = ⟨r.f.ps - r.f.dfl.length, r.f.ps, r.kw⟩ := by unfold Pr.ar; rw [hfr]
  refine ⟨fd, _, r.f.dfl, ih, by rw [ar1]; exact hps, fun k hk1 hk2 => ?_, fun ds S h1 h2 => ?_, fun q hq => ?_⟩
  · rw [ar1] at hk1
    have hk1 : r.f.ps - r.f.dfl.length ≤ k := hk1
    rw [hps] at hk2 ⊢
    refine ⟨by omega, ?_⟩
    by_cases e : r.d.dfl = []
    · have e2 : r.f.dfl = [] := by
        have : r.f.dfl.length = 0 := by rw [← hlen, e]; rfl
        exact List.eq_nil_of_length_eq_zero this
      have dn : r.d.dvs K = [] := by unfold He.DefD.dvs; rw [e]; rfl
      rw [dn] at F
      refine ⟨[], [], .nil, F.bindsN (hb.none e), fun g H => ?_⟩
      rw [e2, List.drop_nil]; exact .nil
    · have hdn : (r.d.dvs K) ≠ [] := by
        unfold He.DefD.dvs
        intro z
        exact e (List.map_eq_nil_iff.mp z)
      have hdl2 : (r.d.dvs K).length = r.d.dfl.length := by unfold He.DefD.dvs; rw [List.length_map]
      obtain ⟨ds, hv, hbn⟩ := F.binds1 (ps := r.d.params.args.map (·.arg)) k (k + r.f.dfl.length - r.f.ps) hdn (by rw [hdl2, hlen, hps]; omega) (fun T kV doc pm an cdv ct us its hu hi => by
        rw [hdl2] at hi
        exact hb.some e (k + r.f.dfl.length - r.f.ps) (by rw [hlen]; omega) T kV doc pm an cdv ct us its (by rw [hu, hlen, hps]; omega) hi)
      refine ⟨_, ds, hv, hbn, fun g H => ?_⟩
      exact (hrd g H).drop _
  · rw [hps] at h1 h2 ⊢
    cases n with
    | zero => rfl
    | succ n =>
      have eP : p.P r.d.qual = some r.f := by unfold Pr.P; rw [hfr]; rfl
      show (match p.P r.d.qual with | some d => runDf (callN p.P p.gl n) p.gl d ds S | none => .no) = (match p.P r.d.qual with | some d => runDf (callN p.P p.gl n) p.gl d (ds ++ r.f.dfl.drop (ds.length + r.f.dfl.length - r.f.ps)) S | none => .no)
      rw [eP]
      show runDf _ _ r.f ds S = runDf _ _ r.f (r.f.pad ds) S
      have hl : (r.f.pad ds).length = r.f.ps := by
        unfold Df.pad
        rw [List.length_append, List.length_drop]; omega
      have e2 : r.f.pad (r.f.pad ds) = r.f.pad ds := by
        generalize r.f.pad ds = zs at hl
        unfold Df.pad
        rw [List.drop_eq_nil_of_le (by omega)]
        exact List.append_nil _
      unfold runDf
      rw [e2]
  · rw [ar1] at hq
    have bk := hbk q hq
    refine ⟨bk.len, ?_⟩
    by_cases e : r.d.dfl = []
    · have e2 : r.f.dfl = [] := by
        have : r.f.dfl.length = 0 := by rw [← hlen, e]; rfl
        exact List.eq_nil_of_length_eq_zero this
      have dn : r.d.dvs K = [] := by unfold He.DefD.dvs; rw [e]; rfl
      rw [dn] at F
      refine ⟨fun us ws => arrV .none q.pm us ws [], fun vs zs => arrV .non q.pm vs zs [], kbinds0 F q.n q.ks (fun r1 r2 => arr_vals r1 .nil r2 q.pm) (bk.none e), fun g H xs vs ys zs r1 r2 => ?_⟩
      have := bk.dfs
      rw [e2] at this
      exact arr_rds r1 r2 .nil q.pm this
    · have hdn : (r.d.dvs K) ≠ [] := by
        unfold He.DefD.dvs
        intro z
        exact e (List.map_eq_nil_iff.mp z)
      have hdl2 : (r.d.dvs K).length = r.d.dfl.length := by unfold He.DefD.dvs; rw [List.length_map]
      obtain ⟨its, hk⟩ := kbinds1 F q.n q.ks q.pm hdn (fun T kV doc pm an cdv ct us its ws l1 l2 l3 => bk.some e T kV doc pm an cdv ct us its ws l1 (by rw [hdl2] at l2; exact l2) l3)
      exact ⟨_, _, hk, fun g H xs vs ys zs r1 r2 => arr_rds r1 r2 (hrd g H) q.pm bk.dfs⟩
theorem row_of {p : Pr} {r : Rw} (h : r ∈ p.defs) : ∃ r1, p.row r.d.qual = some r1 ∧ r1 ∈ p.defs ∧ r1.d.qual = r.d.qual := by
  cases e : p.row r.d.qual with
  | some r1 => exact ⟨r1, rfl, List.mem_of_find?_eq_some e, by simpa using List.find?_some e⟩
  | none => exact absurd (List.find?_eq_none.mp e r h) (by simp)
def Pr.nd (p : Pr) : Bool := decide (p.defs.map (·.d.qual)).Nodup
theorem qual_inj : ∀ {l : List Rw}, (l.map (·.d.qual)).Nodup → ∀ {r r1 : Rw}, r ∈ l → r1 ∈ l → r1.d.qual = r.d.qual → r1 = r
  | [], _, _, _, h, _, _ => nomatch h
  | a :: l, nd, r, r1, h, h2, h3 => by
    rw [List.map_cons, List.nodup_cons] at nd
    rcases List.mem_cons.mp h with e | h <;> rcases List.mem_cons.mp h2 with e2 | h2
    · rw [e, e2]
    · exact absurd (List.mem_map.mpr ⟨r1, h2, by rw [h3, e]⟩) nd.1
    · exact absurd (List.mem_map.mpr ⟨r, h, by rw [← h3, e2]⟩) nd.1
    · exact qual_inj nd.2 h h2 h3
theorem row_self {p : Pr} (hn : p.nd = true) {r : Rw} (h : r ∈ p.defs) : p.row r.d.qual = some r := by
  obtain ⟨r1, h1, h2, h3⟩ := row_of h
  rw [h1, qual_inj (of_decide_eq_true hn) h h2 h3]
theorem Pr.fn_ok {p : Pr} {prog : Program} {w : World} {K : PySem.W.Frag} {h base : Heap} {mg : Str → Option Value} (hok : p.ok = true) (hnd : p.nd = true) (hb : ∀ r ∈ p.defs, BP r.d ∧ ∀ q ∈ r.kw, BKn r.d r.f.dfl q) (KX : K.In h) (G : h.Ns mainGlobals mg) (c : He.SaysD p.fa p.fn K) (cb : p.clsB K = true) (cx : p.exX K = true) (hwk : p.hwOk = true) (hbw : p.BPW) (tb : ∀ f ∈ p.tbs, LamX.TabB base mg (He.cT K (f, none)).1 (He.cT K (f, none)).2) :
    ∀ (n : Nat) (r : Rw), r ∈ p.defs → ∀ fd, FunD K r.d.name r.d.qual r.d.params r.d.body r.d.scope (r.d.dvs K) (r.d.kws K) (He.fAd K r.d.at_) fd →
      FnG prog w K mg base (4 * n) (He.fAd K r.d.at_) fd (r.d.params.args.map (·.arg)) (spC K mg (callN p.P p.gl n r.d.qual) (r.d.params.args.map (·.arg)).length)
  | 0, r, _, fd, F => ⟨fun vs H Q E h => h.1, fun A outer s H args us vs Q E hq hr e0 b rv h => by
      obtain ⟨_, g, S, ds, _, _, _, z⟩ := h
      exact z.elim⟩
  | n + 1, r, hr, fd, F => by
    have hrow := List.all_eq_true.mp hok r hr
    unfold Rw.ok at hrow
    obtain ⟨q, b10⟩ := and2 hrow
    obtain ⟨q, b7⟩ := and2 q
    obtain ⟨q, b6⟩ := and2 q
    obtain ⟨q, b5⟩ := and2 q
    obtain ⟨q, b4⟩ := and2 q
    have each : ∀ r1 ∈ p.defs, Able prog w K mg base (callN p.P p.gl n) r1.d.qual (He.fAd K r1.d.at_) (4 * n) (p.ar r1.d.qual) ∧ PySem.W.keepIn K (.ref (He.fAd K r1.d.at_)) = true := fun r1 m1 => by
      obtain ⟨fd1, F1⟩ := He.SaysD.defs c (fn_mem m1)
      exact ⟨able_of (List.all_eq_true.mp hok r1 m1) (row_self hnd m1) (hb r1 m1).1 (hb r1 m1).2 F1 (Pr.fn_ok (prog := prog) (w := w) (base := base) hok hnd hb KX G c cb cx hwk hbw tb n r1 m1 fd1 F1), F1.kp⟩
    refine def_ok (prog := prog) (w := w) (base := base) (n := 4 * n) (cf := callN p.P p.gl n) (Pr.amb KX G c cb cx hwk hbw) F b4 (of_decide_eq_true b5) (of_decide_eq_true b6) (of_decide_eq_true b7) b10 (fun ds S => ?_) (fun ht => ?_) (fun y hy => ?_) (fun y cl m hy => ?_)
    · show (match p.P r.d.qual with | some d => runDf (callN p.P p.gl n) p.gl d ds S | none => .no) = _
      have : p.P r.d.qual = some r.f := by unfold Pr.P; rw [row_self hnd hr]; rfl
      rw [this]
    · have q1 := (and2 (and2 (and2 (and2 q).1).1).1).1
      have ht' : r.d.qual ∈ p.tbs := by simpa using ht
      unfold tabB at q1
      rw [ht, Bool.not_true, Bool.false_or] at q1
      exact ⟨by rw [of_decide_eq_true q1], tb _ ht'⟩
    · have hy' : y ∈ p.fs := by simpa using hy
      obtain ⟨r1, m1, rfl⟩ := List.mem_map.mp hy'
      obtain ⟨m1, hg⟩ := List.mem_filter.mp m1
      obtain ⟨e1, e2⟩ := each r1 m1
      have hrow1 := List.all_eq_true.mp hok r1 m1
      unfold Rw.ok at hrow1
      have c1 : atB p r1 = true := by
        obtain ⟨q, _⟩ := and2 hrow1
        obtain ⟨q, _⟩ := and2 q
        obtain ⟨q, _⟩ := and2 q
        obtain ⟨q, _⟩ := and2 q
        obtain ⟨q, _⟩ := and2 q
        obtain ⟨q, _⟩ := and2 q
        obtain ⟨q, _⟩ := and2 q
        exact (and2 (and2 q).1).2
      have hat : r1.d.at_ = (r1.d.qual, none) := by
        have hg' : r1.d.at_.2 = none := of_decide_eq_true hg
        unfold atB at c1
        cases ea : r1.d.at_ with
        | mk x o =>
          rw [ea] at hg' c1
          obtain rfl : o = none := hg'
          have : x = r1.d.qual := of_decide_eq_true c1
          rw [this]
      have ga : He.fAd K r1.d.at_ = He.ga K r1.d.qual := by rw [hat]; rfl
      rw [ga] at e1 e2
      exact ⟨_, e1, He.glo_ok KX G (fact_mem c (fa_fs (List.mem_map.mpr ⟨_, hy', rfl⟩))), e2⟩
    · have hy' : (y, cl, m) ∈ p.ms := by simpa using hy
      obtain ⟨r1, m1, he⟩ := List.mem_filterMap.mp hy'
      obtain ⟨e1, e2⟩ := each r1 m1
      have hrow1 := List.all_eq_true.mp hok r1 m1
      unfold Rw.ok at hrow1
      have c1 : atB p r1 = true := by
        obtain ⟨q, _⟩ := and2 hrow1
        obtain ⟨q, _⟩ := and2 q
        obtain ⟨q, _⟩ := and2 q
        obtain ⟨q, _⟩ := and2 q
        obtain ⟨q, _⟩ := and2 q
        obtain ⟨q, _⟩ := and2 q
        obtain ⟨q, _⟩ := and2 q
        exact (and2 (and2 q).1).2
      unfold atB at c1
      cases ea : r1.d.at_ with
      | mk x o =>
        rw [ea] at he c1
        cases o with
        | none => cases he
        | some m' =>
          obtain ⟨rfl, rfl, rfl⟩ : r1.d.qual = y ∧ x = cl ∧ m' = m := by
            have := Option.some.inj he
            exact ⟨congrArg (·.1) this, congrArg (·.2.1) this, congrArg (·.2.2) this⟩
          have hc : p.cs.contains x = true := c1
          have hc' : x ∈ p.cs := by simpa using hc
          have gm : He.fAd K r1.d.at_ = He.ma K (He.ga K x) m' := by rw [ea]; rfl
          rw [gm] at e1 e2
          refine ⟨_, _, e1, He.glo_ok KX G (fact_mem c (fa_cg (List.mem_map.mpr ⟨x, hc', rfl⟩))), He.cls_ok (fact_mem c (fa_cc (List.mem_map.mpr ⟨x, hc', rfl⟩))), He.meth_ok (fact_mem c (fa_mm (List.mem_map.mpr ⟨_, hy', rfl⟩))), fun hi => ?_⟩
          subst hi
          exact He.mkr_ok (fact_mem c (fa_mk (List.mem_map.mpr ⟨_, List.mem_filter.mpr ⟨hy', decide_eq_true rfl⟩, rfl⟩)))
theorem cx_never {prog : Program} {w : World} {H : Hp} {s s' : Shared} {u : Value} (z : L2.CX prog w [] H s (fun _ _ _ => False) u s') : False := by
  obtain ⟨a, B, H', cls, dd, _, _, _, _, _, _, _, z⟩ := z
  exact z
theorem law_callG {prog : Program} {w : World} {K : PySem.W.Frag} {mg mb : Str → Option Value} {n : Nat} {fa sa : Addr} {ts : List (Addr × Addr)} {fd : FuncData} {x : Str} {sp : Sp} {st : Shared} {us : List Value} {ns : List Int} (kin : K.In st.heap) (n1 : st.heap.Ns mainGlobals mg)
    (n2 : st.heap.Ns builtinsNs mb) (n3 : ∀ y : Str, y ≠ "__name__" → mb y = bootBuiltins y) (n4 : st.heap.NoLimit) (hg : st.gens = #[]) (te : ∀ p ∈ ts, st.heap.get? p.2 = some { cls := .none, data := .fields #[] }) (tn : ∀ p ∈ ts, K.lookup p.2 = none) (tc : ∀ p ∈ ts, PySem.W.CodeHd st.heap p.1 p.2)
    (bmn : ∃ (bm : Addr) (ob : Obj), mg "__builtins__" = some (.ref bm) ∧ bm ≠ builtinsNs ∧ st.heap.get? bm = some ob ∧ ob.cls = .type "module" ∧ ob.dict = some builtinsNs ∧ ob.data = .plain)
    (hs : st.heap.get? sa = some { cls := .type "list", data := .seq us.toArray }) (hi : IntsAre us ns) (hz : ns.length ≤ sizeLine) (hr : Room n callerA)
    (F : ∀ base : Heap, K.In base → base.Ns mainGlobals mg → (∀ p ∈ ts, LamX.TabB base mg p.1 p.2) → FnG prog w K mg base n fa fd [x] sp) (bd : ∀ (s : Shared) (u : Value), BindsTo s fd ⟨[u], []⟩ [(x, u)])
    (hp : ∀ H : Hp, (∀ p ∈ ts, H p.2 = some (.tbl #[])) → SqL K H sa (ns.map V.int) → sp [.ref sa] H (fun v _ => v = .bl true) fun _ _ _ => False) :
    codeAny (model prog w) callerA (.call (.ref fa) ⟨[.ref sa], []⟩) (fun r s' => r = .ok (.ret (.bool true)) ∧ OldK st.heap s'.heap ∧ s'.os = st.os ∧ AllBare s'.gens) st := by
  have ri := vals_ints hi
  let T : List Addr := ts.map (·.2)
  have atT : ∀ {b : Addr}, b ∈ T → ∃ p ∈ ts, p.2 = b := fun hb => List.mem_map.mp hb
  have inT : ∀ {p : Addr × Addr}, p ∈ ts → p.2 ∈ T := fun h => List.mem_map.mpr ⟨_, h, rfl⟩
  have obT : ∀ {b : Addr}, b ∈ T → st.heap.get? b = some { cls := .none, data := .fields #[] } := fun hb => by
    obtain ⟨p, hp, rfl⟩ := atT hb
    exact te p hp
  have saT : sa ∉ T := fun z => by
    have q := obT z
    rw [hs] at q
    have q2 := congrArg Obj.data (Option.some.inj q)
    exact nomatch (show Data.seq us.toArray _ = Data.fields #[] from q2)
  have main : ∀ H : Hp, (∀ p ∈ ts, H p.2 = some (.tbl #[])) → (∀ b, b ∉ T → H b = none ∨ ∃ o l, H b = some (.frz o (.lst l))) → SqL K H sa (ns.map V.int) → HOk prog w H st.heap → (∀ b u, H b = some u → b ∈ T ∨ (b = sa ∧ K.lookup sa = none)) →
      codeAny (model prog w) callerA (.call (.ref fa) ⟨[.ref sa], []⟩) (fun r s' => r = .ok (.ret (.bool true)) ∧ OldK st.heap s'.heap ∧ s'.os = st.os ∧ AllBare s'.gens) st := by
    intro H tH only sq ok at_
    have free : ∀ {b : Addr} {o : Obj}, st.heap.get? b = some o → (∀ l m, o.data ≠ .seq l m) → o.data ≠ .fields #[] → H b = none := by
      intro b o z y1 y2
      match q : H b with
      | none => rfl
      | some u =>
        rcases at_ b u q with t | ⟨rfl, _⟩
        · rw [obT t] at z
          cases z
          exact (y2 rfl).elim
        · rw [hs] at z
          cases z
          exact (y1 _ _ rfl).elim
    have keepN : ∀ {b : Addr} {m : Str → Option Value}, st.heap.Ns b m → (hidT st.heap H).Ns b m := by
      rintro b m ⟨o, es, ep, z, y, r⟩
      exact ⟨o, es, ep, hidT_get z (free z (fun l m t => by rw [y] at t; cases t) (fun t => by rw [y] at t; cases t)), y, r⟩
    have kb : K.In (hidT st.heap H) := by
      intro b o z
      refine hidT_get (kin b o z) ?_
      match q : H b with
      | none => rfl
      | some u =>
        rcases at_ b u q with t | ⟨rfl, y2⟩
        · obtain ⟨p, hp, rfl⟩ := atT t
          rw [tn p hp] at z
          exact nomatch z
        · rw [y2] at z
          exact nomatch z
    have lim : (hidT st.heap H).NoLimit := by
      obtain ⟨mc, y1, y2⟩ := n4
      exact ⟨mc, keepN y1, y2⟩
    have tabs : ∀ p ∈ ts, LamX.TabB (hidT st.heap H) mg p.1 p.2 := by
      intro p hp
      constructor
      · obtain ⟨o, fs, v1, v2, v3, v4, v5, v6, v7, c1, c2, c3, c4, c5, c6, c7, c8, c9, c10⟩ := tc p hp
        refine ⟨o, fs, v1, v2, v3, v4, v5, v6, v7, hidT_get c1 (free c1 (fun l m t => ?_) fun t => ?_), c2, c3, c4, c5, c6, c7, c8, c9, c10⟩
        · rw [c3] at t; cases t
        · rw [c3] at t
          cases t
          simp at c4
      · obtain ⟨bm, ob, d1, d2, d3, d4, d5, d6⟩ := bmn
        refine ⟨bm, ob, d1, d2, fun q => ?_, fun q => ?_, hidT_get d3 (free d3 (fun l m t => ?_) fun t => ?_), d4, d5, d6⟩
        · obtain ⟨o, es, ep, e1, e2, _⟩ := n1
          rw [q, e1] at d3
          cases d3
          rw [e2] at d6
          exact nomatch d6
        · rw [q, te p hp] at d3
          cases d3
          exact nomatch d6
        · rw [d6] at t; cases t
        · rw [d6] at t; cases t
      · intro q
        obtain ⟨o, es, ep, e1, e2, _⟩ := n1
        rw [q, te p hp] at e1
        cases e1
        exact nomatch e2
    have e0 : Env0 prog w K mg (hidT st.heap H) callerA [] st H :=
      { frames := rfl, mod := ⟨kb, keepN n1, ⟨mb, keepN n2, n3⟩, lim⟩, bs := fun b o z => of_hidT z, bsz := Nat.le_of_eq (hidT_size _ _), funs := trivial, frf := (fun b z => nomatch (show b ∈ ([] : List Addr) from z)), hok := ok, bare := .of_eq hg }
    have run := (F _ kb (keepN n1) tabs).go callerA [] st H ⟨[.ref sa], []⟩ [.ref sa] [.ref sa] _ _ rfl hr e0 (bd st (.ref sa)) (.cons rfl .nil) (hp H tH sq)
    refine codeAny_mono run fun r s' z => ?_
    match r, z with
    | .error e, z => exact (cx_never z).elim
    | .ok .next, z => exact z.elim
    | .ok .brk, z => exact z.elim
    | .ok .cont, z => exact z.elim
    | .ok (.ret u), ⟨v, H2, y1, y2, y3, y4, y5, y6⟩ =>
      have y6' : v = .bl true := y6
      subst y6'
      obtain rfl : u = Value.bool true := y5
      have same : ∀ b o, b ∉ T → st.heap.get? b = some o → s'.heap.get? b = some o := by
        intro b o nb z
        match q : H b with
        | none => exact y3.keep b o z q (fun m => nomatch (show b ∈ ([] : List Addr) from m)) (fun m => nomatch m)
        | some c =>
          obtain q2 | ⟨ob, l, q2⟩ := only b nb
          · rw [q] at q2; exact nomatch q2
          · have o1 := (ok b _ q2).1
            have o2 := (y4 b _ (y3.frzs b ob _ q2)).1
            rw [z] at o1
            cases o1
            exact o2
      have more : ∀ p ∈ ts, ∃ l : Array Value, s'.heap.get? p.2 = some { cls := .none, data := .fields l } := by
        intro p hp
        obtain ⟨l, q⟩ := y3.tbls p.2 #[] (tH p hp)
        exact ⟨_, y4 p.2 _ q⟩
      refine ⟨rfl, ⟨fun b o z => ?_, fun b o z => ?_⟩, y1, y2⟩
      · by_cases hb : b ∈ T
        · obtain ⟨p, hp, rfl⟩ := atT hb
          obtain ⟨l, q⟩ := more p hp
          rw [te p hp] at z
          cases z
          exact .inr (.inl ⟨((tc p hp).tab (te p hp)).isCodeTable, rfl, #[], l, rfl, (by rw [Array.empty_append]; exact q)⟩)
        · exact .inl (same b o hb z)
      · by_cases hb : b ∈ T
        · obtain ⟨p, hp, rfl⟩ := atT hb
          obtain ⟨l, q⟩ := more p hp
          exact ⟨_, q⟩
        · exact ⟨o, same b o hb z⟩
  match e : K.lookup sa with
  | some o =>
    have z := kin sa o e
    rw [hs] at z
    cases z
    let H0 : Hp := fun b => if b ∈ T then some (.tbl #[]) else none
    have h0 : ∀ b u, H0 b = some u → b ∈ T ∧ HO.tbl #[] = u := fun b u y => by
      by_cases t : b ∈ T
      · exact ⟨t, Option.some.inj ((if_pos t).symm.trans y)⟩
      · exact nomatch (if_neg t).symm.trans y
    refine main H0 (fun p hp => if_pos (inT hp)) (fun b nb => .inl (if_neg nb)) (.inr ⟨_, us.toArray, _, e, rfl, rfl, rfl, by rw [List.size_toArray, hi.length]; exact hz, by simpa using ri⟩) (fun b u y => ?_) (fun b u y => .inl (h0 b u y).1)
    obtain ⟨t, rfl⟩ := h0 b u y
    exact obT t
  | none =>
    let o : HO := .frz { cls := .type "list", data := .seq us.toArray } (.lst (ns.map V.int))
    let H0 : Hp := fun b => if b = sa then some o else if b ∈ T then some (.tbl #[]) else none
    have h0 : ∀ b u, H0 b = some u → (b = sa ∧ o = u) ∨ (b ∈ T ∧ HO.tbl #[] = u) := fun b u y => by
      by_cases q : b = sa
      · exact .inl ⟨q, Option.some.inj ((if_pos q).symm.trans y)⟩
      · have y2 := (if_neg q).symm.trans y
        by_cases t : b ∈ T
        · exact .inr ⟨t, Option.some.inj ((if_pos t).symm.trans y2)⟩
        · exact nomatch (if_neg t).symm.trans y2
    refine main H0 (fun p hp => (if_neg (show ¬ p.2 = sa from fun z => saT (z ▸ inT hp))).trans (if_pos (inT hp))) (fun b nb => ?_) (.inl (.inr ⟨_, if_pos rfl⟩)) (fun b u y => ?_) (fun b u y => ?_)
    · by_cases q : b = sa
      · exact .inr ⟨_, _, if_pos q⟩
      · exact .inl ((if_neg q).trans (if_neg nb))
    · rcases h0 b u y with ⟨rfl, rfl⟩ | ⟨t, rfl⟩
      · exact ⟨hs, by rw [List.length_map]; exact hz, us, _, ri, hs⟩
      · exact obT t
    · rcases h0 b u y with ⟨rfl, _⟩ | ⟨t, _⟩
      · exact .inr ⟨rfl, e⟩
      · exact .inl t
theorem Pr.law {p : Pr} {l : PySem.W.OpenLaw} {q : Program} {loose : List Str} {XP : (Str → Option Value) → Heap → Prop} {d : DefRec} {n : Nat} {x : Str} (hn : l.most = some 63) (hdf : d.params.defaults = []) (hr : Room (4 * n) callerA) (hok : p.ok = true) (hnd : p.nd = true)
    (hb : ∀ r ∈ p.defs, BP r.d ∧ ∀ q ∈ r.kw, BKn r.d r.f.dfl q) (hwk : p.hwOk = true) (hbw : p.BPW) (hnm : d.name = "law") (r : Rw) (hrl : p.row "law" = some r) (hat : r.d.at_ = (("law" : Str), none)) (hx : r.d.params.args.map (·.arg) = [x]) (hdl : r.d.dfl = [])
    (hlaw : ∀ ns : List Int, ns.length ≤ 63 → ∃ S, callN p.P p.gl n "law" [.scr (ns.map D.int)] (p.tbs.map Cell.tab) = .ok (.fz (.bl true)) S) :
    PySem.W.WalkO q loose XP (fun w h => ∃ K : PySem.W.Frag, K.In h ∧ He.SaysX p.fa p.fn [] p.tf p.ex w h K) l.row.toRowW d [] (fun f vs => PySem.call f vs) := by
  refine Att.attach_call hn hdf fun w _ st mg mb fa _ _ _ _ sa us ns Gd Y _ _ _ hmg hs hin hl hgn => ?_
  have G := Gd.T.g
  · obtain ⟨K, KX, cc⟩ := Y
    have c := cc.t.d
    obtain ⟨q1, cn⟩ := and2 cc.more
    obtain ⟨cb, cx⟩ := and2 q1
    have m1 : r ∈ p.defs := List.mem_of_find?_eq_some hrl
    have e1 : r.d.qual = "law" := by simpa using List.find?_some hrl
    obtain ⟨fd1, F1⟩ := He.SaysD.defs c (fn_mem m1)
    have d1 : r.d.dvs K = [] := by unfold He.DefD.dvs; rw [hdl]; rfl
    have hfs : ("law" : Str) ∈ p.fs := List.mem_map.mpr ⟨r, List.mem_filter.mpr ⟨m1, by unfold isGlo; rw [hat]; rfl⟩, e1⟩
    have gl := He.glo_ok KX G (fact_mem c (fa_fs (List.mem_map.mpr ⟨_, hfs, rfl⟩)))
    have efa : fa = He.fAd K r.d.at_ := by
      rw [hat]
      show fa = He.ga K "law"
      rw [hnm, gl] at hmg
      exact (Value.ref.inj (Option.some.inj hmg)).symm
    subst efa
    have tsm : ∀ z ∈ p.tbs.map (fun f => He.cT K (f, none)), ∃ f ∈ p.tf, He.cT K f = z := fun z hz => by
      obtain ⟨f, hf, rfl⟩ := List.mem_map.mp hz
      exact ⟨_, List.mem_map.mpr ⟨f, hf, rfl⟩, rfl⟩
    refine law_callG (ts := p.tbs.map fun f => He.cT K (f, none)) KX G Gd.T.b Gd.T.builtins Gd.T.nolimit hgn (fun z hz => ?_) (fun z hz => ?_) (fun z hz => ?_) Gd.T.bmain hs hin (Nat.le_trans hl (by decide)) hr (fun base _ _ tb => ?_) (fun s u => ?_) (fun H hT hS => ?_) (fd := fd1) (x := x) (sp := spC K mg (callN p.P p.gl n r.d.qual) 1)
    · obtain ⟨f, hf, rfl⟩ := tsm z hz
      exact cc.empty f hf
    · obtain ⟨f, hf, rfl⟩ := tsm z hz
      exact cc.out f hf
    · obtain ⟨f, hf, rfl⟩ := tsm z hz
      exact PySem.W.codeHd_of_K KX (cc.hd f hf)
    · have := Pr.fn_ok (prog := l.prog) (w := w) (base := base) hok hnd hb KX G c cb cx hwk hbw (fun f hf => tb _ (List.mem_map.mpr ⟨f, hf, rfl⟩)) n r m1 fd1 F1
      rw [hx] at this
      exact this
    · rw [d1] at F1
      have := F1.bindsA ((hb r m1).1.none hdl) s [u] (by rw [hx]; rfl)
      rw [hx] at this
      exact this
    · have hT' : ∀ f ∈ p.tbs, H (He.cT K (f, none)).2 = some (.tbl #[]) := fun f hf => hT _ (List.mem_map.mpr ⟨f, hf, rfl⟩)
      have rho : ∀ a, a ∈ p.tbs.map (fun f => (He.cT K (f, none)).2) → H a = some (.tbl #[]) := fun a ha => by
        obtain ⟨f, hf, rfl⟩ := List.mem_map.mp ha
        exact hT' f hf
      have av : ∀ a, Gh.av ⟨p.tbs.map (fun f => (He.cT K (f, none)).2), [], []⟩ a → a ∈ p.tbs.map (fun f => (He.cT K (f, none)).2) := fun a z => by
        rcases z with z | z | z
        · exact z
        · exact (nomatch z)
        · exact (nomatch z)
      refine ⟨rfl, ⟨p.tbs.map (fun f => (He.cT K (f, none)).2), [], []⟩, p.tbs.map Cell.tab, [.scr (ns.map D.int)], rfl, ⟨?_, of_decide_eq_true cn, fun n c a e q => ?_, fun a z => ⟨fun w => (nomatch w), fun w => (nomatch w)⟩, fun a z => (nomatch z), fun a z => ⟨_, rho a (av a z)⟩⟩, .one ?_, ?_⟩
      · show (p.tbs.map _).length = _
        rw [List.length_map, List.length_map]
      · have q : (p.tbs.map fun f => (He.cT K (f, none)).2)[n]? = some a := q
        rw [List.getElem?_map] at e q
        cases ef : p.tbs[n]? with
        | none => rw [ef] at e; cases e
        | some f =>
          rw [ef] at e q
          cases e
          have q : some (He.cT K (f, none)).2 = some a := q
          cases q
          refine ⟨rfl, #[], hT' f (List.mem_of_getElem? ef), True.intro, fun pp u hu => ?_⟩
          have hu : codeAmong pp [] = some u := hu
          simp [codeAmong] at hu
      · have rn : ∀ g, RDs K g H (ns.map D.int) (ns.map V.int) := fun g => by
          clear hS hl hin
          induction ns with
          | nil => exact .nil
          | cons k ks ih => exact .cons (.int k) ih
        rcases hS with hS | hS
        · refine .scr (.inl ⟨hS, fun z => ?_⟩) (rn _)
          have z := rho _ (av _ z)
          rcases hS with hS | ⟨o, hS⟩
          · rw [z] at hS; cases hS
          · rw [z] at hS; cases hS
        · exact .scr (.inr fun H' => .inr hS) (rn _)
      · rw [e1]
        obtain ⟨S, e⟩ := hlaw ns hl
        rw [e]
        intro g' H' x k _ _ rv
        exact RD.of_bl rv.2
end Eng
end

section
namespace K15
open PySem L2 Eng

theorem ok_places_many : Rw.ok pr r_places_many = true := by decide +kernel
theorem bp0_places_many : BP r_places_many.d := ⟨fun _ _ _ _ _ _ _ us hl => match us, hl with | [_], _ => rfl, fun h => absurd rfl h⟩
theorem bp_places_many : BP r_places_many.d ∧ ∀ q ∈ r_places_many.kw, BKn r_places_many.d r_places_many.f.dfl q := ⟨bp0_places_many, fun q hq => nomatch (show q ∈ ([] : List KQ) from hq)⟩
theorem ok_law_cell_at : Rw.ok pr r_law_cell_at = true := by decide +kernel
theorem bp0_law_cell_at : BP r_law_cell_at.d := ⟨fun _ _ _ _ _ _ _ us hl => match us, hl with | [_, _], _ => rfl, fun h => absurd rfl h⟩
theorem bp_law_cell_at : BP r_law_cell_at.d ∧ ∀ q ∈ r_law_cell_at.kw, BKn r_law_cell_at.d r_law_cell_at.f.dfl q := ⟨bp0_law_cell_at, fun q hq => nomatch (show q ∈ ([] : List KQ) from hq)⟩
theorem ok_law_pen : Rw.ok pr r_law_pen = true := by decide +kernel
theorem bp0_law_pen : BP r_law_pen.d := ⟨fun _ _ _ _ _ _ _ us hl => match us, hl with | [_], _ => rfl, fun h => absurd rfl h⟩
theorem bp_law_pen : BP r_law_pen.d ∧ ∀ q ∈ r_law_pen.kw, BKn r_law_pen.d r_law_pen.f.dfl q := ⟨bp0_law_pen, fun q hq => nomatch (show q ∈ ([] : List KQ) from hq)⟩
theorem ok_law_draw : Rw.ok pr r_law_draw = true := by decide +kernel
theorem bp0_law_draw : BP r_law_draw.d := ⟨fun _ _ _ _ _ _ _ us hl => match us, hl with | [_, _], _ => rfl, fun h => absurd rfl h⟩
theorem bp_law_draw : BP r_law_draw.d ∧ ∀ q ∈ r_law_draw.kw, BKn r_law_draw.d r_law_draw.f.dfl q := ⟨bp0_law_draw, fun q hq => nomatch (show q ∈ ([] : List KQ) from hq)⟩
theorem ok_law_none : Rw.ok pr r_law_none = true := by decide +kernel
theorem bp0_law_none : BP r_law_none.d := ⟨fun _ _ _ _ _ _ _ us hl => match us, hl with | [_], _ => rfl, fun h => absurd rfl h⟩
theorem bp_law_none : BP r_law_none.d ∧ ∀ q ∈ r_law_none.kw, BKn r_law_none.d r_law_none.f.dfl q := ⟨bp0_law_none, fun q hq => nomatch (show q ∈ ([] : List KQ) from hq)⟩
theorem ok_law_undone : Rw.ok pr r_law_undone = true := by decide +kernel
theorem bp0_law_undone : BP r_law_undone.d := ⟨fun _ _ _ _ _ _ _ us hl => match us, hl with | [_], _ => rfl, fun h => absurd rfl h⟩
theorem bp_law_undone : BP r_law_undone.d ∧ ∀ q ∈ r_law_undone.kw, BKn r_law_undone.d r_law_undone.f.dfl q := ⟨bp0_law_undone, fun q hq => nomatch (show q ∈ ([] : List KQ) from hq)⟩
theorem ok_law_right : Rw.ok pr r_law_right = true := by decide +kernel
theorem bp0_law_right : BP r_law_right.d := ⟨fun _ _ _ _ _ _ _ us hl => match us, hl with | [_, _], _ => rfl, fun h => absurd rfl h⟩
theorem bp_law_right : BP r_law_right.d ∧ ∀ q ∈ r_law_right.kw, BKn r_law_right.d r_law_right.f.dfl q := ⟨bp0_law_right, fun q hq => nomatch (show q ∈ ([] : List KQ) from hq)⟩
theorem ok_law : Rw.ok pr r_law = true := by decide +kernel
theorem bp0_law : BP r_law.d := ⟨fun _ _ _ _ _ _ _ us hl => match us, hl with | [_], _ => rfl, fun h => absurd rfl h⟩
theorem bp_law : BP r_law.d ∧ ∀ q ∈ r_law.kw, BKn r_law.d r_law.f.dfl q := ⟨bp0_law, fun q hq => nomatch (show q ∈ ([] : List KQ) from hq)⟩
theorem ok : pr.ok = true := by
  show rows.all (Rw.ok pr) = true
  simp only [rows, List.all_cons, List.all_nil, ok_places_many, ok_law_cell_at, ok_law_pen, ok_law_draw, ok_law_none, ok_law_undone, ok_law_right, ok_law, Bool.and_true]
theorem nd : pr.nd = true := by decide +kernel
theorem bp : ∀ r ∈ pr.defs, BP r.d ∧ ∀ q ∈ r.kw, BKn r.d r.f.dfl q := by
  intro r hr
  have hr' : r ∈ rows := hr
  simp only [rows, List.mem_cons, List.not_mem_nil, or_false] at hr'
  rcases hr' with rfl | rfl | rfl | rfl | rfl | rfl | rfl | rfl
  · exact bp_places_many
  · exact bp_law_cell_at
  · exact bp_law_pen
  · exact bp_law_draw
  · exact bp_law_none
  · exact bp_law_undone
  · exact bp_law_right
  · exact bp_law
theorem hwOk : pr.hwOk = true := by decide +kernel
theorem bpx_Short : BP xw_Short.d := ⟨fun _ _ _ _ _ _ _ us hl => match us, hl with | [_, _], _ => rfl, fun h => absurd rfl h⟩
theorem bpw1 : ∀ h ∈ pr.hw, BP h.d := fun h hh => nomatch (show h ∈ ([] : List Hw) from hh)
theorem bpw2 : ∀ h ∈ pr.xw, BP h.d := by
  intro h hh
  have hh' : h ∈ [xw_Short] := hh
  simp only [List.mem_cons, List.not_mem_nil, or_false] at hh'
  rcases hh' with rfl
  · exact bpx_Short
theorem bpw : pr.BPW := ⟨bpw1, bpw2⟩
end K15
end

section
namespace Eng
open PySem L2
section
variable {cf : CF} {gl : Str → Option D} {fr : Frame} {S : Store} {a b c : Xp} {es : Xs} {x y z : D}
theorem ev_con (d : D) : ev cf gl (.con d) fr S = .ok (.fz d) fr S := rfl
theorem ev_var (i : Nat) : ev cf gl (.var i) fr S = varX i fr S := rfl
def kBin2 (k : BK) (x y : D) (fr : Frame) (S : Store) : RX Val := RX.lift (binD k (look S x) (look S y)) fr S
def kBin1 (cf : CF) (gl : Str → Option D) (k : BK) (b : Xp) (x : D) (fr : Frame) (S : Store) : RX Val := (frzX (ev cf gl b fr S)).bind (kBin2 k x)
theorem ev_bin (k : BK) : ev cf gl (.bin k a b) fr S = (frzX (ev cf gl a fr S)).bind (kBin1 cf gl k b) := rfl
theorem kBin1_eq (k : BK) : kBin1 cf gl k b x fr S = (frzX (ev cf gl b fr S)).bind (kBin2 k x) := rfl
theorem kBin2_eq (k : BK) : kBin2 k x y fr S = RX.lift (binD k (look S x) (look S y)) fr S := rfl
def blF (r : Bool) : Val := .fz (.bl r)
def kCmp2 (k : CK) (x y : D) (fr : Frame) (S : Store) : RX Val := RX.lift ((cmpD k (look S x) (look S y)).map blF) fr S
def kCmp1 (cf : CF) (gl : Str → Option D) (k : CK) (b : Xp) (x : D) (fr : Frame) (S : Store) : RX Val := (frzX (ev cf gl b fr S)).bind (kCmp2 k x)
theorem ev_cmp (k : CK) : ev cf gl (.cmp k a b) fr S = (frzX (ev cf gl a fr S)).bind (kCmp1 cf gl k b) := rfl
theorem kCmp1_eq (k : CK) : kCmp1 cf gl k b x fr S = (frzX (ev cf gl b fr S)).bind (kCmp2 k x) := rfl
theorem kCmp2_eq (k : CK) : kCmp2 k x y fr S = RX.lift ((cmpD k (look S x) (look S y)).map blF) fr S := rfl
def kNot (x : D) (fr : Frame) (S : Store) : RX Val := match x with | .bl b => .ok (.fz (.bl (!b))) fr S | _ => .no
def kAnd (cf : CF) (gl : Str → Option D) (b : Xp) (x : D) (fr : Frame) (S : Store) : RX Val := match x with | .bl true => ev cf gl b fr S | .bl false => .ok (.fz (.bl false)) fr S | _ => .no
theorem ev_and : ev cf gl (.and a b) fr S = (frzX (ev cf gl a fr S)).bind (kAnd cf gl b) := rfl
theorem kAnd_t : kAnd cf gl b (.bl true) fr S = ev cf gl b fr S := rfl
def kIfe (cf : CF) (gl : Str → Option D) (a b : Xp) (t : Bool) (fr : Frame) (S : Store) : RX Val := match t with | true => ev cf gl a fr S | false => ev cf gl b fr S
def kTup (xs : List D) (fr : Frame) (S : Store) : RX Val := if xs.length ≤ sizeLine then .ok (.fz (.tup xs)) fr S else .no
theorem ev_tup : ev cf gl (.tup es) fr S = (evs cf gl es fr S).bind kTup := rfl
theorem kTup_2 (x0 x1 : D) : kTup [x0, x1] fr S = .ok (.fz (.tup [x0, x1])) fr S := if_pos (by show 2 ≤ sizeLine; decide)
theorem kTup_3 (x0 x1 x2 : D) : kTup [x0, x1, x2] fr S = .ok (.fz (.tup [x0, x1, x2])) fr S := if_pos (by show 3 ≤ sizeLine; decide)
def kLst (xs : List D) (fr : Frame) (S : Store) : RX Val := if xs.length ≤ sizeLine then .ok (.own (.lst xs)) fr S else .no
theorem ev_lst : ev cf gl (.lst es) fr S = (evs cf gl es fr S).bind kLst := rfl
theorem kLst_3 (x0 x1 x2 : D) : kLst [x0, x1, x2] fr S = .ok (.own (.lst [x0, x1, x2])) fr S := if_pos (by show 3 ≤ sizeLine; decide)
theorem kLst_4 (x0 x1 x2 x3 : D) : kLst [x0, x1, x2, x3] fr S = .ok (.own (.lst [x0, x1, x2, x3])) fr S := if_pos (by show 4 ≤ sizeLine; decide)
def kCall (cf : CF) (f : Str) (xs : List D) (fr : Frame) (S : Store) : RX Val := (cf f xs S).back fr
theorem ev_call (f : Str) : ev cf gl (.call f es) fr S = (evs cf gl es fr S).bind (kCall cf f) := rfl
theorem kCall_eq (f : Str) (xs : List D) : kCall cf f xs fr S = (cf f xs S).back fr := rfl
def kBlt (k : FK) (xs : List D) (fr : Frame) (S : Store) : RX Val := RX.lift (bltD k (xs.map (look S))) fr S
theorem ev_blt (k : FK) : ev cf gl (.blt k es) fr S = (evs cf gl es fr S).bind (kBlt k) := rfl
theorem kBlt_1 (k : FK) : kBlt k [x] fr S = RX.lift (bltD k [look S x]) fr S := rfl
theorem kBlt_2 (k : FK) : kBlt k [x, y] fr S = RX.lift (bltD k [look S x, look S y]) fr S := rfl
def oBlt (k : FK) : Option D → Option Val := fun o => o.bind fun d => bltD k [d]
theorem ev_bltv (k : FK) (i : Nat) : ev cf gl (.bltv k i) fr S = RX.lift (oBlt k (peek i fr S)) fr S := rfl
theorem oBlt_some (k : FK) (d : D) : oBlt k (some d) = bltD k [d] := rfl
def oSub (y : D) : Option D → Option Val := fun o => o.bind fun d => (subD d y).map Val.fz
def kSubv2 (i : Nat) (y : D) (fr : Frame) (S : Store) : RX Val := RX.lift (oSub y (peek i fr S)) fr S
def kSubv (cf : CF) (gl : Str → Option D) (i : Nat) (b : Xp) (o : Option D) (fr : Frame) (S : Store) : RX Val := if o.isSome then (frzX (ev cf gl b fr S)).bind (kSubv2 i) else .no
theorem ev_subv (i : Nat) : ev cf gl (.subv i b) fr S = kSubv cf gl i b (peek i fr S) fr S := rfl
theorem kSubv_some (i : Nat) (d : D) : kSubv cf gl i b (some d) fr S = (frzX (ev cf gl b fr S)).bind (kSubv2 i) := rfl
theorem kSubv2_eq (i : Nat) : kSubv2 i y fr S = RX.lift (oSub y (peek i fr S)) fr S := rfl
theorem oSub_some (d : D) : oSub y (some d) = (subD d y).map Val.fz := rfl
def oCmp (k : CK) (x : D) : Option D → Option Val := fun o => o.bind fun d => (cmpD k x d).map blF
def kCmpv (k : CK) (i : Nat) (x : D) (fr : Frame) (S : Store) : RX Val := RX.lift (oCmp k (look S x) (peek i fr S)) fr S
theorem ev_cmpv (k : CK) (i : Nat) : ev cf gl (.cmpv k a i) fr S = (frzX (ev cf gl a fr S)).bind (kCmpv k i) := rfl
theorem kCmpv_eq (k : CK) (i : Nat) : kCmpv k i x fr S = RX.lift (oCmp k (look S x) (peek i fr S)) fr S := rfl
theorem oCmp_some (k : CK) (d : D) : oCmp k x (some d) = (cmpD k x d).map blF := rfl
def eltX (cf : CF) (gl : Str → Option D) (m : Xp) (fr : Frame) (S : Store) : RX D := frzX (ev cf gl m fr S)
def compOut (fr : Frame) (vs : List Nat) : RX (List D) → RX Val
  | .ok acc fr' S' => .ok (.own (.lst acc)) (backF fr fr' vs) S'
  | .ex e fr' S' => .ex e (backF fr fr' vs) S'
  | .no => .no
def kComp (cf : CF) (gl : Str → Option D) (a : Xp) (tg : Tg) (es : Xs) (ds : List D) (fr : Frame) (S : Store) : RX Val := if calmF fr tg.slots then compOut fr tg.slots (compGo tg (evC cf gl es) (eltX cf gl a) ds [] (wipeF fr tg.slots) S) else .no
theorem ev_comp (tg : Tg) (it : Wk) : ev cf gl (.comp a tg it es) fr S = (evW cf gl it fr S).bind (kComp cf gl a tg es) := by
  show (evW cf gl it fr S).bind _ = _
  cases evW cf gl it fr S with
  | ok ds f s =>
    show (if calmF f tg.slots then _ else _) = (if calmF f tg.slots then _ else _)
    by_cases h : calmF f tg.slots = true
    · rw [if_pos h, if_pos h]
      show (match compGo tg (evC cf gl es) (eltX cf gl a) ds [] (wipeF f tg.slots) s with | .ok acc fr' S' => _ | .ex e fr' S' => _ | .no => _) = compOut f tg.slots (compGo tg (evC cf gl es) (eltX cf gl a) ds [] (wipeF f tg.slots) s)
      cases compGo tg (evC cf gl es) (eltX cf gl a) ds [] (wipeF f tg.slots) s <;> rfl
    · rw [if_neg h, if_neg h]
  | ex e f s => rfl
  | no => rfl
theorem kComp_eq {tg : Tg} {ds : List D} (h : calmF fr tg.slots = true) : kComp cf gl a tg es ds fr S = compOut fr tg.slots (compGo tg (evC cf gl es) (eltX cf gl a) ds [] (wipeF fr tg.slots) S) := if_pos h
def kShare (v : Val) (fr : Frame) (S : Store) : RX Val := match v with | .own c => .ok (.fz (.ref S.length)) fr (S ++ [c]) | _ => .no
theorem ev_share : ev cf gl (.share a) fr S = (ev cf gl a fr S).bind kShare := rfl
theorem kShare_eq (cl : Cell) : kShare (.own cl) fr S = .ok (.fz (.ref S.length)) fr (S ++ [cl]) := rfl
def kListrg (y : D) (fr : Frame) (S : Store) : RX Val := match y with
  | .int j => if rgOk 0 j = true ∧ j.toNat ≤ 2 ^ 24 then .ok (.own (.lst (rgD 0 j))) fr S else .no
  | _ => .no
def kCons2 (x : D) (xs : List D) (fr : Frame) (S : Store) : RX (List D) := .ok (x :: xs) fr S
def kCons1 (cf : CF) (gl : Str → Option D) (es : Xs) (x : D) (fr : Frame) (S : Store) : RX (List D) := (evs cf gl es fr S).bind (kCons2 x)
theorem evs_nil : evs cf gl .nil fr S = .ok [] fr S := rfl
theorem evs_cons : evs cf gl (.cons a es) fr S = (frzX (ev cf gl a fr S)).bind (kCons1 cf gl es) := rfl
theorem kCons1_eq : kCons1 cf gl es x fr S = (evs cf gl es fr S).bind (kCons2 x) := rfl
theorem kCons2_eq (xs : List D) : kCons2 x xs fr S = .ok (x :: xs) fr S := rfl
def kNotT (t : Bool) (fr : Frame) (S : Store) : RX Bool := .ok (!t) fr S
theorem evT_not : evT cf gl (.not a) fr S = (evT cf gl a fr S).bind kNotT := rfl
theorem kNotT_eq (t : Bool) : kNotT t fr S = .ok (!t) fr S := rfl
def kAndT (cf : CF) (gl : Str → Option D) (b : Xp) (t : Bool) (fr : Frame) (S : Store) : RX Bool := match t with | true => evT cf gl b fr S | false => .ok false fr S
theorem evT_and : evT cf gl (.and a b) fr S = (evT cf gl a fr S).bind (kAndT cf gl b) := rfl
theorem kAndT_t : kAndT cf gl b true fr S = evT cf gl b fr S := rfl
theorem kAndT_f : kAndT cf gl b false fr S = .ok false fr S := rfl
def kOrT (cf : CF) (gl : Str → Option D) (b : Xp) (t : Bool) (fr : Frame) (S : Store) : RX Bool := match t with | true => .ok true fr S | false => evT cf gl b fr S
theorem evT_or : evT cf gl (.or a b) fr S = (evT cf gl a fr S).bind (kOrT cf gl b) := rfl
theorem kOrT_f : kOrT cf gl b false fr S = evT cf gl b fr S := rfl
def kTru (x : D) (fr : Frame) (S : Store) : RX Bool := RX.lift (truD (look S x)) fr S
theorem kTru_eq : kTru x fr S = RX.lift (truD (look S x)) fr S := rfl
theorem evT_cmp (k : CK) : evT cf gl (.cmp k a b) fr S = (frzX (ev cf gl (.cmp k a b) fr S)).bind kTru := rfl
theorem evT_cmpv (k : CK) (i : Nat) : evT cf gl (.cmpv k a i) fr S = (frzX (ev cf gl (.cmpv k a i) fr S)).bind kTru := rfl
theorem evT_blt (k : FK) : evT cf gl (.blt k es) fr S = (frzX (ev cf gl (.blt k es) fr S)).bind kTru := rfl
def kSeq (x : D) (fr : Frame) (S : Store) : RX (List D) := match x with | .lst xs => .ok xs fr S | .tup xs => .ok xs fr S | .str z => .ok (signsD z) fr S | _ => .no
theorem evW_seq : evW cf gl (.seq a) fr S = (frzX (ev cf gl a fr S)).bind kSeq := rfl
theorem kSeq_lst (xs : List D) : kSeq (.lst xs) fr S = .ok xs fr S := rfl
def kEnm (x : D) (fr : Frame) (S : Store) : RX (List D) := match x with | .lst xs => .ok (enumD xs) fr S | .tup xs => .ok (enumD xs) fr S | _ => .no
theorem evW_enm : evW cf gl (.enm a) fr S = (frzX (ev cf gl a fr S)).bind kEnm := rfl
theorem kEnm_lst (xs : List D) : kEnm (.lst xs) fr S = .ok (enumD xs) fr S := rfl
def kRng1 (x : D) (fr : Frame) (S : Store) : RX (List D) := match x with | .int j => if rgOk 0 j then .ok (rgD 0 j) fr S else .no | _ => .no
theorem evW_rng1 : evW cf gl (.rng1 a) fr S = (frzX (ev cf gl a fr S)).bind kRng1 := rfl
theorem kRng1_eq {j : Int} (h : rgOk 0 j = true) : kRng1 (.int j) fr S = .ok (rgD 0 j) fr S := if_pos h
end
theorem frzX_fz (d : D) (fr : Frame) (S : Store) : frzX (.ok (.fz d) fr S) = .ok d fr S := rfl
theorem frzX_own (xs : List D) (fr : Frame) (S : Store) : frzX (.ok (.own (.lst xs)) fr S) = .ok (.lst xs) fr S := rfl
theorem b_ok {α β : Type} (a : α) (fr : Frame) (S : Store) (k : α → Frame → Store → RX β) : (RX.ok a fr S).bind k = k a fr S := rfl
theorem l_some {α : Type} (a : α) (fr : Frame) (S : Store) : RX.lift (some a) fr S = .ok a fr S := rfl
theorem bk_ok (fr : Frame) (v : Val) (S : Store) : (RC.ok v S).back fr = .ok v fr S := rfl
theorem t_ok {α : Type} (a : α) (fr : Frame) (S : Store) (k : α → Frame → Store → RS) : (RX.ok a fr S).thn k = k a fr S := rfl
theorem s_nx (fr : Frame) (S : Store) (k : Frame → Store → RS) : (RS.nx fr S).seq k = k fr S := rfl
theorem s_rt (v : Val) (fr : Frame) (S : Store) (k : Frame → Store → RS) : (RS.rt v fr S).seq k = .rt v fr S := rfl
theorem d_rt (v : Val) (fr : Frame) (S : Store) : (RS.rt v fr S).done = .ok v S := rfl
theorem lk_bl (S : Store) (b : Bool) : look S (.bl b) = .bl b := rfl
theorem lk_int (S : Store) (i : Int) : look S (.int i) = .int i := rfl
theorem lk_lst (S : Store) (xs : List D) : look S (.lst xs) = .lst xs := rfl
theorem lk_scr (S : Store) (xs : List D) : look S (.scr xs) = .scr xs := rfl
theorem tru_bl (b : Bool) : truD (.bl b) = some b := rfl
theorem blF_eq (r : Bool) : blF r = .fz (.bl r) := rfl
theorem om_some {α β : Type} (f : α → β) (a : α) : Option.map f (some a) = some (f a) := rfl
section
variable {cf : CF} {gl : Str → Option D} {fr : Frame} {S : Store} {m m2 m3 : Xp} {tg : Tg} {it : Wk} {ss s2 : Sms} {s : Sm} {d o y : D}
def kSet (i : Nat) (v : Val) (fr : Frame) (S : Store) : RS := .nx (fr.set i (some v)) S
theorem ex_set (i : Nat) : ex cf gl (.set i m) fr S = (ev cf gl m fr S).thn (kSet i) := rfl
theorem kSet_eq (i : Nat) (v : Val) : kSet i v fr S = .nx (fr.set i (some v)) S := rfl
def kRt (v : Val) (fr : Frame) (S : Store) : RS := .rt v fr S
theorem ex_ret : ex cf gl (.ret m) fr S = (retX m (ev cf gl m) fr S).thn kRt := rfl
theorem kRt_eq (v : Val) : kRt v fr S = .rt v fr S := rfl
def kCond (cf : CF) (gl : Str → Option D) (a b : Sms) (t : Bool) (fr : Frame) (S : Store) : RS := match t with | true => exs cf gl a fr S | false => exs cf gl b fr S
theorem ex_cond : ex cf gl (.cond m ss s2) fr S = (evT cf gl m fr S).thn (kCond cf gl ss s2) := rfl
theorem kCond_t : kCond cf gl ss s2 true fr S = exs cf gl ss fr S := rfl
theorem kCond_f : kCond cf gl ss s2 false fr S = exs cf gl s2 fr S := rfl
def kLoop (tg : Tg) (body : Frame → Store → RS) (ds : List D) (fr : Frame) (S : Store) : RS := loopGo tg body ds fr S
theorem ex_loop : ex cf gl (.loop tg it ss) fr S = (evW cf gl it fr S).thn (kLoop tg (exs cf gl ss)) := rfl
theorem kLoop_eq (body : Frame → Store → RS) (ds : List D) : kLoop tg body ds fr S = loopGo tg body ds fr S := rfl
def kSetr3 (d o y : D) (fr : Frame) (S : Store) : RS := setrX o y d fr S
def kSetr2 (cf : CF) (gl : Str → Option D) (m2 : Xp) (d o : D) (fr : Frame) (S : Store) : RS := (frzX (ev cf gl m2 fr S)).thn (kSetr3 d o)
def kSetr1 (cf : CF) (gl : Str → Option D) (m3 m2 : Xp) (d : D) (fr : Frame) (S : Store) : RS := (frzX (ev cf gl m3 fr S)).thn (kSetr2 cf gl m2 d)
theorem ex_setr : ex cf gl (.setr m3 m2 m) fr S = (frzX (ev cf gl m fr S)).thn (kSetr1 cf gl m3 m2) := rfl
theorem kSetr1_eq : kSetr1 cf gl m3 m2 d fr S = (frzX (ev cf gl m3 fr S)).thn (kSetr2 cf gl m2 d) := rfl
theorem kSetr2_eq : kSetr2 cf gl m2 d o fr S = (frzX (ev cf gl m2 fr S)).thn (kSetr3 d o) := rfl
theorem kSetr3_eq : kSetr3 d o y fr S = setrX o y d fr S := rfl
theorem exs_nil : exs cf gl .nil fr S = .nx fr S := rfl
theorem exs_cons : exs cf gl (.cons s ss) fr S = (ex cf gl s fr S).seq (exs cf gl ss) := rfl
theorem ret_con (d : D) (f : Frame → Store → RX Val) : retX (.con d) f = f := rfl
theorem ret_bin (k : BK) (f : Frame → Store → RX Val) : retX (.bin k m m2) f = f := rfl
theorem ret_cmp (k : CK) (f : Frame → Store → RX Val) : retX (.cmp k m m2) f = f := rfl
theorem ret_and (f : Frame → Store → RX Val) : retX (.and m m2) f = f := rfl
theorem ret_subv (i : Nat) (f : Frame → Store → RX Val) : retX (.subv i m) f = f := rfl
theorem ret_share (f : Frame → Store → RX Val) : retX (.share m) f = f := rfl
end
theorem callN_run {P : Str → Option Df} {gl : Str → Option D} {n : Nat} {f : Str} {d : Df} {xs : List D} {S : Store} (h : P f = some d) (hl : (d.pad xs).length = d.ps) :
    callN P gl (n + 1) f xs S = (exs (callN P gl n) gl d.body (d.start (d.pad xs)) S).done := by
  show (match P f with | some d => runDf (callN P gl n) gl d xs S | none => .no) = _
  rw [h]
  show (if (d.pad xs).length = d.ps then _ else RC.no) = _
  rw [if_pos hl]
section
variable {S : Store} {r : Frame} {d e : D} {xs : List D} {o : Option Val} {i : Nat}
theorem vx0 : varX 0 (some (.fz d) :: r) S = .ok (.fz d) (some (.fz d) :: r) S := rfl
theorem pk0 : peek 0 (some (.fz d) :: r) S = some (look S d) := rfl
theorem vx1 (o0 : Option Val) : varX 1 (o0 :: some (.fz d) :: r) S = .ok (.fz d) (o0 :: some (.fz d) :: r) S := rfl
theorem vo1 (o0 : Option Val) : varX 1 (o0 :: some (.own (.lst xs)) :: r) S = .ok (.fz (.lst xs)) (o0 :: some (.fz (.lst xs)) :: r) S := rfl
theorem pk1 (o0 : Option Val) : peek 1 (o0 :: some (.fz d) :: r) S = some (look S d) := rfl
theorem st1 (o0 : Option Val) (v : Option Val) : List.set (o0 :: o :: r) 1 v = o0 :: v :: r := rfl
theorem vx2 (o0 o1 : Option Val) : varX 2 (o0 :: o1 :: some (.fz d) :: r) S = .ok (.fz d) (o0 :: o1 :: some (.fz d) :: r) S := rfl
theorem po2 (o0 o1 : Option Val) : peek 2 (o0 :: o1 :: some (.own (.lst xs)) :: r) S = some (.lst xs) := rfl
theorem st2 (o0 o1 : Option Val) (v : Option Val) : List.set (o0 :: o1 :: o :: r) 2 v = o0 :: o1 :: v :: r := rfl
theorem vx3 (o0 o1 o2 : Option Val) : varX 3 (o0 :: o1 :: o2 :: some (.fz d) :: r) S = .ok (.fz d) (o0 :: o1 :: o2 :: some (.fz d) :: r) S := rfl
theorem pk3 (o0 o1 o2 : Option Val) : peek 3 (o0 :: o1 :: o2 :: some (.fz d) :: r) S = some (look S d) := rfl
theorem rf3 (o0 o1 o2 : Option Val) (f : Frame → Store → RX Val) : retX (.var 3) f (o0 :: o1 :: o2 :: some (.fz d) :: r) S = .ok (.fz d) (o0 :: o1 :: o2 :: some (.fz d) :: r) S := rfl
theorem st3 (o0 o1 o2 : Option Val) (v : Option Val) : List.set (o0 :: o1 :: o2 :: o :: r) 3 v = o0 :: o1 :: o2 :: v :: r := rfl
theorem vo4 (o0 o1 o2 o3 : Option Val) : varX 4 (o0 :: o1 :: o2 :: o3 :: some (.own (.lst xs)) :: r) S = .ok (.fz (.lst xs)) (o0 :: o1 :: o2 :: o3 :: some (.fz (.lst xs)) :: r) S := rfl
theorem pk4 (o0 o1 o2 o3 : Option Val) : peek 4 (o0 :: o1 :: o2 :: o3 :: some (.fz d) :: r) S = some (look S d) := rfl
theorem st4 (o0 o1 o2 o3 : Option Val) (v : Option Val) : List.set (o0 :: o1 :: o2 :: o3 :: o :: r) 4 v = o0 :: o1 :: o2 :: o3 :: v :: r := rfl
theorem vx5 (o0 o1 o2 o3 o4 : Option Val) : varX 5 (o0 :: o1 :: o2 :: o3 :: o4 :: some (.fz d) :: r) S = .ok (.fz d) (o0 :: o1 :: o2 :: o3 :: o4 :: some (.fz d) :: r) S := rfl
theorem vo5 (o0 o1 o2 o3 o4 : Option Val) : varX 5 (o0 :: o1 :: o2 :: o3 :: o4 :: some (.own (.lst xs)) :: r) S = .ok (.fz (.lst xs)) (o0 :: o1 :: o2 :: o3 :: o4 :: some (.fz (.lst xs)) :: r) S := rfl
theorem st5 (o0 o1 o2 o3 o4 : Option Val) (v : Option Val) : List.set (o0 :: o1 :: o2 :: o3 :: o4 :: o :: r) 5 v = o0 :: o1 :: o2 :: o3 :: o4 :: v :: r := rfl
theorem vx6 (o0 o1 o2 o3 o4 o5 : Option Val) : varX 6 (o0 :: o1 :: o2 :: o3 :: o4 :: o5 :: some (.fz d) :: r) S = .ok (.fz d) (o0 :: o1 :: o2 :: o3 :: o4 :: o5 :: some (.fz d) :: r) S := rfl
theorem vx7 (o0 o1 o2 o3 o4 o5 o6 : Option Val) : varX 7 (o0 :: o1 :: o2 :: o3 :: o4 :: o5 :: o6 :: some (.fz d) :: r) S = .ok (.fz d) (o0 :: o1 :: o2 :: o3 :: o4 :: o5 :: o6 :: some (.fz d) :: r) S := rfl
theorem look_at {n : Nat} (h : S[n]? = some (.lst xs)) : look S (.ref n) = .lst xs := by
  show lookC n S[n]? = _
  rw [h]; rfl
theorem bin_mulI {i j : Int} (h : (-(2 ^ 64) < i ∧ i < 2 ^ 64) ∨ (-(2 ^ 64) < j ∧ j < 2 ^ 64)) : binD .mul (.int i) (.int j) = some (.fz (.int (i * j))) := by
  show (if _ then _ else _) = _
  rw [if_pos h]
theorem bin_modI {i j : Int} (h : 0 < j) : binD .mod (.int i) (.int j) = some (.fz (.int (i % j))) := by
  show (if _ then _ else _) = _
  rw [if_pos h]
theorem bin_fdivI {i j : Int} (h : 0 < j ∧ j < 1073741824) : binD .fdiv (.int i) (.int j) = some (.fz (.int (i / j))) := by
  show (if _ then _ else _) = _
  rw [if_pos h]
theorem sub_lst (j : Int) : subD (.lst xs) (.int j) = atD xs j := rfl
theorem sub_scr (j : Int) : subD (.scr xs) (.int j) = atD xs j := rfl
theorem c_eqI (i j : Int) : cmpD .eq (.int i) (.int j) = some (i == j) := rfl
theorem c_neI (i j : Int) : cmpD .ne (.int i) (.int j) = some (!(i == j)) := rfl
theorem c_ltI (i j : Int) : cmpD .lt (.int i) (.int j) = some (decide (i < j)) := rfl
theorem c_gtI (i j : Int) : cmpD .gt (.int i) (.int j) = some (decide (j < i)) := rfl
theorem c_geI (i j : Int) : cmpD .ge (.int i) (.int j) = some (decide (j ≤ i)) := rfl
theorem b_addI (i j : Int) : binD .add (.int i) (.int j) = some (.fz (.int (i + j))) := rfl
theorem len_scr : bltD .len [.scr xs] = some (.fz (.int xs.length)) := rfl
theorem int_bl (b : Bool) : bltD .int [.bl b] = some (.fz (.int (if b then 1 else 0))) := rfl
theorem max_I (i j : Int) : bltD .max2 [.int i, .int j] = some (.fz (.int (if j > i then j else i))) := rfl
theorem min_I (i j : Int) : bltD .min2 [.int i, .int j] = some (.fz (.int (if j < i then j else i))) := rfl
theorem at4_0  (x0 x1 x2 x3 : D) : atD [x0, x1, x2, x3] 0 = some x0 := rfl
theorem at4_1  (x0 x1 x2 x3 : D) : atD [x0, x1, x2, x3] 1 = some x1 := rfl
theorem at4_2  (x0 x1 x2 x3 : D) : atD [x0, x1, x2, x3] 2 = some x2 := rfl
theorem at4_3  (x0 x1 x2 x3 : D) : atD [x0, x1, x2, x3] 3 = some x3 := rfl
end
end Eng
end

section
namespace Eng
open PySem L2
end Eng
end

section
namespace Eng
open PySem L2
section
variable {cf : CF} {gl : Str → Option D} {fr : Frame} {S : Store} {a b c : Xp} {es : Xs} {x y z : D}
def oCmpl (k : CK) (y : D) : Option D → Option Val := fun o => o.bind fun d => (cmpD k d y).map blF
def kCmpl2 (k : CK) (i : Nat) (y : D) (fr : Frame) (S : Store) : RX Val := RX.lift (oCmpl k (look S y) (peek i fr S)) fr S
def kCmpl (cf : CF) (gl : Str → Option D) (k : CK) (i : Nat) (b : Xp) (o : Option D) (fr : Frame) (S : Store) : RX Val := if o.isSome then (frzX (ev cf gl b fr S)).bind (kCmpl2 k i) else .no
theorem ev_cmpl (k : CK) (i : Nat) : ev cf gl (.cmpl k i b) fr S = kCmpl cf gl k i b (peek i fr S) fr S := rfl
theorem kCmpl_some (k : CK) (i : Nat) (d : D) : kCmpl cf gl k i b (some d) fr S = (frzX (ev cf gl b fr S)).bind (kCmpl2 k i) := rfl
theorem kCmpl2_eq (k : CK) (i : Nat) : kCmpl2 k i y fr S = RX.lift (oCmpl k (look S y) (peek i fr S)) fr S := rfl
theorem oCmpl_some (k : CK) (d : D) : oCmpl k y (some d) = (cmpD k d y).map blF := rfl
theorem evT_cmpl (k : CK) (i : Nat) : evT cf gl (.cmpl k i b) fr S = (frzX (ev cf gl (.cmpl k i b) fr S)).bind kTru := rfl
end
section
variable {α β : Type} {fr : Frame} {S : Store}
abbrev EK := Ex → Frame → Store → Prop
def RX.wp (r : RX α) (Q : α → Frame → Store → Prop) (E : EK) : Prop := match r with
  | .ok a fr S => Q a fr S
  | .ex e fr S => E e fr S
  | .no => False
def RS.wp (r : RS) (N : Frame → Store → Prop) (R : Val → Frame → Store → Prop) (E : EK) : Prop := match r with
  | .nx fr S => N fr S
  | .rt v fr S => R v fr S
  | .ex e fr S => E e fr S
  | _ => False
def RC.wp (r : RC) (Q : Val → Store → Prop) (E : Ex → Store → Prop) : Prop := match r with
  | .ok v S => Q v S
  | .ex e S => E e S
  | .no => False
variable {Q : α → Frame → Store → Prop} {Q' : β → Frame → Store → Prop} {N : Frame → Store → Prop} {R : Val → Frame → Store → Prop} {E : EK} {C : Val → Store → Prop} {X : Ex → Store → Prop}
def qB (k : α → Frame → Store → RX β) (Q : β → Frame → Store → Prop) (E : EK) (a : α) (fr : Frame) (S : Store) : Prop := (k a fr S).wp Q E
def qT (k : α → Frame → Store → RS) (N : Frame → Store → Prop) (R : Val → Frame → Store → Prop) (E : EK) (a : α) (fr : Frame) (S : Store) : Prop := (k a fr S).wp N R E
def qS (k : Frame → Store → RS) (N : Frame → Store → Prop) (R : Val → Frame → Store → Prop) (E : EK) (fr : Frame) (S : Store) : Prop := (k fr S).wp N R E
def qF (Q : D → Frame → Store → Prop) (v : Val) (fr : Frame) (S : Store) : Prop := (RX.lift v.frz fr S).wp Q fun _ _ _ => False
def qN (C : Val → Store → Prop) (fr : Frame) (S : Store) : Prop := C (.fz .non) S
def qR (C : Val → Store → Prop) (v : Val) (fr : Frame) (S : Store) : Prop := C v S
def qE (X : Ex → Store → Prop) (e : Ex) (fr : Frame) (S : Store) : Prop := X e S
def qK (fr : Frame) (Q : Val → Frame → Store → Prop) (v : Val) (S : Store) : Prop := Q v fr S
def qX (fr : Frame) (E : EK) (e : Ex) (S : Store) : Prop := E e fr S
theorem w_ok (a : α) : (RX.ok a fr S).wp Q E = Q a fr S := rfl
theorem w_bind (r : RX α) (k : α → Frame → Store → RX β) : (r.bind k).wp Q' E = r.wp (qB k Q' E) E := by cases r <;> rfl
theorem w_thn (r : RX α) (k : α → Frame → Store → RS) : (r.thn k).wp N R E = r.wp (qT k N R E) E := by cases r <;> rfl
theorem w_nx : (RS.nx fr S).wp N R E = N fr S := rfl
theorem w_rt (v : Val) : (RS.rt v fr S).wp N R E = R v fr S := rfl
theorem w_seq (r : RS) (k : Frame → Store → RS) : (r.seq k).wp N R E = r.wp (qS k N R E) R E := by cases r <;> rfl
theorem w_done (r : RS) : r.done.wp C X = r.wp (qN C) (qR C) (qE X) := by cases r <;> rfl
theorem w_okC (v : Val) : (RC.ok v S).wp C X = C v S := rfl
theorem w_back (r : RC) {Q : Val → Frame → Store → Prop} : (r.back fr).wp Q E = r.wp (qK fr Q) (qX fr E) := by cases r <;> rfl
theorem w_frz (r : RX Val) {Q : D → Frame → Store → Prop} : (frzX r).wp Q E = r.wp (qF Q) E := by
  cases r with
  | ok v f s => cases v with
    | fz d => rfl
    | own ce => cases ce <;> rfl
  | ex e f s => rfl
  | no => rfl
theorem qB_eq (k : α → Frame → Store → RX β) (a : α) : qB k Q' E a fr S = (k a fr S).wp Q' E := rfl
theorem qT_eq (k : α → Frame → Store → RS) (a : α) : qT k N R E a fr S = (k a fr S).wp N R E := rfl
theorem qS_eq (k : Frame → Store → RS) : qS k N R E fr S = (k fr S).wp N R E := rfl
theorem qF_fz {Q : D → Frame → Store → Prop} (d : D) : qF Q (.fz d) fr S = Q d fr S := rfl
theorem qR_eq (v : Val) : qR C v fr S = C v S := rfl
theorem qK_eq {Q : Val → Frame → Store → Prop} (v : Val) : qK fr Q v S = Q v fr S := rfl
def noX : Ex → Store → Prop := fun _ _ => False
theorem RC.eq_of {r : RC} {v : Val} (h : r.wp (fun w T => w = v ∧ T = S) noX) : r = .ok v S := by
  cases r with
  | ok a s => obtain ⟨rfl, rfl⟩ := h; rfl
  | ex e s => exact h.elim
  | no => exact h.elim
theorem RC.some_of {r : RC} {v : Val} (h : r.wp (fun w _ => w = v) noX) : ∃ T, r = .ok v T := by
  cases r with
  | ok a s => obtain rfl := h; exact ⟨s, rfl⟩
  | ex e s => exact h.elim
  | no => exact h.elim
theorem wp_loop {tg : Tg} {body : Frame → Store → RS} (I : Nat → Frame → Store → Prop) : ∀ {ds : List D} {fr : Frame} {S : Store}, I 0 fr S → (∀ i d fr S, ds[i]? = some d → I i fr S → ∃ fr1, asg tg d fr = some fr1 ∧ (body fr1 S).wp (I (i + 1)) R E) →
    (∀ fr S, I ds.length fr S → N fr S) → (loopGo tg body ds fr S).wp N R E := by
  intro ds
  induction ds generalizing I with
  | nil => exact fun {fr S} h0 _ hN => hN fr S h0
  | cons d ds ih =>
    intro fr S h0 hs hN
    obtain ⟨fr1, e1, e2⟩ := hs 0 d fr S rfl h0
    show (match asg tg d fr with | none => RS.no | some fr1 => match body fr1 S with | .nx fr2 S2 => loopGo tg body ds fr2 S2 | .ct fr2 S2 => loopGo tg body ds fr2 S2 | .bk fr2 S2 => .nx fr2 S2 | r => r).wp N R E
    rw [e1]
    dsimp only
    cases q : body fr1 S with
    | nx f s =>
      rw [q] at e2
      exact ih (fun i => I (i + 1)) e2 (fun i d fr S h => hs (i + 1) d fr S h) hN
    | rt v f s => rw [q] at e2; exact e2
    | ex e f s => rw [q] at e2; exact e2
    | bk f s => rw [q] at e2; exact e2.elim
    | ct f s => rw [q] at e2; exact e2.elim
    | no => rw [q] at e2; exact e2
theorem wp_loopM {γ : Type} {tg : Tg} {body : Frame → Store → RS} (f : γ → D) {xs : List γ} {fr : Frame} {S : Store} (I : Nat → Frame → Store → Prop) (h0 : I 0 fr S) (hs : ∀ i x fr S, xs[i]? = some x → I i fr S → ∃ fr1, asg tg (f x) fr = some fr1 ∧ (body fr1 S).wp (I (i + 1)) R E)
    (hN : ∀ fr S, I xs.length fr S → N fr S) : (loopGo tg body (xs.map f) fr S).wp N R E := by
  refine wp_loop I h0 (fun i d fr S h hi => ?_) (fun fr S h => hN fr S (by rw [List.length_map] at h; exact h))
  rw [List.getElem?_map] at h
  obtain ⟨x, hx, rfl⟩ := Option.map_eq_some_iff.mp h
  exact hs i x fr S hx hi
end
end Eng
end

section
namespace Eng
open PySem PySem.Spec PyProof.Rows L2
end Eng
end

section
namespace Eng
open PySem PySem.Spec PyProof.Rows L2
end Eng
end

section
namespace Eng
open PySem PySem.Spec PyProof.Rows L2
end Eng
end

section
namespace Eng
open PySem PySem.Spec PyProof.Rows L2
section
variable {cf : CF} {gl : Str → Option D} {fr : Frame} {S : Store} {a b : Xp} {x y : D} {es : Xs} {i : Nat} {ks : List (List Key)} {vs : List D}
def oCnt (y : D) : Option D → Option Val := fun o => o.bind fun d => cntD d y
def kLcnt2 (i : Nat) (y : D) (fr : Frame) (S : Store) : RX Val := RX.lift (oCnt (look S y) (peek i fr S)) fr S
def kLcnt (cf : CF) (gl : Str → Option D) (i : Nat) (b : Xp) (t : Bool) (fr : Frame) (S : Store) : RX Val := if t then (frzX (ev cf gl b fr S)).bind (kLcnt2 i) else .no
theorem ev_lcnt (i : Nat) : ev cf gl (.lcnt i b) fr S = kLcnt cf gl i b (lstP (peek i fr S)) fr S := rfl
theorem lstP_lst (xs : List D) : lstP (some (.lst xs)) = true := rfl
theorem kLcnt_t (i : Nat) : kLcnt cf gl i b true fr S = (frzX (ev cf gl b fr S)).bind (kLcnt2 i) := rfl
theorem kLcnt2_eq (i : Nat) : kLcnt2 i y fr S = RX.lift (oCnt (look S y) (peek i fr S)) fr S := rfl
theorem oCnt_some (d : D) : oCnt y (some d) = cntD d y := rfl
end
end Eng
end

section
namespace Eng
open PySem PySem.Spec PyProof.Rows L2
end Eng
end

section
namespace Eng
open PySem PySem.Spec PyProof.Rows L2
section
variable {cf : CF} {gl : Str → Option D} {fr : Frame} {S : Store} {a b m e : Xp} {x y d : D} {es : Xs} {i : Nat} {xs : List D}
def kIsx (yes no : List Str) (x : D) (fr : Frame) (S : Store) : RX Val := RX.lift ((isX S yes no x).map blF) fr S
theorem ev_isx (c : Str) (yes no : List Str) : ev cf gl (.isx c yes no a) fr S = (frzX (ev cf gl a fr S)).bind (kIsx yes no) := rfl
theorem kIsx_eq (yes no : List Str) : kIsx yes no x fr S = RX.lift ((isX S yes no x).map blF) fr S := rfl
theorem isX_exn {n : Nat} {c : Str} {ns : List Str} {vs : List D} (yes no : List Str) (h : S[n]? = some (.exn c ns vs)) : isX S yes no (.ref n) = if yes.contains c then some true else if no.contains c then some false else none := by
  unfold isX; dsimp only; rw [h]
def kMkx (c : Str) (x : D) (fr : Frame) (S : Store) : RX Val := .ok (.fz (.ref S.length)) fr (S ++ [.exn c [] []])
theorem ev_mkx (c : Str) : ev cf gl (.mkx c a) fr S = (frzX (ev cf gl a fr S)).bind (kMkx c) := rfl
theorem kMkx_eq (c : Str) : kMkx c x fr S = .ok (.fz (.ref S.length)) fr (S ++ [.exn c [] []]) := rfl
def kMkxf (c f : Str) (x : D) (fr : Frame) (S : Store) : RX Val := .ok (.fz (.ref S.length)) fr (S ++ [.exn c [f] [x]])
theorem ev_mkxf (c f : Str) : ev cf gl (.mkxf c f a) fr S = (frzX (ev cf gl a fr S)).bind (kMkxf c f) := rfl
theorem kMkxf_eq (c f : Str) : kMkxf c f x fr S = .ok (.fz (.ref S.length)) fr (S ++ [.exn c [f] [x]]) := rfl
def kXfld (c f : Str) (x : D) (fr : Frame) (S : Store) : RX Val := RX.lift ((xfldD S c f x).map Val.fz) fr S
theorem ev_xfld (c f : Str) : ev cf gl (.xfld c f a) fr S = (frzX (ev cf gl a fr S)).bind (kXfld c f) := rfl
theorem kXfld_eq (c f : Str) : kXfld c f x fr S = RX.lift ((xfldD S c f x).map Val.fz) fr S := rfl
theorem xfldD_exn {n : Nat} {c f : Str} {v : D} (h : S[n]? = some (.exn c [f] [v])) : xfldD S c f (.ref n) = some v := by
  unfold xfldD; dsimp only; rw [h]; simp [fldGet]
def oIdx (y : D) : Option D → Option Val := fun o => o.bind fun d => idxD d y
def kLidx2 (i : Nat) (y : D) (fr : Frame) (S : Store) : RX Val := RX.lift (oIdx y (peek i fr S)) fr S
def kLidx (cf : CF) (gl : Str → Option D) (i : Nat) (b : Xp) (t : Bool) (fr : Frame) (S : Store) : RX Val := if t then (frzX (ev cf gl b fr S)).bind (kLidx2 i) else .no
theorem ev_lidx (i : Nat) : ev cf gl (.lidx i b) fr S = kLidx cf gl i b (lstP (peek i fr S)) fr S := rfl
theorem kLidx_t (i : Nat) : kLidx cf gl i b true fr S = (frzX (ev cf gl b fr S)).bind (kLidx2 i) := rfl
theorem kLidx2_eq (i : Nat) : kLidx2 i y fr S = RX.lift (oIdx y (peek i fr S)) fr S := rfl
theorem oIdx_some (d : D) : oIdx y (some d) = idxD d y := rfl
end
def mkxs : List Str → Xs
  | [] => .nil
  | c :: cs => .cons (.mkx c (.con (.str "a"))) (mkxs cs)
def refs (n k : Nat) : List D := (List.range k).map fun i => D.ref (n + i)
theorem refs_cons (n k : Nat) : refs n (k + 1) = .ref n :: refs (n + 1) k := by
  unfold refs
  rw [List.range_succ_eq_map, List.map_cons, List.map_map]
  have e : ((fun i => D.ref (n + i)) ∘ Nat.succ) = fun i => D.ref (n + 1 + i) := funext fun i => by
    show D.ref (n + (i + 1)) = D.ref (n + 1 + i)
    rw [show n + (i + 1) = n + 1 + i by omega]
  rw [e]; rfl
theorem evs_mkxs {cf : CF} {gl : Str → Option D} {fr : Frame} : ∀ (cs : List Str) (S : Store), evs cf gl (mkxs cs) fr S = .ok (refs S.length cs.length) fr (S ++ cs.map fun c => Cell.exn c [] [])
  | [], S => by
    show RX.ok [] fr S = _
    rw [List.map_nil, List.append_nil]; rfl
  | c :: cs, S => by
    show ((frzX (ev cf gl (.mkx c (.con (.str "a"))) fr S)).bind fun x fr S => (evs cf gl (mkxs cs) fr S).bind fun xs fr S => .ok (x :: xs) fr S) = _
    show ((evs cf gl (mkxs cs) fr (S ++ [Cell.exn c [] []])).bind fun xs fr S' => .ok (D.ref S.length :: xs) fr S') = _
    rw [evs_mkxs (cf := cf) (gl := gl) (fr := fr) cs (S ++ [Cell.exn c [] []])]
    show RX.ok (D.ref S.length :: refs (S ++ [Cell.exn c [] []]).length cs.length) fr (S ++ [Cell.exn c [] []] ++ cs.map fun c => Cell.exn c [] []) = _
    rw [List.length_append, List.length_singleton, List.length_cons, refs_cons, List.append_assoc, List.map_cons]; rfl
end Eng
end

section
namespace Eng
open PySem L2
section
variable {tg : Tg} {body : Eng.Frame → Store → RS} {test : Eng.Frame → Store → RX Bool} {elt : Eng.Frame → Store → RX D}
theorem loop_step {d : D} {ds : List D} {fr fr1 fr2 : Eng.Frame} {S S2 : Store} (h1 : asg tg d fr = some fr1) (h2 : body fr1 S = .nx fr2 S2) : loopGo tg body (d :: ds) fr S = loopGo tg body ds fr2 S2 := by
  show (match asg tg d fr with | none => RS.no | some fr1 => _) = _
  rw [h1]
  show (match body fr1 S with | .nx fr2 S2 => _ | .ct fr2 S2 => _ | .bk fr2 S2 => _ | r => r) = _
  rw [h2]
theorem comp_step {d y : D} {ds acc : List D} {fr fr1 fr2 fr3 : Eng.Frame} {S S2 S3 : Store} (h1 : asg tg d fr = some fr1) (h2 : test fr1 S = .ok true fr2 S2) (h3 : elt fr2 S2 = .ok y fr3 S3) (hl : acc.length < sizeLine) :
    compGo tg test elt (d :: ds) acc fr S = compGo tg test elt ds (acc ++ [y]) (wipeF fr3 tg.slots) S3 := by
  show (match asg tg d fr with | none => RX.no | some fr1 => _) = _
  rw [h1]
  show (match test fr1 S with | .ok true fr2 S2 => _ | .ok false fr2 S2 => _ | .ex e fr2 S2 => _ | .no => _) = _
  rw [h2]
  show (match elt fr2 S2 with | .ok y fr3 S3 => if acc.length < sizeLine then _ else RX.no | .ex e fr3 S3 => _ | .no => _) = _
  rw [h3]
  show (if acc.length < sizeLine then _ else _) = _
  rw [if_pos hl]
theorem comp_skip {d : D} {ds acc : List D} {fr fr1 fr2 : Eng.Frame} {S S2 : Store} (h1 : asg tg d fr = some fr1) (h2 : test fr1 S = .ok false fr2 S2) :
    compGo tg test elt (d :: ds) acc fr S = compGo tg test elt ds acc (wipeF fr2 tg.slots) S2 := by
  show (match asg tg d fr with | none => RX.no | some fr1 => _) = _
  rw [h1]
  show (match test fr1 S with | .ok true fr2 S2 => _ | .ok false fr2 S2 => _ | .ex e fr2 S2 => _ | .no => _) = _
  rw [h2]
end
theorem atD_nat {xs : List D} {x : D} {j : Int} {i : Nat} (e : j = i) (h : xs[i]? = some x) : atD xs j = some x := by
  subst e; exact atI_nat h
end Eng
namespace Eng
open PySem L2
theorem kComp_ok {cf : CF} {gl : Str → Option D} {a : Xp} {tg : Tg} {es : Xs} {ds acc : List D} {fr frw fr' fr2 : Eng.Frame} {S S' : Store} (h : calmF fr tg.slots = true) (hw : wipeF fr tg.slots = frw)
    (h1 : compGo tg (evC cf gl es) (eltX cf gl a) ds [] frw S = .ok acc fr' S') (hb : backF fr fr' tg.slots = fr2) : kComp cf gl a tg es ds fr S = .ok (.own (.lst acc)) fr2 S' := by
  subst hw hb
  rw [kComp_eq h, h1]; rfl
end Eng
namespace Eng
open PySem L2
end Eng
end

section
namespace Eng
open PySem L2
end Eng
end

section
namespace Eng
open PySem L2
theorem compGo_typed {α : Type} {tg : Tg} {test : Frame → Store → RX Bool} {elt : Frame → Store → RX D} {f g : α → D} {p : α → Bool} {fr : Frame} {S : Store} : (xs : List α) → (acc : List D) → acc.length + xs.length ≤ sizeLine →
    (∀ x ∈ xs, ∃ fr1, asg tg (f x) fr = some fr1 ∧ test fr1 S = .ok (p x) fr1 S ∧ (p x = true → elt fr1 S = .ok (g x) fr1 S) ∧ wipeF fr1 tg.slots = fr) →
    compGo tg test elt (xs.map f) acc fr S = .ok (acc ++ (xs.filter p).map g) fr S
  | [], acc, _, _ => by simp only [List.filter_nil, List.map_nil, List.append_nil]; rfl
  | d :: ds, acc, hl, h => by
    obtain ⟨fr1, h1, h2, h3, h4⟩ := h d (List.mem_cons_self ..)
    have hl' : acc.length + ds.length + 1 ≤ sizeLine := hl
    cases e : p d with
    | true =>
      rw [e] at h2
      rw [List.map_cons, comp_step h1 h2 (h3 e) (by omega), h4, compGo_typed ds (acc ++ [g d]) (by simp; omega) (fun d hd => h d (List.mem_cons_of_mem _ hd))]
      simp [List.filter_cons, e]
    | false =>
      rw [e] at h2
      rw [List.map_cons, comp_skip h1 h2, h4, compGo_typed ds acc (by omega) (fun d hd => h d (List.mem_cons_of_mem _ hd))]
      simp [List.filter_cons, e]
theorem kComp_typed {α : Type} {cf : CF} {gl : Str → Option D} {a : Xp} {tg : Tg} {es : Xs} {fr frw : Frame} {S : Store} (f g : α → D) (p : α → Bool) (xs : List α) (hc : calmF fr tg.slots = true) (hw : wipeF fr tg.slots = frw) (hb : backF fr frw tg.slots = fr) (hl : xs.length ≤ sizeLine)
    (h : ∀ x ∈ xs, ∃ fr1, asg tg (f x) frw = some fr1 ∧ evC cf gl es fr1 S = .ok (p x) fr1 S ∧ (p x = true → eltX cf gl a fr1 S = .ok (g x) fr1 S) ∧ wipeF fr1 tg.slots = frw) :
    kComp cf gl a tg es (xs.map f) fr S = .ok (.own (.lst ((xs.filter p).map g))) fr S := by
  refine kComp_ok hc hw ?_ hb
  rw [compGo_typed (p := p) (g := g) xs [] (by simpa using hl) h, List.nil_append]
theorem kComp_all {α : Type} {cf : CF} {gl : Str → Option D} {a : Xp} {tg : Tg} {es : Xs} {fr frw : Frame} {S : Store} (f g : α → D) (xs : List α) (hc : calmF fr tg.slots = true) (hw : wipeF fr tg.slots = frw) (hb : backF fr frw tg.slots = fr) (hl : xs.length ≤ sizeLine)
    (h : ∀ x ∈ xs, ∃ fr1, asg tg (f x) frw = some fr1 ∧ evC cf gl es fr1 S = .ok true fr1 S ∧ eltX cf gl a fr1 S = .ok (g x) fr1 S ∧ wipeF fr1 tg.slots = frw) :
    kComp cf gl a tg es (xs.map f) fr S = .ok (.own (.lst (xs.map g))) fr S := by
  rw [kComp_typed f g (fun _ => true) xs hc hw hb hl (fun x hx => by
    obtain ⟨a, b, c, d, e⟩ := h x hx
    exact ⟨a, b, c, fun _ => d, e⟩), List.filter_eq_self.mpr (fun _ _ => rfl)]
theorem enumD_range (n : Nat) (f : Nat → D) : enumD ((List.range n).map f) = (List.range n).map fun k => .tup [.int (k : Nat), f k] := by
  unfold enumD
  rw [List.length_map, List.length_range]
  refine List.map_congr_left fun i hi => ?_
  have hi := List.mem_range.mp hi
  rw [List.getD_eq_getElem?_getD, List.getElem?_map, List.getElem?_range hi]; rfl
end Eng
end

local macro_rules | `(tactic| walk_at "eng") => `(tactic| simp -implicitDefEqProofs only [Eng.ev_con, Eng.ev_var, Eng.ev_bin, Eng.kBin1_eq, Eng.kBin2_eq, Eng.ev_cmp, Eng.kCmp1_eq, Eng.kCmp2_eq, Eng.ev_and, Eng.kAnd_t, Eng.ev_tup, Eng.kTup_2, Eng.kTup_3, Eng.ev_lst, Eng.kLst_3, Eng.kLst_4, Eng.ev_call, Eng.kCall_eq, Eng.ev_blt, Eng.kBlt_1, Eng.kBlt_2, Eng.ev_bltv, Eng.oBlt_some, Eng.ev_subv, Eng.kSubv_some, Eng.kSubv2_eq, Eng.oSub_some, Eng.ev_cmpv, Eng.kCmpv_eq, Eng.oCmp_some, Eng.ev_comp, Eng.ev_share, Eng.kShare_eq, Eng.evs_nil, Eng.evs_cons, Eng.kCons1_eq, Eng.kCons2_eq, Eng.evT_not, Eng.kNotT_eq, Eng.evT_and, Eng.kAndT_t, Eng.kAndT_f, Eng.evT_or, Eng.kOrT_f, Eng.kTru_eq, Eng.evT_cmp, Eng.evT_cmpv, Eng.evT_blt, Eng.evW_seq, Eng.kSeq_lst, Eng.evW_rng1, Eng.frzX_fz, Eng.frzX_own, Eng.b_ok, Eng.l_some, Eng.bk_ok, Eng.t_ok, Eng.s_nx, Eng.s_rt, Eng.d_rt, Eng.lk_bl, Eng.lk_int, Eng.lk_lst, Eng.lk_scr, Eng.tru_bl, Eng.blF_eq, Eng.om_some, Eng.ex_set, Eng.kSet_eq, Eng.ex_ret, Eng.kRt_eq, Eng.ex_cond, Eng.kCond_t, Eng.kCond_f, Eng.ex_loop, Eng.kLoop_eq, Eng.ex_setr, Eng.kSetr1_eq, Eng.kSetr2_eq, Eng.kSetr3_eq, Eng.exs_nil, Eng.exs_cons, Eng.ret_con, Eng.ret_bin, Eng.ret_cmp, Eng.ret_and, Eng.ret_subv, Eng.ret_share, Eng.vx0, Eng.pk0, Eng.vx1, Eng.vo1, Eng.pk1, Eng.st1, Eng.vx2, Eng.po2, Eng.st2, Eng.vx3, Eng.pk3, Eng.rf3, Eng.st3, Eng.vo4, Eng.pk4, Eng.st4, Eng.vx5, Eng.vo5, Eng.st5, Eng.vx6, Eng.vx7, Eng.sub_lst, Eng.sub_scr, Eng.c_eqI, Eng.c_neI, Eng.c_ltI, Eng.c_gtI, Eng.c_geI, Eng.b_addI, Eng.len_scr, Eng.int_bl, Eng.max_I, Eng.min_I, Eng.at4_0, Eng.at4_1, Eng.at4_2, Eng.at4_3, Bool.not_true, Bool.not_false, Eng.evW_enm, Eng.kEnm_lst, Eng.ev_cmpl, Eng.kCmpl_some, Eng.kCmpl2_eq, Eng.oCmpl_some, Eng.evT_cmpl, Eng.w_ok, Eng.w_bind, Eng.w_thn, Eng.w_nx, Eng.w_rt, Eng.w_seq, Eng.w_done, Eng.w_okC, Eng.w_back, Eng.w_frz, Eng.qB_eq, Eng.qT_eq, Eng.qS_eq, Eng.qF_fz, Eng.qR_eq, Eng.qK_eq, Eng.ev_lcnt, Eng.lstP_lst, Eng.kLcnt_t, Eng.kLcnt2_eq, Eng.oCnt_some, Eng.ev_isx, Eng.kIsx_eq, Eng.ev_mkx, Eng.kMkx_eq, Eng.ev_mkxf, Eng.kMkxf_eq, Eng.ev_xfld, Eng.kXfld_eq, Eng.ev_lidx, Eng.kLidx_t, Eng.kLidx2_eq, Eng.oIdx_some])
local macro_rules | `(tactic| walk_at "eng*") => `(tactic| simp -implicitDefEqProofs only [Eng.ev_con, Eng.ev_var, Eng.ev_bin, Eng.kBin1_eq, Eng.kBin2_eq, Eng.ev_cmp, Eng.kCmp1_eq, Eng.kCmp2_eq, Eng.ev_and, Eng.kAnd_t, Eng.ev_tup, Eng.kTup_2, Eng.kTup_3, Eng.ev_lst, Eng.kLst_3, Eng.kLst_4, Eng.ev_call, Eng.kCall_eq, Eng.ev_blt, Eng.kBlt_1, Eng.kBlt_2, Eng.ev_bltv, Eng.oBlt_some, Eng.ev_subv, Eng.kSubv_some, Eng.kSubv2_eq, Eng.oSub_some, Eng.ev_cmpv, Eng.kCmpv_eq, Eng.oCmp_some, Eng.ev_comp, Eng.ev_share, Eng.kShare_eq, Eng.evs_nil, Eng.evs_cons, Eng.kCons1_eq, Eng.kCons2_eq, Eng.evT_not, Eng.kNotT_eq, Eng.evT_and, Eng.kAndT_t, Eng.kAndT_f, Eng.evT_or, Eng.kOrT_f, Eng.kTru_eq, Eng.evT_cmp, Eng.evT_cmpv, Eng.evT_blt, Eng.evW_seq, Eng.kSeq_lst, Eng.evW_rng1, Eng.frzX_fz, Eng.frzX_own, Eng.b_ok, Eng.l_some, Eng.bk_ok, Eng.t_ok, Eng.s_nx, Eng.s_rt, Eng.d_rt, Eng.lk_bl, Eng.lk_int, Eng.lk_lst, Eng.lk_scr, Eng.tru_bl, Eng.blF_eq, Eng.om_some, Eng.ex_set, Eng.kSet_eq, Eng.ex_ret, Eng.kRt_eq, Eng.ex_cond, Eng.kCond_t, Eng.kCond_f, Eng.ex_loop, Eng.kLoop_eq, Eng.ex_setr, Eng.kSetr1_eq, Eng.kSetr2_eq, Eng.kSetr3_eq, Eng.exs_nil, Eng.exs_cons, Eng.ret_con, Eng.ret_bin, Eng.ret_cmp, Eng.ret_and, Eng.ret_subv, Eng.ret_share, Eng.vx0, Eng.pk0, Eng.vx1, Eng.vo1, Eng.pk1, Eng.st1, Eng.vx2, Eng.po2, Eng.st2, Eng.vx3, Eng.pk3, Eng.rf3, Eng.st3, Eng.vo4, Eng.pk4, Eng.st4, Eng.vx5, Eng.vo5, Eng.st5, Eng.vx6, Eng.vx7, Eng.sub_lst, Eng.sub_scr, Eng.c_eqI, Eng.c_neI, Eng.c_ltI, Eng.c_gtI, Eng.c_geI, Eng.b_addI, Eng.len_scr, Eng.int_bl, Eng.max_I, Eng.min_I, Eng.at4_0, Eng.at4_1, Eng.at4_2, Eng.at4_3, Bool.not_true, Bool.not_false, Eng.evW_enm, Eng.kEnm_lst, Eng.ev_cmpl, Eng.kCmpl_some, Eng.kCmpl2_eq, Eng.oCmpl_some, Eng.evT_cmpl, Eng.w_ok, Eng.w_bind, Eng.w_thn, Eng.w_nx, Eng.w_rt, Eng.w_seq, Eng.w_done, Eng.w_okC, Eng.w_back, Eng.w_frz, Eng.qB_eq, Eng.qT_eq, Eng.qS_eq, Eng.qF_fz, Eng.qR_eq, Eng.qK_eq, Eng.ev_lcnt, Eng.lstP_lst, Eng.kLcnt_t, Eng.kLcnt2_eq, Eng.oCnt_some, Eng.ev_isx, Eng.kIsx_eq, Eng.ev_mkx, Eng.kMkx_eq, Eng.ev_mkxf, Eng.kMkxf_eq, Eng.ev_xfld, Eng.kXfld_eq, Eng.ev_lidx, Eng.kLidx_t, Eng.kLidx2_eq, Eng.oIdx_some, *])

section
namespace Fn
open PySem L2 Eng
def f_law_pen : Df := ⟨"_law_pen", 1, 1, (.cons (.ret (.share (.lst (.cons (.var 0) (.cons (.blt .int (.cons (.cmpl .ge 0 (.bin .pow (.con (.int 10)) (.con (.int 18)))) .nil)) (.cons (.con (.int 0)) (.cons (.bin .mod (.var 0) (.con (.int 1000000007))) .nil))))))) .nil), []⟩
def f_law_cell_at : Df := ⟨"_law_cell_at", 2, 2, (.cons (.cond (.cmpl .lt 1 (.bltv .len 0)) (.cons (.ret (.subv 0 (.var 1))) .nil) .nil) (.cons (.ret (.con (.int 0))) .nil)), []⟩
def f_law_draw : Df := ⟨"_law_draw", 2, 4, (.cons (.cond (.and (.cmp .eq (.subv 0 (.con (.int 1))) (.con (.int 1))) (.cmp .gt (.subv 0 (.con (.int 0))) (.con (.int 0)))) (.cons (.set 3 (.bin .mod (.subv 0 (.con (.int 0))) (.var 1))) (.cons (.setr (.var 0) (.con (.int 0)) (.bin .fdiv (.subv 0 (.con (.int 0))) (.var 1))) (.cons (.ret (.var 3)) .nil))) .nil) (.cons (.setr (.var 0) (.con (.int 2)) (.bin .add (.subv 0 (.con (.int 2))) (.con (.int 1)))) (.cons (.set 2 (.bin .mod (.bin .mul (.bin .add (.subv 0 (.con (.int 3))) (.con (.int 17))) (.bin .add (.con (.int 69621)) (.bin .mul (.con (.int 2)) (.subv 0 (.con (.int 2)))))) (.con (.int 2147483647)))) (.cons (.set 2 (.bin .mod (.bin .add (.bin .add (.bin .mul (.var 2) (.var 2)) (.bin .mul (.con (.int 40503)) (.subv 0 (.con (.int 2))))) (.con (.int 5))) (.con (.int 2147483629)))) (.cons (.ret (.bin .mod (.bin .fdiv (.bin .mod (.bin .mul (.var 2) (.con (.int 48271))) (.con (.int 2147483647))) (.con (.int 32))) (.var 1))) .nil))))), []⟩
structure HasDraw (P : Str → Option Df) : Prop where
  pen : P "_law_pen" = some f_law_pen
  cell_at : P "_law_cell_at" = some f_law_cell_at
  draw : P "_law_draw" = some f_law_draw
def PenAt (S : Store) (n : Nat) : Prop := ∃ a g c m : Int, S[n]? = some (.lst [.int a, .int g, .int c, .int m]) ∧ 0 ≤ m ∧ m < 1000000007
def Moved (n : Nat) (S S' : Store) : Prop := ∃ c, S' = S.set n c
theorem Moved.refl {n : Nat} {S : Store} (h : PenAt S n) : Moved n S S := by
  obtain ⟨a, g, c, m, h, _⟩ := h
  refine ⟨.lst [.int a, .int g, .int c, .int m], ?_⟩
  apply List.ext_getElem?
  intro i
  by_cases e : n = i
  · subst e; rw [List.getElem?_set_self (List.getElem?_eq_some_iff.mp h).1, h]
  · rw [List.getElem?_set_ne e]
theorem Moved.other {n k : Nat} {S S' : Store} (a : Moved n S S') (h : n ≠ k) : S'[k]? = S[k]? := by
  obtain ⟨c, rfl⟩ := a
  rw [List.getElem?_set_ne h]
section
variable {P : Str → Option Df} {gl : Str → Option D} {S : Store} {n k : Nat}
theorem setr0 {fr : Eng.Frame} {d x0 x1 x2 x3 : D} (h : S[n]? = some (.lst [x0, x1, x2, x3])) : setrX (.ref n) (.int 0) d fr S = .nx fr (S.set n (.lst [d, x1, x2, x3])) := by
  unfold setrX; simp only [h]; rfl
theorem setr2 {fr : Eng.Frame} {d x0 x1 x2 x3 : D} (h : S[n]? = some (.lst [x0, x1, x2, x3])) : setrX (.ref n) (.int 2) d fr S = .nx fr (S.set n (.lst [x0, x1, d, x3])) := by
  unfold setrX; simp only [h]; rfl
theorem look_set {xs : List D} (h : n < S.length) : look (S.set n (.lst xs)) (.ref n) = .lst xs := look_at (List.getElem?_set_self h)
theorem draw (hP : HasDraw P) (h : PenAt S n) {b : Int} (h0 : 0 < b) (h1 : b < 1073741824) :
    ∃ v S', callN P gl (k + 1) "_law_draw" [.ref n, .int b] S = .ok (.fz (.int v)) S' ∧ 0 ≤ v ∧ v < b ∧ Moved n S S' ∧ PenAt S' n := by
  obtain ⟨a, g, c, m, hs, hm0, hm1⟩ := h
  have hl : n < S.length := (List.getElem?_eq_some_iff.mp hs).1
  have hS : look S (.ref n) = .lst [.int a, .int g, .int c, .int m] := look_at hs
  have hT : ∀ xs, look (S.set n (.lst xs)) (.ref n) = .lst xs := fun xs => look_set hl
  have hm : ∀ i : Int, binD .mod (.int i) (.int b) = some (.fz (.int (i % b))) := fun i => bin_modI h0
  have hd : ∀ i : Int, binD .fdiv (.int i) (.int b) = some (.fz (.int (i / b))) := fun i => bin_fdivI ⟨h0, h1⟩
  have s0 : ∀ fr d, setrX (.ref n) (.int 0) d fr S = .nx fr (S.set n (.lst [d, .int g, .int c, .int m])) := fun fr d => setr0 hs
  have s2 : ∀ fr d, setrX (.ref n) (.int 2) d fr S = .nx fr (S.set n (.lst [.int a, .int g, d, .int m])) := fun fr d => setr2 hs
  rw [callN_run hP.draw rfl]
  show ∃ v S', RS.done (exs (callN P gl k) gl f_law_draw.body [some (.fz (.ref n)), some (.fz (.int b)), none, none] S) = _ ∧ _
  unfold f_law_draw
  have tail : ∃ v S', RS.done (exs (callN P gl k) gl (.cons (.setr (.var 0) (.con (.int 2)) (.bin .add (.subv 0 (.con (.int 2))) (.con (.int 1)))) (.cons (.set 2 (.bin .mod (.bin .mul (.bin .add (.subv 0 (.con (.int 3))) (.con (.int 17))) (.bin .add (.con (.int 69621)) (.bin .mul (.con (.int 2)) (.subv 0 (.con (.int 2)))))) (.con (.int 2147483647)))) (.cons (.set 2 (.bin .mod (.bin .add (.bin .add (.bin .mul (.var 2) (.var 2)) (.bin .mul (.con (.int 40503)) (.subv 0 (.con (.int 2))))) (.con (.int 5))) (.con (.int 2147483629)))) (.cons (.ret (.bin .mod (.bin .fdiv (.bin .mod (.bin .mul (.var 2) (.con (.int 48271))) (.con (.int 2147483647))) (.con (.int 32))) (.var 1))) .nil)))) [some (.fz (.ref n)), some (.fz (.int b)), none, none] S) = .ok (.fz (.int v)) S' ∧ 0 ≤ v ∧ v < b ∧ Moved n S S' ∧ PenAt S' n := by
    have m1 : binD .mul (.int 2) (.int (c + 1)) = some (.fz (.int (2 * (c + 1)))) := bin_mulI (Or.inl (by omega))
    have m2 : ∀ z : Int, binD .mul (.int (m + 17)) (.int z) = some (.fz (.int ((m + 17) * z))) := fun z => bin_mulI (Or.inl (by omega))
    have m3 : ∀ z : Int, binD .mod (.int z) (.int 2147483647) = some (.fz (.int (z % 2147483647))) := fun z => bin_modI (by omega)
    have m4 : ∀ z y : Int, binD .mul (.int (z % 2147483647)) (.int y) = some (.fz (.int ((z % 2147483647) * y))) := fun z y => bin_mulI (Or.inl (by omega))
    have m5 : ∀ z : Int, binD .mul (.int 40503) (.int z) = some (.fz (.int (40503 * z))) := fun z => bin_mulI (Or.inl (by omega))
    have m6 : ∀ z : Int, binD .mod (.int z) (.int 2147483629) = some (.fz (.int (z % 2147483629))) := fun z => bin_modI (by omega)
    have m7 : ∀ z y : Int, binD .mul (.int (z % 2147483629)) (.int y) = some (.fz (.int ((z % 2147483629) * y))) := fun z y => bin_mulI (Or.inl (by omega))
    have m8 : ∀ z : Int, binD .fdiv (.int z) (.int 32) = some (.fz (.int (z / 32))) := fun z => bin_fdivI (by omega)
    walk_at "eng*"
    refine ⟨_, _, rfl, Int.emod_nonneg _ (by omega), Int.emod_lt_of_pos _ h0, ⟨_, rfl⟩, ⟨a, g, c + 1, m, List.getElem?_set_self hl, hm0, hm1⟩⟩
  by_cases e1 : (g == 1) = true
  · by_cases e2 : decide (0 < a) = true
    · clear tail
      walk_at "eng*"
      refine ⟨_, _, rfl, Int.emod_nonneg _ (by omega), Int.emod_lt_of_pos _ h0, ⟨_, rfl⟩, ⟨_, g, c, m, List.getElem?_set_self hl, hm0, hm1⟩⟩
    · have e2 := eq_false_of_ne_true e2
      rw [exs_cons]
      have : ex (callN P gl k) gl (.cond (.and (.cmp .eq (.subv 0 (.con (.int 1))) (.con (.int 1))) (.cmp .gt (.subv 0 (.con (.int 0))) (.con (.int 0)))) (.cons (.set 3 (.bin .mod (.subv 0 (.con (.int 0))) (.var 1))) (.cons (.setr (.var 0) (.con (.int 0)) (.bin .fdiv (.subv 0 (.con (.int 0))) (.var 1))) (.cons (.ret (.var 3)) .nil))) .nil) [some (.fz (.ref n)), some (.fz (.int b)), none, none] S = .nx [some (.fz (.ref n)), some (.fz (.int b)), none, none] S := by
        clear tail
        walk_at "eng*"
      rw [this]; exact tail
  · have e1 := eq_false_of_ne_true e1
    rw [exs_cons]
    have : ex (callN P gl k) gl (.cond (.and (.cmp .eq (.subv 0 (.con (.int 1))) (.con (.int 1))) (.cmp .gt (.subv 0 (.con (.int 0))) (.con (.int 0)))) (.cons (.set 3 (.bin .mod (.subv 0 (.con (.int 0))) (.var 1))) (.cons (.setr (.var 0) (.con (.int 0)) (.bin .fdiv (.subv 0 (.con (.int 0))) (.var 1))) (.cons (.ret (.var 3)) .nil))) .nil) [some (.fz (.ref n)), some (.fz (.int b)), none, none] S = .nx [some (.fz (.ref n)), some (.fz (.int b)), none, none] S := by
      clear tail
      walk_at "eng*"
    rw [this]; exact tail
end
end Fn
end

section
namespace K15
open PySem L2 Eng
open Fn
theorem big : (100000 : Nat) < sizeLine := by unfold sizeLine; omega
def clsN : List Str := ["NoAlbums", "NoDeals", "NoExchange", "NoFriends", "NoList", "NoName", "NoNumber", "NoOffers", "NoOwners", "NoPaper", "NoPrices", "NoRow", "NoSet", "NoSets", "NoStamp", "NoStamps", "NoText", "NoWord", "Missing", "NoPrice", "NothingDone", "Same", "Short", "Twice"]
def at_ (c : Str) : Nat := clsN.idxOf c
def isN (x c : Str) : Bool := decide (c = x)
def lowB (c : Str) : Bool := decide (((at_ c : Nat) : Int) < 18)
def hiB (c : Str) : Bool := decide ((17 : Int) < ((at_ c : Nat) : Int))
theorem isx {yes no : List Str} {S : Store} {n : Nat} {c : Str} {fs : List Str} {vs : List D} (f : Str → Bool) (hc : c ∈ clsN) (h : S[n]? = some (.exn c fs vs)) (hd : (clsN.all fun k => decide ((if yes.contains k then some true else if no.contains k then some false else none) = some (f k))) = true) : isX S yes no (.ref n) = some (f c) := by
  rw [isX_exn yes no h]
  exact of_decide_eq_true (List.all_eq_true.mp hd c hc)
theorem addL {xs ys zs : List D} (h : xs.length + ys.length ≤ 1000) (e : xs ++ ys = zs) : binD .add (.lst xs) (.lst ys) = some (.own (.lst zs)) := by
  have hB := big
  show (if xs.length + ys.length ≤ sizeLine then some (Val.own (.lst (xs ++ ys))) else none) = _
  rw [if_pos (by omega), e]
theorem ne_bl (b : Bool) : cmpD .ne (.bl b) (.bl b) = some false := by cases b <;> rfl
def none_L (c : Str) : List D := [.bl (isN "NoAlbums" c), .bl (isN "NoDeals" c), .bl (isN "NoExchange" c), .bl (isN "NoFriends" c), .bl (isN "NoList" c), .bl (isN "NoName" c), .bl (isN "NoNumber" c), .bl (isN "NoOffers" c), .bl (isN "NoOwners" c), .bl (isN "NoPaper" c), .bl (isN "NoPrices" c), .bl (isN "NoRow" c), .bl (isN "NoSet" c), .bl (isN "NoSets" c), .bl (isN "NoStamp" c), .bl (isN "NoStamps" c), .bl (isN "NoText" c), .bl (isN "NoWord" c)]
theorem none_ {S : Store} {n : Nat} {c : Str} {fs : List Str} {vs : List D} (hc : c ∈ clsN) (h : S[n]? = some (.exn c fs vs)) (k : Nat) : callN pr.P pr.gl (k + 1) "_law_none" [.ref n] S = .ok (.own (.lst (none_L c))) S := by
  have h0 : isX S yes_NoAlbums no_NoAlbums (.ref n) = some (isN "NoAlbums" c) := isx (isN "NoAlbums") hc h (by decide +kernel)
  have h1 : isX S yes_NoDeals no_NoDeals (.ref n) = some (isN "NoDeals" c) := isx (isN "NoDeals") hc h (by decide +kernel)
  have h2 : isX S yes_NoExchange no_NoExchange (.ref n) = some (isN "NoExchange" c) := isx (isN "NoExchange") hc h (by decide +kernel)
  have h3 : isX S yes_NoFriends no_NoFriends (.ref n) = some (isN "NoFriends" c) := isx (isN "NoFriends") hc h (by decide +kernel)
  have h4 : isX S yes_NoList no_NoList (.ref n) = some (isN "NoList" c) := isx (isN "NoList") hc h (by decide +kernel)
  have h5 : isX S yes_NoName no_NoName (.ref n) = some (isN "NoName" c) := isx (isN "NoName") hc h (by decide +kernel)
  have h6 : isX S yes_NoNumber no_NoNumber (.ref n) = some (isN "NoNumber" c) := isx (isN "NoNumber") hc h (by decide +kernel)
  have h7 : isX S yes_NoOffers no_NoOffers (.ref n) = some (isN "NoOffers" c) := isx (isN "NoOffers") hc h (by decide +kernel)
  have h8 : isX S yes_NoOwners no_NoOwners (.ref n) = some (isN "NoOwners" c) := isx (isN "NoOwners") hc h (by decide +kernel)
  have h9 : isX S yes_NoPaper no_NoPaper (.ref n) = some (isN "NoPaper" c) := isx (isN "NoPaper") hc h (by decide +kernel)
  have h10 : isX S yes_NoPrices no_NoPrices (.ref n) = some (isN "NoPrices" c) := isx (isN "NoPrices") hc h (by decide +kernel)
  have h11 : isX S yes_NoRow no_NoRow (.ref n) = some (isN "NoRow" c) := isx (isN "NoRow") hc h (by decide +kernel)
  have h12 : isX S yes_NoSet no_NoSet (.ref n) = some (isN "NoSet" c) := isx (isN "NoSet") hc h (by decide +kernel)
  have h13 : isX S yes_NoSets no_NoSets (.ref n) = some (isN "NoSets" c) := isx (isN "NoSets") hc h (by decide +kernel)
  have h14 : isX S yes_NoStamp no_NoStamp (.ref n) = some (isN "NoStamp" c) := isx (isN "NoStamp") hc h (by decide +kernel)
  have h15 : isX S yes_NoStamps no_NoStamps (.ref n) = some (isN "NoStamps" c) := isx (isN "NoStamps") hc h (by decide +kernel)
  have h16 : isX S yes_NoText no_NoText (.ref n) = some (isN "NoText" c) := isx (isN "NoText") hc h (by decide +kernel)
  have h17 : isX S yes_NoWord no_NoWord (.ref n) = some (isN "NoWord" c) := isx (isN "NoWord") hc h (by decide +kernel)
  have a3 : binD .add (.lst [.bl (isN "NoAlbums" c), .bl (isN "NoDeals" c), .bl (isN "NoExchange" c)]) (.lst [.bl (isN "NoFriends" c), .bl (isN "NoList" c), .bl (isN "NoName" c)]) = some (.own (.lst [.bl (isN "NoAlbums" c), .bl (isN "NoDeals" c), .bl (isN "NoExchange" c), .bl (isN "NoFriends" c), .bl (isN "NoList" c), .bl (isN "NoName" c)])) := addL (by show _ ≤ _; simp) rfl
  have a6 : binD .add (.lst [.bl (isN "NoAlbums" c), .bl (isN "NoDeals" c), .bl (isN "NoExchange" c), .bl (isN "NoFriends" c), .bl (isN "NoList" c), .bl (isN "NoName" c)]) (.lst [.bl (isN "NoNumber" c), .bl (isN "NoOffers" c), .bl (isN "NoOwners" c)]) = some (.own (.lst [.bl (isN "NoAlbums" c), .bl (isN "NoDeals" c), .bl (isN "NoExchange" c), .bl (isN "NoFriends" c), .bl (isN "NoList" c), .bl (isN "NoName" c), .bl (isN "NoNumber" c), .bl (isN "NoOffers" c), .bl (isN "NoOwners" c)])) := addL (by show _ ≤ _; simp) rfl
  have a9 : binD .add (.lst [.bl (isN "NoAlbums" c), .bl (isN "NoDeals" c), .bl (isN "NoExchange" c), .bl (isN "NoFriends" c), .bl (isN "NoList" c), .bl (isN "NoName" c), .bl (isN "NoNumber" c), .bl (isN "NoOffers" c), .bl (isN "NoOwners" c)]) (.lst [.bl (isN "NoPaper" c), .bl (isN "NoPrices" c), .bl (isN "NoRow" c)]) = some (.own (.lst [.bl (isN "NoAlbums" c), .bl (isN "NoDeals" c), .bl (isN "NoExchange" c), .bl (isN "NoFriends" c), .bl (isN "NoList" c), .bl (isN "NoName" c), .bl (isN "NoNumber" c), .bl (isN "NoOffers" c), .bl (isN "NoOwners" c), .bl (isN "NoPaper" c), .bl (isN "NoPrices" c), .bl (isN "NoRow" c)])) := addL (by show _ ≤ _; simp) rfl
  have a12 : binD .add (.lst [.bl (isN "NoAlbums" c), .bl (isN "NoDeals" c), .bl (isN "NoExchange" c), .bl (isN "NoFriends" c), .bl (isN "NoList" c), .bl (isN "NoName" c), .bl (isN "NoNumber" c), .bl (isN "NoOffers" c), .bl (isN "NoOwners" c), .bl (isN "NoPaper" c), .bl (isN "NoPrices" c), .bl (isN "NoRow" c)]) (.lst [.bl (isN "NoSet" c), .bl (isN "NoSets" c), .bl (isN "NoStamp" c)]) = some (.own (.lst [.bl (isN "NoAlbums" c), .bl (isN "NoDeals" c), .bl (isN "NoExchange" c), .bl (isN "NoFriends" c), .bl (isN "NoList" c), .bl (isN "NoName" c), .bl (isN "NoNumber" c), .bl (isN "NoOffers" c), .bl (isN "NoOwners" c), .bl (isN "NoPaper" c), .bl (isN "NoPrices" c), .bl (isN "NoRow" c), .bl (isN "NoSet" c), .bl (isN "NoSets" c), .bl (isN "NoStamp" c)])) := addL (by show _ ≤ _; simp) rfl
  have a15 : binD .add (.lst [.bl (isN "NoAlbums" c), .bl (isN "NoDeals" c), .bl (isN "NoExchange" c), .bl (isN "NoFriends" c), .bl (isN "NoList" c), .bl (isN "NoName" c), .bl (isN "NoNumber" c), .bl (isN "NoOffers" c), .bl (isN "NoOwners" c), .bl (isN "NoPaper" c), .bl (isN "NoPrices" c), .bl (isN "NoRow" c), .bl (isN "NoSet" c), .bl (isN "NoSets" c), .bl (isN "NoStamp" c)]) (.lst [.bl (isN "NoStamps" c), .bl (isN "NoText" c), .bl (isN "NoWord" c)]) = some (.own (.lst [.bl (isN "NoAlbums" c), .bl (isN "NoDeals" c), .bl (isN "NoExchange" c), .bl (isN "NoFriends" c), .bl (isN "NoList" c), .bl (isN "NoName" c), .bl (isN "NoNumber" c), .bl (isN "NoOffers" c), .bl (isN "NoOwners" c), .bl (isN "NoPaper" c), .bl (isN "NoPrices" c), .bl (isN "NoRow" c), .bl (isN "NoSet" c), .bl (isN "NoSets" c), .bl (isN "NoStamp" c), .bl (isN "NoStamps" c), .bl (isN "NoText" c), .bl (isN "NoWord" c)])) := addL (by show _ ≤ _; simp) rfl
  rw [callN_run (d := f_law_none) rfl rfl]
  refine RC.eq_of ?_
  show (RS.done (exs (callN pr.P pr.gl k) pr.gl f_law_none.body [some (.fz (.ref n)), none] S)).wp _ _
  unfold f_law_none
  clear hc h
  walk_at "eng*"
  first | exact ⟨rfl, trivial⟩ | exact ⟨rfl, rfl⟩ | exact ⟨trivial, trivial⟩
def und_L (c : Str) : List D := [.bl (isN "Missing" c), .bl (isN "NoPrice" c), .bl (isN "NothingDone" c), .bl (isN "Same" c), .bl (isN "Short" c), .bl (isN "Twice" c)]
theorem und_ {S : Store} {n : Nat} {c : Str} {fs : List Str} {vs : List D} (hc : c ∈ clsN) (h : S[n]? = some (.exn c fs vs)) (k : Nat) : callN pr.P pr.gl (k + 1) "_law_undone" [.ref n] S = .ok (.own (.lst (und_L c))) S := by
  have h0 : isX S yes_Missing no_Missing (.ref n) = some (isN "Missing" c) := isx (isN "Missing") hc h (by decide +kernel)
  have h1 : isX S yes_NoPrice no_NoPrice (.ref n) = some (isN "NoPrice" c) := isx (isN "NoPrice") hc h (by decide +kernel)
  have h2 : isX S yes_NothingDone no_NothingDone (.ref n) = some (isN "NothingDone" c) := isx (isN "NothingDone") hc h (by decide +kernel)
  have h3 : isX S yes_Same no_Same (.ref n) = some (isN "Same" c) := isx (isN "Same") hc h (by decide +kernel)
  have h4 : isX S yes_Short no_Short (.ref n) = some (isN "Short" c) := isx (isN "Short") hc h (by decide +kernel)
  have h5 : isX S yes_Twice no_Twice (.ref n) = some (isN "Twice" c) := isx (isN "Twice") hc h (by decide +kernel)
  have a3 : binD .add (.lst [.bl (isN "Missing" c), .bl (isN "NoPrice" c), .bl (isN "NothingDone" c)]) (.lst [.bl (isN "Same" c), .bl (isN "Short" c), .bl (isN "Twice" c)]) = some (.own (.lst [.bl (isN "Missing" c), .bl (isN "NoPrice" c), .bl (isN "NothingDone" c), .bl (isN "Same" c), .bl (isN "Short" c), .bl (isN "Twice" c)])) := addL (by show _ ≤ _; simp) rfl
  rw [callN_run (d := f_law_undone) rfl rfl]
  refine RC.eq_of ?_
  show (RS.done (exs (callN pr.P pr.gl k) pr.gl f_law_undone.body [some (.fz (.ref n)), none] S)).wp _ _
  unfold f_law_undone
  clear hc h
  walk_at "eng*"
  first | exact ⟨rfl, trivial⟩ | exact ⟨rfl, rfl⟩ | exact ⟨trivial, trivial⟩
def kindsL (c : Str) : List D := [.bl (isN "NoAlbums" c), .bl (isN "NoDeals" c), .bl (isN "NoExchange" c), .bl (isN "NoFriends" c), .bl (isN "NoList" c), .bl (isN "NoName" c), .bl (isN "NoNumber" c), .bl (isN "NoOffers" c), .bl (isN "NoOwners" c), .bl (isN "NoPaper" c), .bl (isN "NoPrices" c), .bl (isN "NoRow" c), .bl (isN "NoSet" c), .bl (isN "NoSets" c), .bl (isN "NoStamp" c), .bl (isN "NoStamps" c), .bl (isN "NoText" c), .bl (isN "NoWord" c), .bl (isN "Missing" c), .bl (isN "NoPrice" c), .bl (isN "NothingDone" c), .bl (isN "Same" c), .bl (isN "Short" c), .bl (isN "Twice" c)]
def cntOk (c : Str) : Bool := match cntD (.lst (kindsL c)) (.bl true) with
  | some (.fz (.int k)) => decide (k = 1)
  | _ => false
def idxOk (c : Str) : Bool := match idxD (.lst (kindsL c)) (.bl true) with
  | some (.fz (.int k)) => decide (k = ((at_ c : Nat) : Int))
  | _ => false
theorem cnt_all : clsN.all cntOk = true := by decide +kernel
theorem idx_all : clsN.all idxOk = true := by decide +kernel
theorem cnt_of {c : Str} (hc : c ∈ clsN) : cntD (.lst (kindsL c)) (.bl true) = some (.fz (.int 1)) := by
  have h := List.all_eq_true.mp cnt_all c hc
  unfold cntOk at h
  split at h
  · rename_i k e
    rw [e, of_decide_eq_true h]
  · cases h
theorem idx_of {c : Str} (hc : c ∈ clsN) : idxD (.lst (kindsL c)) (.bl true) = some (.fz (.int ((at_ c : Nat) : Int))) := by
  have h := List.all_eq_true.mp idx_all c hc
  unfold idxOk at h
  split at h
  · rename_i k e
    rw [e, of_decide_eq_true h]
  · cases h
theorem right {S : Store} {n : Nat} {c : Str} {fs : List Str} {vs : List D} (hc : c ∈ clsN) (h : S[n]? = some (.exn c fs vs)) (k : Nat) : callN pr.P pr.gl (k + 2) "_law_right" [.ref n, .int ((at_ c : Nat) : Int)] S = .ok (.fz (.bl true)) S := by
  have w1 := none_ hc h k
  have w2 := und_ hc h k
  have ad : binD .add (.lst (none_L c)) (.lst (und_L c)) = some (.own (.lst (kindsL c))) := addL (by show _ ≤ _; simp [none_L, und_L]) rfl
  have c1 := cnt_of hc
  have c2 := idx_of hc
  have q1 : ((1 : Int) == 1) = true := rfl
  have x1 : isX S yes_NoThing no_NoThing (.ref n) = some (lowB c) := isx lowB hc h (by decide +kernel)
  have x2 : isX S yes_NotDone no_NotDone (.ref n) = some (hiB c) := isx hiB hc h (by decide +kernel)
  have x3 : isX S yes_HingeError no_HingeError (.ref n) = some true := isx (fun _ => true) hc h (by decide +kernel)
  have x4 : isX S yes_ValueError no_ValueError (.ref n) = some true := isx (fun _ => true) hc h (by decide +kernel)
  have e1 : decide (((at_ c : Nat) : Int) < 18) = lowB c := rfl
  have e2 : decide ((17 : Int) < ((at_ c : Nat) : Int)) = hiB c := rfl
  have n1 := ne_bl (lowB c)
  have n2 := ne_bl (hiB c)
  have n3 : (((at_ c : Nat) : Int) == ((at_ c : Nat) : Int)) = true := by simp
  generalize lowB c = b1 at *
  generalize hiB c = b2 at *
  generalize ((at_ c : Nat) : Int) = z at *
  generalize none_L c = l1 at *
  generalize und_L c = l2 at *
  generalize kindsL c = l3 at *
  rw [callN_run (d := f_law_right) rfl rfl]
  refine RC.eq_of ?_
  show (RS.done (exs (callN pr.P pr.gl (k + 1)) pr.gl f_law_right.body [some (.fz (.ref n)), some (.fz (.int z)), none] S)).wp _ _
  unfold f_law_right
  clear hc h
  walk_at "eng*"
  first | exact ⟨rfl, trivial⟩ | exact ⟨rfl, rfl⟩ | exact ⟨trivial, trivial⟩
end K15
end

section
namespace K15
open PySem L2 Eng
open Fn
section
variable {P : Str → Option Df} {gl : Str → Option D} {n p : Nat} {S : Store}
theorem pen (hP : HasDraw P) (hn : 1 ≤ n) {i : Int} {C : Val → Store → Prop} {X : Ex → Store → Prop} (hC : ∀ c, PenAt (S ++ [c]) S.length → C (.fz (.ref S.length)) (S ++ [c])) : (callN P gl n "_law_pen" [.int i] S).wp C X := by
  obtain ⟨m, rfl⟩ : ∃ m, n = m + 1 := ⟨n - 1, by omega⟩
  rw [callN_run hP.pen rfl]
  show (RS.done (exs (callN P gl m) gl Fn.f_law_pen.body [some (.fz (.int i))] S)).wp _ _
  unfold Fn.f_law_pen
  have e1 : binD .pow (.int 10) (.int 18) = some (.fz (.int (10 ^ 18))) := by
    show (if 0 ≤ (18 : Int) ∧ (18 : Int) ≤ 1000000 ∧ (10 : Int).natAbs < 2 ^ 64 then some (Val.fz (.int ((10 : Int) ^ (18 : Int).toNat))) else none) = _
    rw [if_pos (by decide)]; rfl
  have e2 : binD .mod (.int i) (.int 1000000007) = some (.fz (.int (i % 1000000007))) := bin_modI (by omega)
  walk_at "eng*"
  exact hC _ ⟨i, _, 0, i % 1000000007, List.getElem?_concat_length, Int.emod_nonneg _ (by omega), Int.emod_lt_of_pos _ (by omega)⟩
theorem cell_at (hP : HasDraw P) (hn : 1 ≤ n) {ns : List Int} {j : Nat} {C : Val → Store → Prop} {X : Ex → Store → Prop} (hC : ∀ i : Int, C (.fz (.int i)) S) : (callN P gl n "_law_cell_at" [.scr (ns.map .int), .int j] S).wp C X := by
  obtain ⟨m, rfl⟩ : ∃ m, n = m + 1 := ⟨n - 1, by omega⟩
  rw [callN_run hP.cell_at rfl]
  show (RS.done (exs (callN P gl m) gl Fn.f_law_cell_at.body [some (.fz (.scr (ns.map .int))), some (.fz (.int j))] S)).wp _ _
  unfold Fn.f_law_cell_at
  by_cases h : j < ns.length
  · have e1 : decide ((j : Int) < ((ns.map D.int).length : Nat)) = true := by rw [List.length_map]; exact decide_eq_true (by omega)
    have e2 : atD (ns.map D.int) (j : Int) = some (.int ns[j]) := atD_nat rfl (by rw [List.getElem?_map, List.getElem?_eq_getElem h]; rfl)
    walk_at "eng*"
  · have e1 : decide ((j : Int) < ((ns.map D.int).length : Nat)) = false := by rw [List.length_map]; exact decide_eq_false (by omega)
    walk_at "eng*"
theorem drawn (hP : HasDraw P) (hn : 1 ≤ n) {k : Nat} (h : PenAt S k) {b : Int} (h0 : 0 < b) (h1 : b < 1073741824) {C : Val → Store → Prop} {X : Ex → Store → Prop} (hC : ∀ v T, 0 ≤ v → v < b → Moved k S T → PenAt T k → C (.fz (.int v)) T) :
    (callN P gl n "_law_draw" [.ref k, .int b] S).wp C X := by
  obtain ⟨m, rfl⟩ : ∃ m, n = m + 1 := ⟨n - 1, by omega⟩
  obtain ⟨v, T, e, a1, a2, a3, a4⟩ := draw (gl := gl) (k := m) hP h h0 h1
  rw [e]; exact hC v T a1 a2 a3 a4
end
def Keeps (S T : Store) : Prop := ∀ (n : Nat) (c : Str) (fs : List Str) (vs : List D), S[n]? = some (Cell.exn c fs vs) → T[n]? = some (Cell.exn c fs vs)
theorem Keeps.app (S cs : Store) : Keeps S (S ++ cs) := fun n c fs vs h => by
  rw [List.getElem?_append_left (List.getElem?_eq_some_iff.mp h).1]; exact h
theorem Keeps.trans {S T U : Store} (a : Keeps S T) (b : Keeps T U) : Keeps S U := fun n c fs vs h => b n c fs vs (a n c fs vs h)
theorem Keeps.moved {S T : Store} {p : Nat} (h : PenAt S p) (m : Moved p S T) : Keeps S T := fun n c fs vs e => by
  have ne : p ≠ n := fun z => by
    subst z
    obtain ⟨_, _, _, _, h, _⟩ := h
    rw [e] at h; cases h
  rw [m.other ne]; exact e
def RowAt (S : Store) : Prop := ∀ i, i < 21 → S[i]? = some (Cell.exn (clsN.getD i Str.empty) [] [])
theorem RowAt.keep {S T : Store} (h : RowAt S) (k : Keeps S T) : RowAt T := fun i hi => k _ _ _ _ (h i hi)
def place (k i : Nat) : Nat := if i < 21 then i else k + (i - 21)
def rowD (k : Nat) : List D := (List.range 24).map fun i => D.ref (place k i)
theorem names_at : ∀ i, i < 24 → clsN.getD i Str.empty ∈ clsN ∧ at_ (clsN.getD i Str.empty) = i := by decide +kernel
def heads : List Str := ["NoThing", "NotDone", "HingeError"]
theorem isx3 {yes no : List Str} {S : Store} {n : Nat} {c : Str} (f : Str → Bool) (hc : c ∈ heads) (h : S[n]? = some (Cell.exn c [] [])) (hd : (heads.all fun k => decide ((if yes.contains k then some true else if no.contains k then some false else none) = some (f k))) = true) : isX S yes no (.ref n) = some (f c) := by
  rw [isX_exn yes no h]
  exact of_decide_eq_true (List.all_eq_true.mp hd c hc)
section
variable {n m k q z : Nat} {v : Int} {ns : List Int} {x1 x3 x4 x5 : Option Val} {S : Store}
theorem all_right (hn : n = m + 2) (hr : ∀ i, i < 24 → ∃ fs vs, S[place k i]? = some (Cell.exn (clsN.getD i Str.empty) fs vs)) :
    kComp (callN pr.P pr.gl n) pr.gl (.call "_law_right" (.cons (.var 6) (.cons (.var 7) .nil))) (.tp (.cons (.nm 7) (.cons (.nm 6) .nil))) .nil (enumD (rowD k)) [some (.fz (.scr (ns.map .int))), some (.fz (.lst (refs 0 21))), some (.fz (.int (z : Nat))), some (.fz (.int v)), some (.fz (.lst (rowD k))), x5, none, none] S = .ok (.own (.lst ((List.range 24).map fun _ => D.bl true))) [some (.fz (.scr (ns.map .int))), some (.fz (.lst (refs 0 21))), some (.fz (.int (z : Nat))), some (.fz (.int v)), some (.fz (.lst (rowD k))), x5, none, none] S := by
  have hB := big
  unfold rowD
  rw [enumD_range]
  refine kComp_all (frw := [some (.fz (.scr (ns.map .int))), some (.fz (.lst (refs 0 21))), some (.fz (.int (z : Nat))), some (.fz (.int v)), some (.fz (.lst (rowD k))), x5, none, none]) (fun i => .tup [.int (i : Nat), .ref (place k i)]) _ (List.range 24) rfl rfl rfl (by rw [List.length_range]; omega) fun i hi => ⟨[some (.fz (.scr (ns.map .int))), some (.fz (.lst (refs 0 21))), some (.fz (.int (z : Nat))), some (.fz (.int v)), some (.fz (.lst (rowD k))), x5, some (.fz (.ref (place k i))), some (.fz (.int (i : Nat)))], rfl, rfl, ?_, rfl⟩
  have hi := List.mem_range.mp hi
  obtain ⟨fs, vs, e⟩ := hr i hi
  obtain ⟨n1, n2⟩ := names_at i hi
  have w := right n1 e m
  rw [n2] at w
  subst hn
  unfold eltX
  clear hr e n1 n2 hB
  walk_at "eng*"
theorem heads1 (hr : ∀ i, i < 3 → S[q + i]? = some (Cell.exn (heads.getD i Str.empty) [] [])) {yes no : List Str} {c : Str} (f : Str → Bool) (hd : (heads.all fun k => decide ((if yes.contains k then some true else if no.contains k then some false else none) = some (f k))) = true) {cf : CF} {gl : Str → Option D} :
    kComp cf gl (.isx c yes no (.var 6)) (.nm 6) .nil [.ref q, .ref (q + 1), .ref (q + 2)] [some (.fz (.scr (ns.map .int))), some (.fz (.lst (refs 0 21))), some (.fz (.int (z : Nat))), some (.fz (.int v)), some (.fz (.lst (rowD k))), some (.fz (.lst [.ref q, .ref (q + 1), .ref (q + 2)])), none, none] S = .ok (.own (.lst ((List.range 3).map fun i => D.bl (f (heads.getD i Str.empty))))) [some (.fz (.scr (ns.map .int))), some (.fz (.lst (refs 0 21))), some (.fz (.int (z : Nat))), some (.fz (.int v)), some (.fz (.lst (rowD k))), some (.fz (.lst [.ref q, .ref (q + 1), .ref (q + 2)])), none, none] S := by
  have hB := big
  have e3 : [D.ref q, .ref (q + 1), .ref (q + 2)] = (List.range 3).map fun i => D.ref (q + i) := rfl
  have go : ∀ w : Option Val, kComp cf gl (.isx c yes no (.var 6)) (.nm 6) .nil ((List.range 3).map fun i => D.ref (q + i)) [some (.fz (.scr (ns.map .int))), some (.fz (.lst (refs 0 21))), some (.fz (.int (z : Nat))), some (.fz (.int v)), some (.fz (.lst (rowD k))), some (.fz (.lst [.ref q, .ref (q + 1), .ref (q + 2)])), none, none] S = .ok (.own (.lst ((List.range 3).map fun i => D.bl (f (heads.getD i Str.empty))))) [some (.fz (.scr (ns.map .int))), some (.fz (.lst (refs 0 21))), some (.fz (.int (z : Nat))), some (.fz (.int v)), some (.fz (.lst (rowD k))), some (.fz (.lst [.ref q, .ref (q + 1), .ref (q + 2)])), none, none] S := fun _ => by
    refine kComp_all (frw := [some (.fz (.scr (ns.map .int))), some (.fz (.lst (refs 0 21))), some (.fz (.int (z : Nat))), some (.fz (.int v)), some (.fz (.lst (rowD k))), some (.fz (.lst [.ref q, .ref (q + 1), .ref (q + 2)])), none, none]) (fun i => .ref (q + i)) _ (List.range 3) rfl rfl rfl (by rw [List.length_range]; omega) fun i hi => ⟨[some (.fz (.scr (ns.map .int))), some (.fz (.lst (refs 0 21))), some (.fz (.int (z : Nat))), some (.fz (.int v)), some (.fz (.lst (rowD k))), some (.fz (.lst [.ref q, .ref (q + 1), .ref (q + 2)])), some (.fz (.ref (q + i))), none], rfl, rfl, ?_, rfl⟩
    have hi := List.mem_range.mp hi
    have hm : heads.getD i Str.empty ∈ heads := by
      rcases (by omega : i = 0 ∨ i = 1 ∨ i = 2) with rfl | rfl | rfl <;> decide +kernel
    have w := isx3 f hm (hr i hi) hd
    unfold eltX
    clear hr hm hB hd
    walk_at "eng*"
  rw [e3] at *
  exact go none
theorem lap (hn : n = m + 2) (hR : RowAt S) (h1 : x1 = some (.own (.lst (refs 0 21))) ∨ x1 = some (.fz (.lst (refs 0 21)))) {N : Eng.Frame → Store → Prop} {R : Val → Eng.Frame → Store → Prop} {E : EK}
    (hN : ∀ T y3 y4 y5, RowAt T → N [some (.fz (.scr (ns.map .int))), some (.fz (.lst (refs 0 21))), some (.fz (.int (z : Nat))), y3, y4, y5, none, none] T) :
    (exs (callN pr.P pr.gl n) pr.gl (.cons (.set 3 (.call "_law_draw" (.cons (.call "_law_pen" (.cons (.call "_law_cell_at" (.cons (.var 0) (.cons (.var 2) .nil))) .nil)) (.cons (.con (.int 99)) .nil)))) (.cons (.set 4 (.bin .add (.var 1) (.lst (.cons (.mkx "Same" (.con (.str "a"))) (.cons (.mkxf "Short" "by" (.var 3)) (.cons (.mkx "Twice" (.con (.str "a"))) .nil)))))) (.cons (.cond (.not (.blt .all (.cons (.comp (.call "_law_right" (.cons (.var 6) (.cons (.var 7) .nil))) (.tp (.cons (.nm 7) (.cons (.nm 6) .nil))) (.enm (.var 4)) .nil) .nil))) (.cons (.ret (.con (.bl false))) .nil) .nil) (.cons (.cond (.or (.cmpv .ne (.xfld "Short" "by" (.subv 4 (.con (.int 22)))) 3) (.cmp .ne (.xfld "Short" "by" (.mkxf "Short" "by" (.bin .add (.var 3) (.con (.int 1))))) (.bin .add (.var 3) (.con (.int 1))))) (.cons (.ret (.con (.bl false))) .nil) .nil) (.cons (.set 5 (.lst (.cons (.mkx "NoThing" (.con (.str "a"))) (.cons (.mkx "NotDone" (.con (.str "a"))) (.cons (.mkx "HingeError" (.con (.str "a"))) .nil))))) (.cons (.cond (.cmp .ne (.comp (.isx "NoThing" yes_NoThing no_NoThing (.var 6)) (.nm 6) (.seq (.var 5)) .nil) (.lst (.cons (.con (.bl true)) (.cons (.con (.bl false)) (.cons (.con (.bl false)) .nil))))) (.cons (.ret (.con (.bl false))) .nil) .nil) (.cons (.cond (.cmp .ne (.comp (.isx "NotDone" yes_NotDone no_NotDone (.var 6)) (.nm 6) (.seq (.var 5)) .nil) (.lst (.cons (.con (.bl false)) (.cons (.con (.bl true)) (.cons (.con (.bl false)) .nil))))) (.cons (.ret (.con (.bl false))) .nil) .nil) .nil))))))) [some (.fz (.scr (ns.map .int))), x1, some (.fz (.int (z : Nat))), x3, x4, x5, none, none] S).wp N R E := by
  have hP : HasDraw pr.P := ⟨rfl, rfl, rfl⟩
  subst hn
  walk_at "eng"
  refine cell_at hP (by omega) fun i => ?_
  walk_at "eng"
  refine pen hP (by omega) fun c hp => ?_
  walk_at "eng"
  refine drawn hP (by omega) hp (by omega) (by omega) fun v T v0 v1 hM hT => ?_
  have hR : RowAt T := hR.keep ((Keeps.app S [c]).trans (Keeps.moved hp hM))
  clear hp hM hT v0 v1
  have l1 : (T ++ [Cell.exn "Same" [] []]).length = T.length + 1 := by simp
  have l2 : (T ++ [Cell.exn "Same" [] []] ++ [Cell.exn "Short" ["by"] [D.int v]]).length = T.length + 2 := by simp
  have ad : binD .add (.lst (refs 0 21)) (.lst [.ref T.length, .ref (T.length + 1), .ref (T.length + 2)]) = some (.own (.lst (rowD T.length))) := addL (by show _ ≤ _; simp [refs]) rfl
  have hk : ∀ i, i < 24 → ∃ fs vs, (T ++ [Cell.exn "Same" [] []] ++ [Cell.exn "Short" ["by"] [D.int v]] ++ [Cell.exn "Twice" [] []])[place T.length i]? = some (Cell.exn (clsN.getD i Str.empty) fs vs) := fun i hi => by
    by_cases h : i < 21
    · have e : place T.length i = i := if_pos h
      rw [e]
      exact ⟨_, _, Keeps.app _ _ _ _ _ _ (Keeps.app _ _ _ _ _ _ (Keeps.app _ _ _ _ _ _ (hR i h)))⟩
    · have e : place T.length i = T.length + (i - 21) := if_neg h
      rw [e, List.append_assoc, List.append_assoc, List.getElem?_append_right (by omega)]
      rcases (by omega : i = 21 ∨ i = 22 ∨ i = 23) with rfl | rfl | rfl
      · exact ⟨[], [], by rw [show T.length + (21 - 21) - T.length = 0 by omega]; rfl⟩
      · exact ⟨["by"], [.int v], by rw [show T.length + (22 - 21) - T.length = 1 by omega]; rfl⟩
      · exact ⟨[], [], by rw [show T.length + (23 - 21) - T.length = 2 by omega]; rfl⟩
  have hR3 : RowAt (T ++ [Cell.exn "Same" [] []] ++ [Cell.exn "Short" ["by"] [D.int v]] ++ [Cell.exn "Twice" [] []]) := hR.keep ((Keeps.app _ _).trans ((Keeps.app _ _).trans (Keeps.app _ _)))
  have sh : (T ++ [Cell.exn "Same" [] []] ++ [Cell.exn "Short" ["by"] [D.int v]] ++ [Cell.exn "Twice" [] []])[T.length + 1]? = some (Cell.exn "Short" ["by"] [.int v]) := by
    rw [List.append_assoc, List.append_assoc, List.getElem?_append_right (by omega), show T.length + 1 - T.length = 1 by omega]; rfl
  have s22 : subD (.lst (rowD T.length)) (.int 22) = some (.ref (T.length + 1)) := rfl
  generalize hU : T ++ [Cell.exn "Same" [] []] ++ [Cell.exn "Short" ["by"] [D.int v]] ++ [Cell.exn "Twice" [] []] = U at hk hR3 sh
  have f1 := xfldD_exn sh
  have f2 : xfldD (U ++ [Cell.exn "Short" ["by"] [D.int (v + 1)]]) "Short" "by" (.ref U.length) = some (.int (v + 1)) := xfldD_exn (by rw [List.getElem?_append_right (Nat.le_refl _), Nat.sub_self]; rfl)
  have b1 : (v == v) = true := by simp
  have b2 : (v + 1 == v + 1) = true := by simp
  have al : bltD .all [.lst ((List.range 24).map fun _ => D.bl true)] = some (.fz (.bl true)) := rfl
  have kc := fun x5 => all_right (ns := ns) (z := z) (v := v) (x5 := x5) (n := m + 2) rfl hk
  generalize hV : U ++ [Cell.exn "Short" ["by"] [D.int (v + 1)]] = V at f2
  have hRV : RowAt V := by rw [← hV]; exact hR3.keep (Keeps.app _ _)
  have m1 : (V ++ [Cell.exn "NoThing" [] []]).length = V.length + 1 := by simp
  have m2 : (V ++ [Cell.exn "NoThing" [] []] ++ [Cell.exn "NotDone" [] []]).length = V.length + 2 := by simp
  have hh : ∀ i, i < 3 → (V ++ [Cell.exn "NoThing" [] []] ++ [Cell.exn "NotDone" [] []] ++ [Cell.exn "HingeError" [] []])[V.length + i]? = some (Cell.exn (heads.getD i Str.empty) [] []) := fun i hi => by
    rw [List.append_assoc, List.append_assoc, List.getElem?_append_right (by omega)]
    rcases (by omega : i = 0 ∨ i = 1 ∨ i = 2) with rfl | rfl | rfl
    · rw [show V.length + 0 - V.length = 0 by omega]; rfl
    · rw [show V.length + 1 - V.length = 1 by omega]; rfl
    · rw [show V.length + 2 - V.length = 2 by omega]; rfl
  have hRW : RowAt (V ++ [Cell.exn "NoThing" [] []] ++ [Cell.exn "NotDone" [] []] ++ [Cell.exn "HingeError" [] []]) := hRV.keep ((Keeps.app _ _).trans ((Keeps.app _ _).trans (Keeps.app _ _)))
  have k1 := heads1 (ns := ns) (z := z) (v := v) (k := T.length) (c := "NoThing") (cf := callN pr.P pr.gl (m + 2)) (gl := pr.gl) hh (yes := yes_NoThing) (no := no_NoThing) (fun c => decide (c = "NoThing")) (by decide +kernel)
  have k2 := heads1 (ns := ns) (z := z) (v := v) (k := T.length) (c := "NotDone") (cf := callN pr.P pr.gl (m + 2)) (gl := pr.gl) hh (yes := yes_NotDone) (no := no_NotDone) (fun c => decide (c = "NotDone")) (by decide +kernel)
  have t1 : cmpD .ne (.lst ((List.range 3).map fun i => D.bl (decide (heads.getD i Str.empty = "NoThing")))) (.lst [.bl true, .bl false, .bl false]) = some false := by rfl
  have t2 : cmpD .ne (.lst ((List.range 3).map fun i => D.bl (decide (heads.getD i Str.empty = "NotDone")))) (.lst [.bl false, .bl true, .bl false]) = some false := by rfl
  have fin := fun y3 y4 y5 => hN _ y3 y4 y5 hRW
  clear hN hR hk hR3 sh hRV hh hRW hP
  rcases h1 with rfl | rfl <;> walk_at "eng*"
end
theorem many {n : Nat} {S : Store} : callN pr.P pr.gl (n + 1) "places_many" [.tup [.tup [.str "a", .int 1900, .int 3], .tup [.str "b", .int 1900, .int 2]]] S = .ok (.fz (.int 5)) S := by
  rw [callN_run (d := f_places_many) rfl rfl]
  rfl
def n1 : List Str := ["NoAlbums", "NoDeals", "NoExchange", "NoFriends", "NoList", "NoName", "NoNumber"]
def n2 : List Str := ["NoOffers", "NoOwners", "NoPaper", "NoPrices", "NoRow", "NoSet", "NoSets"]
def n3 : List Str := ["NoStamp", "NoStamps", "NoText", "NoWord", "Missing", "NoPrice", "NothingDone"]
theorem first {cf : CF} {gl : Str → Option D} {x0 : Option Val} {rest : Sms} {N : Eng.Frame → Store → Prop} {R : Val → Eng.Frame → Store → Prop} {E : EK}
    (h : (exs cf gl rest [x0, some (.own (.lst (refs 0 21))), none, none, none, none, none, none] ((n1 ++ n2 ++ n3).map fun c => Cell.exn c [] [])).wp N R E) :
    (exs cf gl (.cons (.set 1 (.lst (mkxs n1))) (.cons (.set 1 (.bin .add (.var 1) (.lst (mkxs n2)))) (.cons (.set 1 (.bin .add (.var 1) (.lst (mkxs n3)))) rest))) [x0, none, none, none, none, none, none, none] []).wp N R E := by
  have hB := big
  have k1 : ∀ fr S, evs cf gl (mkxs n1) fr S = .ok (refs S.length 7) fr (S ++ n1.map fun c => Cell.exn c [] []) := fun fr S => evs_mkxs n1 S
  have k2 : ∀ fr S, evs cf gl (mkxs n2) fr S = .ok (refs S.length 7) fr (S ++ n2.map fun c => Cell.exn c [] []) := fun fr S => evs_mkxs n2 S
  have k3 : ∀ fr S, evs cf gl (mkxs n3) fr S = .ok (refs S.length 7) fr (S ++ n3.map fun c => Cell.exn c [] []) := fun fr S => evs_mkxs n3 S
  have l7 : ∀ k, (refs k 7).length = 7 := fun k => by simp [refs]
  have e1 : ∀ xs ss fr S, exs cf gl (.cons (.set 1 (.lst xs)) ss) fr S = ((evs cf gl xs fr S).bind fun xs fr S => if xs.length ≤ sizeLine then .ok (Val.own (.lst xs)) fr S else .no).thn fun v fr S => exs cf gl ss (fr.set 1 (some v)) S := fun xs ss fr S => by
    show RS.seq (RX.thn ((evs cf gl xs fr S).bind fun xs fr S => if xs.length ≤ sizeLine then RX.ok (Val.own (.lst xs)) fr S else .no) (fun v fr S => RS.nx (fr.set 1 (some v)) S)) (fun fr S => exs cf gl ss fr S) = _
    cases evs cf gl xs fr S with
    | ok ys fr S =>
      show RS.seq (RX.thn (if ys.length ≤ sizeLine then .ok (Val.own (.lst ys)) fr S else .no) _) _ = RX.thn (if ys.length ≤ sizeLine then .ok (Val.own (.lst ys)) fr S else .no) _
      by_cases q : ys.length ≤ sizeLine
      · rw [if_pos q]; rfl
      · rw [if_neg q]; rfl
    | ex e fr S => rfl
    | no => rfl
  rw [e1, k1]
  show (RX.thn (if (refs 0 7).length ≤ sizeLine then RX.ok (Val.own (Cell.lst (refs 0 7))) [x0, none, none, none, none, none, none, none] ([] ++ n1.map fun c => Cell.exn c [] []) else RX.no) _).wp N R E
  rw [l7, if_pos (by omega)]
  have a1 : binD .add (.lst (refs 0 7)) (.lst (refs 7 7)) = some (.own (.lst (refs 0 14))) := addL (by show _ ≤ _; simp [refs]) rfl
  have a2 : binD .add (.lst (refs 0 14)) (.lst (refs 14 7)) = some (.own (.lst (refs 0 21))) := addL (by show _ ≤ _; simp [refs]) rfl
  have step : ∀ (xs : Xs) (j : Nat) (cs : List Str) (S : Store) (ss : Sms), evs cf gl xs [x0, some (.fz (.lst (refs 0 j))), none, none, none, none, none, none] S = .ok (refs j 7) [x0, some (.fz (.lst (refs 0 j))), none, none, none, none, none, none] (S ++ cs.map fun c => Cell.exn c [] []) → binD .add (.lst (refs 0 j)) (.lst (refs j 7)) = some (.own (.lst (refs 0 (j + 7)))) →
      exs cf gl (.cons (.set 1 (.bin .add (.var 1) (.lst xs))) ss) [x0, some (.own (.lst (refs 0 j))), none, none, none, none, none, none] S = exs cf gl ss [x0, some (.own (.lst (refs 0 (j + 7)))), none, none, none, none, none, none] (S ++ cs.map fun c => Cell.exn c [] []) := by
    intro xs j cs S ss h1 h2
    show RS.seq (RX.thn ((frzX (((evs cf gl xs [x0, some (.fz (.lst (refs 0 j))), none, none, none, none, none, none] S).bind fun ys fr S => if ys.length ≤ sizeLine then .ok (Val.own (.lst ys)) fr S else .no))).bind fun y fr S => RX.lift (binD .add (look S (.lst (refs 0 j))) (look S y)) fr S) _) _ = _
    rw [h1]
    show RS.seq (RX.thn ((frzX (if (refs j 7).length ≤ sizeLine then RX.ok (Val.own (Cell.lst (refs j 7))) [x0, some (.fz (.lst (refs 0 j))), none, none, none, none, none, none] (S ++ cs.map fun c => Cell.exn c [] []) else RX.no)).bind _) _) _ = _
    rw [l7, if_pos (by omega)]
    show RS.seq (RX.thn (RX.lift (binD .add (.lst (refs 0 j)) (.lst (refs j 7))) _ _) _) _ = _
    rw [h2]; rfl
  show (exs cf gl (.cons (.set 1 (.bin .add (.var 1) (.lst (mkxs n2)))) (.cons (.set 1 (.bin .add (.var 1) (.lst (mkxs n3)))) rest)) [x0, some (.own (.lst (refs 0 7))), none, none, none, none, none, none] (n1.map fun c => Cell.exn c [] [])).wp N R E
  rw [step _ 7 n2 _ _ (k2 _ _) a1, step _ 14 n3 _ _ (k3 _ _) a2, ← List.map_append, ← List.map_append]
  exact h
theorem law_ok : ∀ ns : List Int, ns.length ≤ 63 → ∃ S, callN pr.P pr.gl 20 "law" [.scr (ns.map D.int)] (pr.tbs.map Cell.tab) = .ok (.fz (.bl true)) S := by
  intro ns hns
  refine RC.some_of ?_
  rw [callN_run (d := f_law) rfl rfl]
  show (RS.done (exs (callN pr.P pr.gl 19) pr.gl f_law.body [some (.fz (.scr (ns.map .int))), none, none, none, none, none, none, none] [])).wp _ _
  rw [w_done]
  refine first (cf := callN pr.P pr.gl 19) (rest := .cons (.loop (.nm 2) (.rng1 (.blt .max2 (.cons (.con (.int 1)) (.cons (.blt .min2 (.cons (.bltv .len 0) (.cons (.con (.int 3)) .nil))) .nil)))) (.cons (.set 3 (.call "_law_draw" (.cons (.call "_law_pen" (.cons (.call "_law_cell_at" (.cons (.var 0) (.cons (.var 2) .nil))) .nil)) (.cons (.con (.int 99)) .nil)))) (.cons (.set 4 (.bin .add (.var 1) (.lst (.cons (.mkx "Same" (.con (.str "a"))) (.cons (.mkxf "Short" "by" (.var 3)) (.cons (.mkx "Twice" (.con (.str "a"))) .nil)))))) (.cons (.cond (.not (.blt .all (.cons (.comp (.call "_law_right" (.cons (.var 6) (.cons (.var 7) .nil))) (.tp (.cons (.nm 7) (.cons (.nm 6) .nil))) (.enm (.var 4)) .nil) .nil))) (.cons (.ret (.con (.bl false))) .nil) .nil) (.cons (.cond (.or (.cmpv .ne (.xfld "Short" "by" (.subv 4 (.con (.int 22)))) 3) (.cmp .ne (.xfld "Short" "by" (.mkxf "Short" "by" (.bin .add (.var 3) (.con (.int 1))))) (.bin .add (.var 3) (.con (.int 1))))) (.cons (.ret (.con (.bl false))) .nil) .nil) (.cons (.set 5 (.lst (.cons (.mkx "NoThing" (.con (.str "a"))) (.cons (.mkx "NotDone" (.con (.str "a"))) (.cons (.mkx "HingeError" (.con (.str "a"))) .nil))))) (.cons (.cond (.cmp .ne (.comp (.isx "NoThing" yes_NoThing no_NoThing (.var 6)) (.nm 6) (.seq (.var 5)) .nil) (.lst (.cons (.con (.bl true)) (.cons (.con (.bl false)) (.cons (.con (.bl false)) .nil))))) (.cons (.ret (.con (.bl false))) .nil) .nil) (.cons (.cond (.cmp .ne (.comp (.isx "NotDone" yes_NotDone no_NotDone (.var 6)) (.nm 6) (.seq (.var 5)) .nil) (.lst (.cons (.con (.bl false)) (.cons (.con (.bl true)) (.cons (.con (.bl false)) .nil))))) (.cons (.ret (.con (.bl false))) .nil) .nil) .nil)))))))) (.cons (.ret (.cmp .eq (.call "places_many" (.cons (.tup (.cons (.tup (.cons (.con (.str "a")) (.cons (.con (.int 1900)) (.cons (.con (.int 3)) .nil)))) (.cons (.tup (.cons (.con (.str "b")) (.cons (.con (.int 1900)) (.cons (.con (.int 2)) .nil)))) .nil))) .nil)) (.con (.int 5)))) .nil)) ?_
  obtain ⟨w, hw1, hw⟩ : ∃ w : Nat, w ≤ 3 ∧ (if (if (3 : Int) < ((ns.map D.int).length : Nat) then 3 else (((ns.map D.int).length : Nat) : Int)) > 1 then (if (3 : Int) < ((ns.map D.int).length : Nat) then 3 else (((ns.map D.int).length : Nat) : Int)) else 1) = (w : Int) := by
    refine ⟨(if (if (3 : Int) < ((ns.map D.int).length : Nat) then 3 else (((ns.map D.int).length : Nat) : Int)) > 1 then (if (3 : Int) < ((ns.map D.int).length : Nat) then 3 else (((ns.map D.int).length : Nat) : Int)) else 1).toNat, ?_, ?_⟩
    · split
      · split <;> omega
      · omega
    · split
      · split <;> omega
      · omega
  have hr : ∀ fr S, kRng1 (.int (w : Int)) fr S = .ok ((List.range w).map fun q : Nat => D.int (q : Nat)) fr S := fun fr S => by
    rw [kRng1_eq (by unfold rgOk; exact decide_eq_true (by omega))]
    show RX.ok (rgD 0 (w : Int)) fr S = _
    unfold rgD
    rw [show ((w : Int) - 0).toNat = w by omega]
    congr 1
    exact List.map_congr_left fun q _ => by rw [Int.zero_add]
  have r0 : RowAt ((n1 ++ n2 ++ n3).map fun c => Cell.exn c [] []) := by
    intro i hi
    rw [List.getElem?_map]
    have e : (n1 ++ n2 ++ n3)[i]? = some (clsN.getD i Str.empty) := by
      have := (by decide +kernel : ∀ i, i < 21 → (n1 ++ n2 ++ n3)[i]? = some (clsN.getD i Str.empty)) i hi
      exact this
    rw [e]; rfl
  generalize ((n1 ++ n2 ++ n3).map fun c => Cell.exn c [] [] : Store) = S0 at r0 ⊢
  generalize hcf : callN pr.P pr.gl 19 = cf
  walk_at "eng"
  rw [hw, hr]
  clear hw
  walk_at "eng"
  subst hcf
  refine wp_loopM (fun q : Nat => D.int (q : Nat)) (fun i fr T => RowAt T ∧ ∃ x1 x2 x3 x4 x5, (x1 = some (.own (.lst (refs 0 21))) ∨ x1 = some (.fz (.lst (refs 0 21)))) ∧ fr = [some (.fz (.scr (ns.map .int))), x1, x2, x3, x4, x5, none, none]) ⟨r0, _, none, none, none, none, .inl rfl, rfl⟩ ?_ ?_
  · rintro i z fr S hi ⟨hR, x1, x2, x3, x4, x5, h1, rfl⟩
    refine ⟨[some (.fz (.scr (ns.map .int))), x1, some (.fz (.int (z : Nat))), x3, x4, x5, none, none], rfl, ?_⟩
    exact lap (m := 17) rfl hR h1 fun T y3 y4 y5 hT => ⟨hT, _, _, y3, y4, y5, .inr rfl, rfl⟩
  · rintro fr T ⟨_, x1, x2, x3, x4, x5, _, rfl⟩
    have w := many (n := 18) (S := T)
    walk_at "eng*"
    rfl
end K15
end

section
open PySem PySem.W PySem.Calls PyProof.Rows
theorem PySem.Challenge.cw_hingemount_k15_families_of_refusals_holds : PySem.Challenge.rw_hingemount_k15_families_of_refusals.Holds := by
  w_on; o_law
  refine HandSHeadRun.head_any (r := OpenLaw.row PySem.Challenge.rw_hingemount_k15_families_of_refusals) (q := view (OpenLaw.row PySem.Challenge.rw_hingemount_k15_families_of_refusals).prog [37]) (H := K15.hk) (ob := K15.ob) (M := 9000) (loose := K15.names) (d := HandSHeadRun.topDef (OpenLaw.row PySem.Challenge.rw_hingemount_k15_families_of_refusals).prog 37) (kwd := []) K15.ob_eq
    (by kernel_rfl) (fun s => by kernel_rfl) K15.run (by kernel_rfl) (by kernel_rfl) (by kernel_rfl) (by rfl) (by first | assumption | decide +kernel) (by decide +kernel) ⟨rfl, rfl, rfl, rfl, rfl, by decide +kernel⟩ ?hw ?hc
  case hw => w_witness2
  case hc => exact Eng.Pr.law (p := K15.pr) (n := 20) (x := "_law_script") rfl (by kernel_rfl) ⟨rfl, by decide, by decide⟩ K15.ok K15.nd K15.bp K15.hwOk K15.bpw (by kernel_rfl) K15.r_law (by kernel_rfl) (by kernel_rfl) (by kernel_rfl) rfl K15.law_ok
end
