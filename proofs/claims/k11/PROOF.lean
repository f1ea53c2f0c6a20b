import PyProof.Rows.All
import Wide.All
import OpenK.AllK
import Wide.FinOn
import HandS.ForMost
import HandS.ForExc
import HandS.EndBits
import HandS.WideBits
import HandS.ExcInit
import HandS.ExcField
import HandS.ExcIs
import HandS.IsInst
import HandS.Deep
import HandS.TupAny
import HandS.Style
import KE.KDictKeyed
import KE.KDictDisplayH
import HandS.Nested
import HandS.Codes
import HandS.SortInts
import HandS.SortRule
import HandS.Conv
import HandS.Walk
import HandS.ClsMeth
import HandS.TryOnly
import KE.KExcIs
import HandS.SetKeys
import KE.IntBitsLaws
import HandS.SetFor
import HandS.Strs
import KE.BitLaws
import KE.DataCmp
import HandS.Defaults
import HandS.CallSlots
import HandS.EndTab
import HandS.EndOwn
import KE.KDictWalk
import HandS.Iter
import HandS.Rev
import KE.KDictList
import KE.SortKeyHeap
import HandS.SortKw
import HandS.TupLen
import KE.KDictCopyH
import KE.KIndexOf
import PySem.Challenge.RW_wormyard_k11_told_tables
set_option Elab.async false
set_option autoImplicit false
set_option linter.all false
set_option maxRecDepth 100000
set_option maxHeartbeats 4000000
/-! TL: values as trees over the hand layer -/
namespace TL
open PySem PySem.Spec PyProof.Rows L2

/-- a value as a tree; dic t: a dict, t: its keys are tuples; obj: an instance that nobody changes any more, by its class's number; ref: a thing that may change, by its number -/
inductive D where
  | non | bl (b : Bool) | int (i : Int) | str (x : Str)
  | lst (xs : List D) | tup (xs : List D) | dic (t : Bool) (kvs : List (NestedKey × D)) | obj (c : Nat) (fs : List (Nat × D))
  | ref (n : Nat)

/-- the classes by number -/
structure Cl where
  c : Nat → Option Addr
  P : Program
  w : World
  tP : Addr
instance : CoeFun Cl (fun _ => Nat → Option Addr) := ⟨Cl.c⟩
/-- the fields' names -/
def fnames : List Str := ["places", "lanes", "land", "known", "wide", "round", "aboves", "far", "whole_table", "alive", "room", "rights", "back", "holder", "queue",
  "start", "goal", "length", "word", "way", "sent", "spots", "table", "tracks", "letters", "heaps", "past", "yard", "many", "lane", "row", "_none"]
def fnm (n : Nat) : Str := fnames.getD n "_none"
theorem fnm_inj : ∀ i < 32, ∀ j < 32, fnm i = fnm j → i = j := by decide +kernel

/-- what nobody changes any more, and where the things that may change stand -/
structure Gh where
  fz : Hp
  ρ : List Addr
structure GLe (G G' : Gh) : Prop where
  fz : Same G.fz G'.fz
  pre : G.ρ <+: G'.ρ
def gput (G : Gh) (a : Addr) (o : HO) : Gh := ⟨upd G.fz a o, G.ρ⟩
def gnew (G : Gh) (a : Addr) : Gh := ⟨G.fz, G.ρ ++ [a]⟩
theorem GLe.refl (G : Gh) : GLe G G := ⟨Same.refl _, List.prefix_refl _⟩
theorem GLe.trans {G G' G2 : Gh} (a : GLe G G') (b : GLe G' G2) : GLe G G2 := ⟨a.fz.trans b.fz, a.pre.trans b.pre⟩
theorem pre_at {α : Type} {l m : List α} {n : Nat} {a : α} (h : l <+: m) (e : l[n]? = some a) : m[n]? = some a := by
  obtain ⟨t, rfl⟩ := h
  rw [List.getElem?_append_left (List.getElem?_eq_some_iff.mp e).1]
  exact e
theorem GLe.at {G G' : Gh} (e : GLe G G') {n : Nat} {a : Addr} (h : G.ρ[n]? = some a) : G'.ρ[n]? = some a := pre_at e.pre h

def kN : Key → NestedKey
  | .inl i => .num i
  | .inr x => .text x
theorem kN_inj : ∀ {a b : Key}, kN a = kN b → a = b
  | .inl _, .inl _, h => by cases h; rfl
  | .inr _, .inr _, h => by cases h; rfl
mutual
def kD : NestedKey → D
  | .none => .non
  | .num i => .int i
  | .text x => .str x
  | .tup ks => .tup (kDs ks)
def kDs : List NestedKey → List D
  | [] => []
  | k :: ks => kD k :: kDs ks
end
/-- a dict with ints and texts as keys, at a -/
def DicK (P : Program) (w : World) (a : Addr) (ep : Nat) (kvs : List (Key × V)) (h : Heap) : Prop :=
  kvs.length ≤ sizeLine ∧ (a == sysModules) = false ∧ ∃ vs, KV kvs vs ∧ h.DictAt (mixKind P w) a vs ep
/-- a dict with tuples as keys, at a -/
def DicT (P : Program) (w : World) (a : Addr) (ep : Nat) (xs : List (NestedKey × Addr × Value)) (h : Heap) : Prop :=
  xs.length ≤ sizeLine ∧ (a == sysModules) = false ∧ (∀ x ∈ xs, x.1.depth ≤ 8) ∧ ∃ o es, h.get? a = some o ∧ o.ExactDict ∧ o.data = .dict es ep ∧ es.toList = xs.map (entryOfKey (nestedKind P w)) ∧ (xs.map (·.1)).Nodup

mutual
inductive KDen (K : PySem.W.Frag) (G : Hp) : V → NestedKey → Prop
  | non : KDen K G .non .none
  | num (i : Int) : KDen K G (.int i) (.num i)
  | text (x : Str) : KDen K G (.str x) (.text x)
  | tup {a : Addr} {xs : List V} {ks : List NestedKey} : SqT K G a xs → KDenL K G xs ks → KDen K G (.ref a) (.tup ks)
inductive KDenL (K : PySem.W.Frag) (G : Hp) : List V → List NestedKey → Prop
  | nil : KDenL K G [] []
  | cons {v : V} {vs : List V} {k : NestedKey} {ks : List NestedKey} : KDen K G v k → KDenL K G vs ks → KDenL K G (v :: vs) (k :: ks)
end
mutual
inductive Den (K : PySem.W.Frag) (cl : Cl) (G : Gh) : V → D → Prop
  | non : Den K cl G .non .non
  | bl (b : Bool) : Den K cl G (.bl b) (.bl b)
  | int (i : Int) : Den K cl G (.int i) (.int i)
  | str (x : Str) : Den K cl G (.str x) (.str x)
  | lst {a : Addr} {xs : List V} {ds : List D} : SqL K G.fz a xs → DenL K cl G xs ds → Den K cl G (.ref a) (.lst ds)
  | tup {a : Addr} {xs : List V} {ds : List D} : SqT K G.fz a xs → DenL K cl G xs ds → Den K cl G (.ref a) (.tup ds)
  | dicK {a : Addr} {ep : Nat} {xs : List (Key × V)} {ds : List (NestedKey × D)} : Rd G.fz a (.ext (DicK cl.P cl.w a ep xs)) → DenK K cl G xs ds → Den K cl G (.ref a) (.dic false ds)
  | dicT {a : Addr} {ep : Nat} {xs : List (NestedKey × Addr × Value)} {ds : List (NestedKey × D)} : Rd G.fz a (.ext (DicT cl.P cl.w a ep xs)) → DenT K cl G xs ds → Den K cl G (.ref a) (.dic true ds)
  | obj {a C dx : Addr} {c : Nat} {vs : List (Str × V)} {fs : List (Nat × D)} : cl c = some C → G.fz a = some (.ins C dx vs) → DenF K cl G vs fs → Den K cl G (.ref a) (.obj c fs)
  | ref {a : Addr} {n : Nat} : G.ρ[n]? = some a → Den K cl G (.ref a) (.ref n)
inductive DenL (K : PySem.W.Frag) (cl : Cl) (G : Gh) : List V → List D → Prop
  | nil : DenL K cl G [] []
  | cons {v : V} {vs : List V} {d : D} {ds : List D} : Den K cl G v d → DenL K cl G vs ds → DenL K cl G (v :: vs) (d :: ds)
inductive DenF (K : PySem.W.Frag) (cl : Cl) (G : Gh) : List (Str × V) → List (Nat × D) → Prop
  | nil : DenF K cl G [] []
  | cons {f : Nat} {v : V} {vs : List (Str × V)} {d : D} {ds : List (Nat × D)} : f < 32 → Den K cl G v d → DenF K cl G vs ds → DenF K cl G ((fnm f, v) :: vs) ((f, d) :: ds)
inductive DenK (K : PySem.W.Frag) (cl : Cl) (G : Gh) : List (Key × V) → List (NestedKey × D) → Prop
  | nil : DenK K cl G [] []
  | cons {k : Key} {v : V} {vs : List (Key × V)} {d : D} {ds : List (NestedKey × D)} : Den K cl G v d → DenK K cl G vs ds → DenK K cl G ((k, v) :: vs) ((kN k, d) :: ds)
inductive DenT (K : PySem.W.Frag) (cl : Cl) (G : Gh) : List (NestedKey × Addr × Value) → List (NestedKey × D) → Prop
  | nil : DenT K cl G [] []
  | cons {k : NestedKey} {b : Addr} {u : Value} {v : V} {vs : List (NestedKey × Addr × Value)} {d : D} {ds : List (NestedKey × D)} : KDen K G.fz (.ref b) k → RelV v u → Den K cl G v d → DenT K cl G vs ds → DenT K cl G ((k, b, u) :: vs) ((k, d) :: ds)
end

section
variable {K : PySem.W.Frag} {cl : Cl} {G G' : Gh} {H H' : Hp}
theorem rd_same {a : Addr} {u : HO} (e : Same H H') (h : Rd H a u) : Rd H' a u := by
  rcases h with h | ⟨o, h⟩
  · exact .inl (e _ _ h)
  · exact .inr ⟨o, e _ _ h⟩
theorem sqT_same {a : Addr} {xs : List V} (e : Same H H') (h : SqT K H a xs) : SqT K H' a xs := by
  rcases h with (h | ⟨o, h⟩) | h
  · exact .inl (.inl (e _ _ h))
  · exact .inl (.inr ⟨o, e _ _ h⟩)
  · exact .inr h
mutual
theorem KDen.mono (e : Same H H') : ∀ (k : NestedKey) (v : V), KDen K H v k → KDen K H' v k
  | .none, _, .non => .non
  | .num _, _, .num i => .num i
  | .text _, _, .text i => .text i
  | .tup ks, _, .tup h1 h2 => .tup (sqT_same e h1) (KDenL.mono e ks _ h2)
theorem KDenL.mono (e : Same H H') : ∀ (ks : List NestedKey) (vs : List V), KDenL K H vs ks → KDenL K H' vs ks
  | [], _, .nil => .nil
  | k :: ks, _, .cons h1 h2 => .cons (KDen.mono e k _ h1) (KDenL.mono e ks _ h2)
end
mutual
theorem Den.mono (e : GLe G G') : ∀ (d : D) (v : V), Den K cl G v d → Den K cl G' v d
  | .non, _, .non => .non
  | .bl _, _, .bl b => .bl b
  | .int _, _, .int b => .int b
  | .str _, _, .str b => .str b
  | .lst ds, _, .lst h1 h2 => .lst (e.fz.seq h1) (DenL.mono e ds _ h2)
  | .tup ds, _, .tup h1 h2 => .tup (sqT_same e.fz h1) (DenL.mono e ds _ h2)
  | .dic _ ds, _, .dicK h1 h2 => .dicK (rd_same e.fz h1) (DenK.mono e ds _ h2)
  | .dic _ ds, _, .dicT h1 h2 => .dicT (rd_same e.fz h1) (DenT.mono e ds _ h2)
  | .obj _ fs, _, .obj h1 h2 h3 => .obj h1 (e.fz _ _ h2) (DenF.mono e fs _ h3)
  | .ref _, _, .ref h => .ref (e.at h)
theorem DenL.mono (e : GLe G G') : ∀ (ds : List D) (vs : List V), DenL K cl G vs ds → DenL K cl G' vs ds
  | [], _, .nil => .nil
  | d :: ds, _, .cons h1 h2 => .cons (Den.mono e d _ h1) (DenL.mono e ds _ h2)
theorem DenF.mono (e : GLe G G') : ∀ (ds : List (Nat × D)) (vs : List (Str × V)), DenF K cl G vs ds → DenF K cl G' vs ds
  | [], _, .nil => .nil
  | (_, d) :: ds, _, .cons h0 h1 h2 => .cons h0 (Den.mono e d _ h1) (DenF.mono e ds _ h2)
theorem DenK.mono (e : GLe G G') : ∀ (ds : List (NestedKey × D)) (vs : List (Key × V)), DenK K cl G vs ds → DenK K cl G' vs ds
  | [], _, .nil => .nil
  | (_, d) :: ds, _, .cons h1 h2 => .cons (Den.mono e d _ h1) (DenK.mono e ds _ h2)
theorem DenT.mono (e : GLe G G') : ∀ (ds : List (NestedKey × D)) (vs : List (NestedKey × Addr × Value)), DenT K cl G vs ds → DenT K cl G' vs ds
  | [], _, .nil => .nil
  | (k, d) :: ds, _, .cons h0 h1 h2 h3 => .cons (KDen.mono e.fz k _ h0) h1 (Den.mono e d _ h2) (DenT.mono e ds _ h3)
end

mutual
/-- a key and its tree -/
theorem KDen.den : ∀ (k : NestedKey) (v : V), KDen K G.fz v k → Den K cl G v (kD k)
  | .none, _, .non => .non
  | .num _, _, .num i => .int i
  | .text _, _, .text i => .str i
  | .tup ks, _, .tup h1 h2 => .tup h1 (KDenL.den ks _ h2)
theorem KDenL.den : ∀ (ks : List NestedKey) (vs : List V), KDenL K G.fz vs ks → DenL K cl G vs (kDs ks)
  | [], _, .nil => .nil
  | k :: ks, _, .cons h1 h2 => .cons (KDen.den k _ h1) (KDenL.den ks _ h2)
end
mutual
/-- the key that a tree is -/
def nkey : D → Option NestedKey
  | .non => some .none
  | .int i => some (.num i)
  | .str x => some (.text x)
  | .tup ds => (nkeys ds).map .tup
  | .bl _ => none
  | .lst _ => none
  | .dic _ _ => none
  | .obj _ _ => none
  | .ref _ => none
def nkeys : List D → Option (List NestedKey)
  | [] => some []
  | d :: ds => match nkey d, nkeys ds with
    | some x, some xs => some (x :: xs)
    | _, _ => none
end
theorem nkeys_cons {d : D} {ds : List D} {ps : List NestedKey} (h : nkeys (d :: ds) = some ps) : ∃ x xs, ps = x :: xs ∧ nkey d = some x ∧ nkeys ds = some xs := by
  rw [nkeys] at h
  split at h
  · rename_i x xs e1 e2
    exact ⟨x, xs, (Option.some.inj h).symm, e1, e2⟩
  · cases h
mutual
theorem Den.key : ∀ (d : D) (v : V) (k : NestedKey), Den K cl G v d → nkey d = some k → KDen K G.fz v k
  | .non, _, _, .non, e => by cases e; exact .non
  | .bl _, _, _, .bl _, e => by cases e
  | .int _, _, _, .int _, e => by cases e; exact .num _
  | .str _, _, _, .str _, e => by cases e; exact .text _
  | .lst _, _, _, _, e => by simp [nkey] at e
  | .dic _ _, _, _, _, e => by simp [nkey] at e
  | .obj _ _, _, _, _, e => by simp [nkey] at e
  | .ref _, _, _, _, e => by simp [nkey] at e
  | .tup ds, _, _, .tup h1 h2, e => by
    cases q : nkeys ds with
    | none => simp [nkey, q] at e
    | some ps => simp [nkey, q] at e; subst e; exact .tup h1 (DenL.key ds _ ps h2 q)
theorem DenL.key : ∀ (ds : List D) (vs : List V) (ks : List NestedKey), DenL K cl G vs ds → nkeys ds = some ks → KDenL K G.fz vs ks
  | [], _, _, .nil, e => by simp [nkeys] at e; subst e; exact .nil
  | d :: ds, _, _, .cons h1 h2, e => by
    obtain ⟨x, xs, rfl, e1, e2⟩ := nkeys_cons e
    exact .cons (Den.key d _ x h1 e1) (DenL.key ds _ xs h2 e2)
end
mutual
/-- only things that may change of numbers below n are in it -/
def below (n : Nat) : D → Bool
  | .non => true
  | .bl _ => true
  | .int _ => true
  | .str _ => true
  | .lst ds => belowL n ds
  | .tup ds => belowL n ds
  | .dic _ ds => belowK n ds
  | .obj _ fs => belowF n fs
  | .ref m => decide (m < n)
def belowL (n : Nat) : List D → Bool
  | [] => true
  | d :: ds => below n d && belowL n ds
def belowK (n : Nat) : List (NestedKey × D) → Bool
  | [] => true
  | (_, d) :: ds => below n d && belowK n ds
def belowF (n : Nat) : List (Nat × D) → Bool
  | [] => true
  | (_, d) :: ds => below n d && belowF n ds
end
mutual
theorem Den.bel : ∀ (d : D) (v : V), Den K cl G v d → below G.ρ.length d = true
  | .non, _, _ => by simp [TL.below]
  | .bl _, _, _ => by simp [TL.below]
  | .int _, _, _ => by simp [TL.below]
  | .str _, _, _ => by simp [TL.below]
  | .lst ds, _, .lst h1 h2 => by simpa [TL.below] using DenL.bel ds _ h2
  | .tup ds, _, .tup h1 h2 => by simpa [TL.below] using DenL.bel ds _ h2
  | .dic _ ds, _, .dicK h1 h2 => by simpa [TL.below] using DenK.bel ds _ h2
  | .dic _ ds, _, .dicT h1 h2 => by simpa [TL.below] using DenT.bel ds _ h2
  | .obj _ fs, _, .obj h1 h2 h3 => by simpa [TL.below] using DenF.bel fs _ h3
  | .ref _, _, .ref h => by simpa [TL.below] using (List.getElem?_eq_some_iff.mp h).1
theorem DenL.bel : ∀ (ds : List D) (vs : List V), DenL K cl G vs ds → belowL G.ρ.length ds = true
  | [], _, _ => by simp [belowL]
  | d :: ds, _, .cons h1 h2 => by simp only [belowL, Den.bel d _ h1, DenL.bel ds _ h2, Bool.and_self]
theorem DenF.bel : ∀ (ds : List (Nat × D)) (vs : List (Str × V)), DenF K cl G vs ds → belowF G.ρ.length ds = true
  | [], _, _ => by simp [belowF]
  | (_, d) :: ds, _, .cons h0 h1 h2 => by simp only [belowF, Den.bel d _ h1, DenF.bel ds _ h2, Bool.and_self]
theorem DenK.bel : ∀ (ds : List (NestedKey × D)) (vs : List (Key × V)), DenK K cl G vs ds → belowK G.ρ.length ds = true
  | [], _, _ => by simp [belowK]
  | (_, d) :: ds, _, .cons h1 h2 => by simp only [belowK, Den.bel d _ h1, DenK.bel ds _ h2, Bool.and_self]
theorem DenT.bel : ∀ (ds : List (NestedKey × D)) (vs : List (NestedKey × Addr × Value)), DenT K cl G vs ds → belowK G.ρ.length ds = true
  | [], _, _ => by simp [belowK]
  | (_, d) :: ds, _, .cons h0 h1 h2 h3 => by simp only [belowK, Den.bel d _ h2, DenT.bel ds _ h3, Bool.and_self]
end
/-- fewer things that may change -/
structure GSh (n : Nat) (G G' : Gh) : Prop where
  fz : Same G.fz G'.fz
  at_ : ∀ (m : Nat) (a : Addr), m < n → G.ρ[m]? = some a → G'.ρ[m]? = some a
section
variable {n : Nat}
mutual
theorem Den.shrink (e : GSh n G G') : ∀ (d : D) (v : V), below n d = true → Den K cl G v d → Den K cl G' v d
  | .non, _, _, .non => .non
  | .bl _, _, _, .bl b => .bl b
  | .int _, _, _, .int b => .int b
  | .str _, _, _, .str b => .str b
  | .lst ds, _, q, .lst h1 h2 => .lst (e.fz.seq h1) (DenL.shrink e ds _ (by simpa [TL.below] using q) h2)
  | .tup ds, _, q, .tup h1 h2 => .tup (sqT_same e.fz h1) (DenL.shrink e ds _ (by simpa [TL.below] using q) h2)
  | .dic _ ds, _, q, .dicK h1 h2 => .dicK (rd_same e.fz h1) (DenK.shrink e ds _ (by simpa [TL.below] using q) h2)
  | .dic _ ds, _, q, .dicT h1 h2 => .dicT (rd_same e.fz h1) (DenT.shrink e ds _ (by simpa [TL.below] using q) h2)
  | .obj _ fs, _, q, .obj h1 h2 h3 => .obj h1 (e.fz _ _ h2) (DenF.shrink e fs _ (by simpa [TL.below] using q) h3)
  | .ref _, _, q, .ref h => .ref (e.at_ _ _ (by simpa [TL.below] using q) h)
theorem DenL.shrink (e : GSh n G G') : ∀ (ds : List D) (vs : List V), belowL n ds = true → DenL K cl G vs ds → DenL K cl G' vs ds
  | [], _, _, .nil => .nil
  | d :: ds, _, q, .cons h1 h2 => by
    simp only [belowL, Bool.and_eq_true] at q
    exact .cons (Den.shrink e d _ q.1 h1) (DenL.shrink e ds _ q.2 h2)
theorem DenF.shrink (e : GSh n G G') : ∀ (ds : List (Nat × D)) (vs : List (Str × V)), belowF n ds = true → DenF K cl G vs ds → DenF K cl G' vs ds
  | [], _, _, .nil => .nil
  | (_, d) :: ds, _, q, .cons h0 h1 h2 => by
    simp only [belowF, Bool.and_eq_true] at q
    exact .cons h0 (Den.shrink e d _ q.1 h1) (DenF.shrink e ds _ q.2 h2)
theorem DenK.shrink (e : GSh n G G') : ∀ (ds : List (NestedKey × D)) (vs : List (Key × V)), belowK n ds = true → DenK K cl G vs ds → DenK K cl G' vs ds
  | [], _, _, .nil => .nil
  | (_, d) :: ds, _, q, .cons h1 h2 => by
    simp only [belowK, Bool.and_eq_true] at q
    exact .cons (Den.shrink e d _ q.1 h1) (DenK.shrink e ds _ q.2 h2)
theorem DenT.shrink (e : GSh n G G') : ∀ (ds : List (NestedKey × D)) (vs : List (NestedKey × Addr × Value)), belowK n ds = true → DenT K cl G vs ds → DenT K cl G' vs ds
  | [], _, _, .nil => .nil
  | (k, d) :: ds, _, q, .cons h0 h1 h2 h3 => by
    simp only [belowK, Bool.and_eq_true] at q
    exact .cons (KDen.mono e.fz k _ h0) h1 (Den.shrink e d _ q.1 h2) (DenT.shrink e ds _ q.2 h3)
end
end
theorem DenL.len : ∀ {vs : List V} {ds : List D}, DenL K cl G vs ds → vs.length = ds.length
  | _, _, .nil => rfl
  | _, _, .cons _ h => congrArg (· + 1) h.len
theorem DenL.get : ∀ {vs : List V} {ds : List D} {i : Nat} {d : D}, DenL K cl G vs ds → ds[i]? = some d → ∃ v, vs[i]? = some v ∧ Den K cl G v d
  | _, _, _, _, .nil, e => by simp at e
  | _, _, 0, _, .cons h _, e => by simp at e; subst e; exact ⟨_, rfl, h⟩
  | _, _, i + 1, d, .cons _ h, e => by
    obtain ⟨v, h1, h2⟩ := DenL.get (i := i) (d := d) h (by simpa using e)
    exact ⟨v, by simpa using h1, h2⟩
theorem DenL.getV : ∀ {vs : List V} {ds : List D} {i : Nat} {v : V}, DenL K cl G vs ds → vs[i]? = some v → ∃ d, ds[i]? = some d ∧ Den K cl G v d
  | _, _, _, _, .nil, e => by simp at e
  | _, _, 0, _, .cons h _, e => by simp at e; subst e; exact ⟨_, rfl, h⟩
  | _, _, i + 1, v, .cons _ h, e => by
    obtain ⟨d, h1, h2⟩ := DenL.getV (i := i) (v := v) h (by simpa using e)
    exact ⟨d, by simpa using h1, h2⟩
theorem DenL.app : ∀ {vs us : List V} {ds es : List D}, DenL K cl G vs ds → DenL K cl G us es → DenL K cl G (vs ++ us) (ds ++ es)
  | _, _, _, _, .nil, h => h
  | _, _, _, _, .cons h1 h2, h => .cons h1 (h2.app h)
theorem DenL.one {v : V} {d : D} (h : Den K cl G v d) : DenL K cl G [v] [d] := .cons h .nil
theorem DenL.set : ∀ {vs : List V} {ds : List D} (i : Nat) {v : V} {d : D}, DenL K cl G vs ds → Den K cl G v d → DenL K cl G (vs.set i v) (ds.set i d)
  | _, _, _, _, _, .nil, _ => .nil
  | _, _, 0, _, _, .cons _ h, q => .cons q h
  | _, _, i + 1, _, _, .cons h1 h, q => .cons h1 (h.set i q)
theorem DenL.take : ∀ {vs : List V} {ds : List D} (n : Nat), DenL K cl G vs ds → DenL K cl G (vs.take n) (ds.take n)
  | _, _, 0, _ => by simp; exact .nil
  | _, _, _ + 1, .nil => .nil
  | _, _, n + 1, .cons h1 h => .cons h1 (h.take n)
theorem DenL.drop : ∀ {vs : List V} {ds : List D} (n : Nat), DenL K cl G vs ds → DenL K cl G (vs.drop n) (ds.drop n)
  | _, _, 0, h => h
  | _, _, _ + 1, .nil => .nil
  | _, _, n + 1, .cons _ h => h.drop n
theorem DenL.rev {vs : List V} {ds : List D} (h : DenL K cl G vs ds) : DenL K cl G vs.reverse ds.reverse := by
  induction vs generalizing ds with
  | nil => cases h; exact .nil
  | cons v vs ih =>
    cases h with
    | cons h1 h2 => rw [List.reverse_cons, List.reverse_cons]; exact (ih h2).app (.one h1)
theorem DenL.erase : ∀ {vs : List V} {ds : List D} (n : Nat), DenL K cl G vs ds → DenL K cl G (vs.eraseIdx n) (ds.eraseIdx n)
  | _, _, _, .nil => .nil
  | _, _, 0, .cons _ h => h
  | _, _, n + 1, .cons h1 h => .cons h1 (h.erase n)
theorem DenL.dropLast {vs : List V} {ds : List D} (h : DenL K cl G vs ds) : DenL K cl G vs.dropLast ds.dropLast := by
  rw [List.dropLast_eq_take, List.dropLast_eq_take, h.len]
  exact h.take _
theorem DenL.rep {vs : List V} {ds : List D} (h : DenL K cl G vs ds) : ∀ n : Nat, DenL K cl G (List.replicate n vs).flatten (List.replicate n ds).flatten
  | 0 => .nil
  | n + 1 => by rw [List.replicate_succ, List.replicate_succ, List.flatten_cons, List.flatten_cons]; exact h.app (h.rep n)
theorem DenL.ints : ∀ ns : List Int, DenL K cl G (ns.map V.int) (ns.map D.int)
  | [] => .nil
  | n :: ns => .cons (.int n) (DenL.ints ns)
theorem DenL.of_ints : ∀ {ns : List Int} {vs : List V}, DenL K cl G vs (ns.map D.int) → vs = ns.map V.int
  | [], _, .nil => rfl
  | _ :: ns, _, .cons (.int _) h => by rw [List.map_cons, DenL.of_ints (ns := ns) h]
theorem DenL.of_bls : ∀ {ns : List Bool} {vs : List V}, DenL K cl G vs (ns.map D.bl) → vs = ns.map V.bl
  | [], _, .nil => rfl
  | _ :: ns, _, .cons (.bl _) h => by rw [List.map_cons, DenL.of_bls (ns := ns) h]
theorem DenL.of_strs : ∀ {ns : List Str} {vs : List V}, DenL K cl G vs (ns.map D.str) → vs = ns.map V.str
  | [], _, .nil => rfl
  | _ :: ns, _, .cons (.str _) h => by rw [List.map_cons, DenL.of_strs (ns := ns) h]
theorem DenL.strs : ∀ ns : List Str, DenL K cl G (ns.map V.str) (ns.map D.str)
  | [] => .nil
  | n :: ns => .cons (.str n) (DenL.strs ns)
theorem DenF.look : ∀ {vs : List (Str × V)} {fs : List (Nat × D)} {f : Nat} {d : D}, f < 32 → DenF K cl G vs fs → fs.lookup f = some d → ∃ v, vs.lookup (fnm f) = some v ∧ Den K cl G v d
  | _, _, _, _, _, .nil, e => by simp at e
  | _, _, f, d, hf, .cons (f := g) (v := v) h0 h1 h2, e => by
    by_cases q : f = g
    · subst q
      simp [List.lookup] at e
      subst e
      exact ⟨v, by simp [List.lookup], h1⟩
    · have q' : (f == g) = false := by simpa using q
      have q2 : (fnm f == fnm g) = false := by simpa using fun z => q (fnm_inj f hf g h0 z)
      simp [List.lookup, q'] at e
      obtain ⟨v', e1, e2⟩ := h2.look hf e
      exact ⟨v', by simp [List.lookup, q2, e1], e2⟩
/-- a name that is no field's -/
theorem DenF.look0 {m : Str} (hm : ∀ k < 32, fnm k ≠ m) : ∀ {vs : List (Str × V)} {fs : List (Nat × D)}, DenF K cl G vs fs → vs.lookup m = none
  | _, _, .nil => rfl
  | _, _, .cons (f := g) (v := v) (vs := vs) (ds := ds) h0 h1 h2 => by
    have q' : (m == fnm g) = false := by simpa using Ne.symm (hm g h0)
    rw [List.lookup, q']
    exact h2.look0 hm
def fput (f : Nat) (d : D) : List (Nat × D) → List (Nat × D)
  | [] => [(f, d)]
  | (g, e) :: r => if g = f then (g, d) :: r else (g, e) :: fput f d r
theorem DenF.put {f : Nat} (hf : f < 32) {v : V} {d : D} (h : Den K cl G v d) : ∀ {vs : List (Str × V)} {fs : List (Nat × D)}, DenF K cl G vs fs → DenF K cl G (putF (fnm f) v vs) (fput f d fs)
  | _, _, .nil => .cons hf h .nil
  | _, _, .cons (f := g) (v := u) (vs := vs) (ds := ds) (d := e) h0 h1 h2 => by
    show DenF K cl G (if fnm g = fnm f then (fnm g, v) :: vs else (fnm g, u) :: putF (fnm f) v vs) (if g = f then (g, d) :: ds else (g, e) :: fput f d ds)
    by_cases q : g = f
    · rw [if_pos q, if_pos (congrArg fnm q)]
      exact .cons h0 h h2
    · rw [if_neg q, if_neg fun z => q (fnm_inj g h0 f hf z)]
      exact .cons h0 h1 (h2.put hf h)
theorem lookup_fput (f g : Nat) (d : D) : ∀ fs : List (Nat × D), (fput f d fs).lookup g = if g = f then some d else fs.lookup g
  | [] => by
    unfold fput
    by_cases q : g = f
    · subst q; simp [List.lookup]
    · have q' : (g == f) = false := by simpa using q
      simp [List.lookup, q', q]
  | (k, e) :: r => by
    unfold fput
    by_cases q : k = f
    · subst q
      rw [if_pos rfl]
      by_cases z : g = k
      · subst z; simp [List.lookup]
      · have z' : (g == k) = false := by simpa using z
        simp [List.lookup, z', z]
    · rw [if_neg q]
      by_cases z : g = k
      · subst z
        simp [List.lookup, q]
      · have z' : (g == k) = false := by simpa using z
        simp only [List.lookup, z']
        exact lookup_fput f g d r
theorem DenF.len : ∀ {vs : List (Str × V)} {ds : List (Nat × D)}, DenF K cl G vs ds → vs.length = ds.length
  | _, _, .nil => rfl
  | _, _, .cons _ _ h => congrArg (· + 1) h.len
end

/-! ### trees as data: == -/
mutual
def D.pd : D → Option PyData
  | .non => some .none
  | .bl b => some (.bool b)
  | .int i => some (.int i)
  | .str x => some (.str x)
  | .lst ds => (D.pds ds).map .list
  | .tup ds => (D.pds ds).map .tuple
  | .dic _ _ => none
  | .obj _ _ => none
  | .ref _ => none
def D.pds : List D → Option (List PyData)
  | [] => some []
  | d :: ds => match D.pd d, D.pds ds with
    | some x, some xs => some (x :: xs)
    | _, _ => none
end
theorem pds_cons {d : D} {ds : List D} {ps : List PyData} (h : D.pds (d :: ds) = some ps) : ∃ x xs, ps = x :: xs ∧ D.pd d = some x ∧ D.pds ds = some xs := by
  rw [D.pds] at h
  split at h
  · rename_i x xs e1 e2
    exact ⟨x, xs, (Option.some.inj h).symm, e1, e2⟩
  · cases h
section
variable {K : PySem.W.Frag} {cl : Cl} {G : Gh}
mutual
theorem Den.dp : ∀ (d : D) (v : V) (p : PyData), Den K cl G v d → d.pd = some p → Dp K G.fz v p
  | .non, _, _, .non, e => by simp [D.pd] at e; subst e; exact .non
  | .bl _, _, _, .bl b, e => by simp [D.pd] at e; subst e; exact .bl b
  | .int _, _, _, .int b, e => by simp [D.pd] at e; subst e; exact .int b
  | .str _, _, _, .str b, e => by simp [D.pd] at e; subst e; exact .str b
  | .lst ds, _, p, .lst h1 h2, e => by
    cases q : D.pds ds with
    | none => simp [D.pd, q] at e
    | some ps => simp [D.pd, q] at e; subst e; exact .lst h1 (DenL.dp ds _ ps h2 q)
  | .tup ds, _, p, .tup h1 h2, e => by
    cases q : D.pds ds with
    | none => simp [D.pd, q] at e
    | some ps => simp [D.pd, q] at e; subst e; exact .tup h1 (DenL.dp ds _ ps h2 q)
  | .dic _ _, _, _, _, e => by simp [D.pd] at e
  | .obj _ _, _, _, _, e => by simp [D.pd] at e
  | .ref _, _, _, _, e => by simp [D.pd] at e
theorem DenL.dp : ∀ (ds : List D) (vs : List V) (ps : List PyData), DenL K cl G vs ds → D.pds ds = some ps → DpAll K G.fz vs ps
  | [], _, _, .nil, e => by simp [D.pds] at e; subst e; exact .nil
  | d :: ds, _, _, .cons h1 h2, e => by
    obtain ⟨x, xs, rfl, e1, e2⟩ := pds_cons e
    exact .cons (Den.dp d _ x h1 e1) (DenL.dp ds _ xs h2 e2)
end
end


section
variable {K : PySem.W.Frag} {cl : Cl} {G G' : Gh}
/-! ### dicts -/
def dlook (k : NestedKey) : List (NestedKey × D) → Option D
  | [] => none
  | (j, d) :: r => if j = k then some d else dlook k r
def dmap (k : NestedKey) (d : D) : List (NestedKey × D) → List (NestedKey × D)
  | [] => []
  | (j, e) :: r => (if j = k then (j, d) else (j, e)) :: dmap k d r
def dput (k : NestedKey) (d : D) (ds : List (NestedKey × D)) : List (NestedKey × D) := if (dlook k ds).isSome = true then dmap k d ds else ds ++ [(k, d)]
theorem dlook_dmap {k j : NestedKey} {d : D} : ∀ ds : List (NestedKey × D), dlook j (dmap k d ds) = (dlook j ds).map fun e => if j = k then d else e
  | [] => rfl
  | (i, e) :: r => by
    rw [dmap]
    by_cases h : i = k
    · rw [if_pos h, dlook, dlook]
      by_cases q : i = j
      · rw [if_pos q, if_pos q, Option.map_some, if_pos (q.symm.trans h)]
      · rw [if_neg q, if_neg q, dlook_dmap r]
    · rw [if_neg h, dlook, dlook]
      by_cases q : i = j
      · rw [if_pos q, if_pos q, Option.map_some, if_neg (fun z => h (q.trans z))]
      · rw [if_neg q, if_neg q, dlook_dmap r]
theorem dlook_app {k j : NestedKey} {d : D} : ∀ ds : List (NestedKey × D), dlook k ds = none → dlook j (ds ++ [(k, d)]) = if j = k then some d else dlook j ds
  | [], _ => by
    rw [List.nil_append]
    by_cases q : k = j
    · simp [dlook, q]
    · have q' : ¬ j = k := fun z => q z.symm
      simp [dlook, q, q']
  | (i, e) :: r, h => by
    rw [dlook] at h
    split at h
    · cases h
    · rename_i hk
      rw [List.cons_append, dlook, dlook]
      by_cases q : i = j
      · rw [if_pos q, if_pos q, if_neg (fun z => hk (q.trans z))]
      · rw [if_neg q, if_neg q, dlook_app r h]
theorem dlook_dput {k j : NestedKey} {d : D} {ds : List (NestedKey × D)} : dlook j (dput k d ds) = if j = k then some d else dlook j ds := by
  unfold dput
  split
  · rename_i h
    rw [dlook_dmap]
    by_cases q : j = k
    · subst q
      obtain ⟨e, he⟩ := Option.isSome_iff_exists.mp h
      rw [he, if_pos rfl]; simp
    · rw [if_neg q]
      simp only [if_neg q]
      cases dlook j ds <;> rfl
  · rename_i h
    exact dlook_app ds (by cases q : dlook k ds with | none => rfl | some e => rw [q] at h; exact (h rfl).elim)
theorem dmap_len {k : NestedKey} {d : D} : ∀ ds : List (NestedKey × D), (dmap k d ds).length = ds.length
  | [] => rfl
  | (_, _) :: r => by rw [dmap, List.length_cons, List.length_cons, dmap_len r]
theorem DenK.len : ∀ {vs : List (Key × V)} {ds : List (NestedKey × D)}, DenK K cl G vs ds → vs.length = ds.length
  | _, _, .nil => rfl
  | _, _, .cons _ h => congrArg (· + 1) h.len
theorem DenT.len : ∀ {vs : List (NestedKey × Addr × Value)} {ds : List (NestedKey × D)}, DenT K cl G vs ds → vs.length = ds.length
  | _, _, .nil => rfl
  | _, _, .cons _ _ _ h => congrArg (· + 1) h.len
theorem DenT.keys : ∀ {vs : List (NestedKey × Addr × Value)} {ds : List (NestedKey × D)}, DenT K cl G vs ds → vs.map (·.1) = ds.map (·.1)
  | _, _, .nil => rfl
  | _, _, .cons _ _ _ h => by rw [List.map_cons, List.map_cons, h.keys]
end

/-! ### what may change -/
/-- what stands at a is the content c -/
def CtOk (K : PySem.W.Frag) (cl : Cl) (G : Gh) (a : Addr) : HO → D → Prop
  | .lst vs, .lst ds => DenL K cl G vs ds
  | .ext φ, .dic false ds => ∃ ep vs, φ = DicK cl.P cl.w a ep vs ∧ DenK K cl G vs ds
  | .ext φ, .dic true ds => ∃ ep xs, φ = DicT cl.P cl.w a ep xs ∧ DenT K cl G xs ds
  | _, _ => False
/-- box: a list or dict; ins: an instance; tab: the table of code objects of the def that makes defs, whose objects bear the name q -/
inductive Nd where
  | box (c : D) | ins (c : Nat) (fs : List (Nat × D)) | tab (q : Str) | tp (ds : List D)
abbrev Mu := List Nd
def TabG (G : Gh) (ps : Array Value) (q : Str) : Prop := TriplesOk ps.toList ∧ ∀ (ps1 : Pos) (cv : Value), codeAmong ps1 ps.toList = some cv → ∃ c, cv = .ref c ∧ G.fz c = some (LamX.CodeO c q)
def NdOk (K : PySem.W.Frag) (cl : Cl) (G : Gh) (a : Addr) : HO → Nd → Prop
  | o, .box c => CtOk K cl G a o c
  | .ins C _ vs, .ins c fs => cl c = some C ∧ DenF K cl G vs fs
  | .tbl ps, .tab q => a = cl.tP ∧ TabG G ps q
  | .frz ob u, .tp ds => ob.dict = none ∧ ∃ vs, u = .tup vs ∧ DenL K cl G vs ds
  | _, _ => False
section
variable {K : PySem.W.Frag} {cl : Cl} {G G' : Gh}
theorem CtOk.mono (e : GLe G G') {a : Addr} {o : HO} {c : D} (h : CtOk K cl G a o c) : CtOk K cl G' a o c := by
  cases c with
  | lst ds => cases o <;> first | exact DenL.mono e _ _ h | exact h.elim
  | dic t ds =>
    cases t with
    | false =>
      cases o with
      | ext φ => obtain ⟨ep, xs, h1, h2⟩ := h; exact ⟨ep, xs, h1, DenK.mono e _ _ h2⟩
      | _ => exact h.elim
    | true =>
      cases o with
      | ext φ => obtain ⟨ep, xs, h1, h2⟩ := h; exact ⟨ep, xs, h1, DenT.mono e _ _ h2⟩
      | _ => exact h.elim
  | _ => cases o <;> exact h.elim
theorem CtOk.shrink {n : Nat} (e : GSh n G G') {a : Addr} {o : HO} {c : D} (q : below n c = true) (h : CtOk K cl G a o c) : CtOk K cl G' a o c := by
  cases c with
  | lst ds => cases o <;> first | exact DenL.shrink e _ _ (by simpa [below] using q) h | exact h.elim
  | dic t ds =>
    cases t with
    | false =>
      cases o with
      | ext φ => obtain ⟨ep, xs, h1, h2⟩ := h; exact ⟨ep, xs, h1, DenK.shrink e _ _ (by simpa [below] using q) h2⟩
      | _ => exact h.elim
    | true =>
      cases o with
      | ext φ => obtain ⟨ep, xs, h1, h2⟩ := h; exact ⟨ep, xs, h1, DenT.shrink e _ _ (by simpa [below] using q) h2⟩
      | _ => exact h.elim
  | _ => cases o <;> exact h.elim
theorem CtOk.den {a : Addr} {o : HO} {c : D} (h : CtOk K cl G a o c) (e : G.fz a = some o) : Den K cl G (.ref a) c := by
  cases c with
  | lst ds => cases o <;> first | exact .lst (SqL.of e) h | exact h.elim
  | dic t ds =>
    cases t with
    | false =>
      cases o with
      | ext φ => obtain ⟨ep, xs, h1, h2⟩ := h; subst h1; exact .dicK (.inl e) h2
      | _ => exact h.elim
    | true =>
      cases o with
      | ext φ => obtain ⟨ep, xs, h1, h2⟩ := h; subst h1; exact .dicT (.inl e) h2
      | _ => exact h.elim
  | _ => cases o <;> exact h.elim
theorem CtOk.bel {a : Addr} {o : HO} {c : D} (h : CtOk K cl G a o c) : below G.ρ.length c = true := by
  cases c with
  | lst ds => cases o <;> first | (simpa [TL.below] using DenL.bel _ _ h) | exact h.elim
  | dic t ds =>
    cases t with
    | false =>
      cases o with
      | ext φ => obtain ⟨ep, xs, h1, h2⟩ := h; simpa [TL.below] using DenK.bel _ _ h2
      | _ => exact h.elim
    | true =>
      cases o with
      | ext φ => obtain ⟨ep, xs, h1, h2⟩ := h; simpa [TL.below] using DenT.bel _ _ h2
      | _ => exact h.elim
  | _ => cases o <;> exact h.elim
theorem CtOk.nxd {a : Addr} {o : HO} {c : D} (h : CtOk K cl G a o c) : ∀ xs, o ≠ .xd xs := fun xs e => by
  subst e
  cases c with
  | dic t ds => cases t <;> exact h.elim
  | _ => exact h.elim
theorem CtOk.lst {a : Addr} {o : HO} {ds : List D} (h : CtOk K cl G a o (.lst ds)) : ∃ vs, o = .lst vs ∧ DenL K cl G vs ds := by
  cases o <;> first | exact ⟨_, rfl, h⟩ | exact h.elim
theorem CtOk.dicK {a : Addr} {o : HO} {ds : List (NestedKey × D)} (h : CtOk K cl G a o (.dic false ds)) : ∃ ep vs, o = .ext (DicK cl.P cl.w a ep vs) ∧ DenK K cl G vs ds := by
  cases o with
  | ext φ => obtain ⟨ep, xs, h1, h2⟩ := h; subst h1; exact ⟨_, _, rfl, h2⟩
  | _ => exact h.elim
theorem CtOk.dicT {a : Addr} {o : HO} {ds : List (NestedKey × D)} (h : CtOk K cl G a o (.dic true ds)) : ∃ ep xs, o = .ext (DicT cl.P cl.w a ep xs) ∧ DenT K cl G xs ds := by
  cases o with
  | ext φ => obtain ⟨ep, xs, h1, h2⟩ := h; subst h1; exact ⟨_, _, rfl, h2⟩
  | _ => exact h.elim
theorem NdOk.mono (e : GLe G G') {a : Addr} {o : HO} {n : Nd} (h : NdOk K cl G a o n) : NdOk K cl G' a o n := by
  cases n with
  | box c => exact CtOk.mono e h
  | ins c fs =>
    cases o <;> first | exact ⟨h.1, DenF.mono e _ _ h.2⟩ | exact h.elim
  | tab q =>
    cases o <;> first | exact h.elim | skip
    obtain ⟨h1, h2, h3⟩ := h
    exact ⟨h1, h2, fun ps1 cv hc => let ⟨c, e1, e2⟩ := h3 ps1 cv hc; ⟨c, e1, e.fz _ _ e2⟩⟩
  | tp ds =>
    cases o <;> first | exact h.elim | skip
    obtain ⟨h1, vs, h2, h3⟩ := h
    exact ⟨h1, vs, h2, DenL.mono e _ _ h3⟩
end

def belowN (n : Nat) : Nd → Bool
  | .box c => below n c
  | .ins _ fs => belowF n fs
  | .tab _ => true
  | .tp ds => belowL n ds
theorem NdOk.bel {K : PySem.W.Frag} {cl : Cl} {G : Gh} {a : Addr} {o : HO} {m : Nd} (h : NdOk K cl G a o m) : belowN G.ρ.length m = true := by
  cases m with
  | box c => exact CtOk.bel h
  | ins c fs => cases o <;> first | exact DenF.bel _ _ h.2 | exact h.elim
  | tab q => rfl
  | tp ds =>
    cases o <;> first | exact h.elim | skip
    obtain ⟨h1, vs, h2, h3⟩ := h
    exact DenL.bel _ _ h3
theorem NdOk.shrink {K : PySem.W.Frag} {cl : Cl} {G G' : Gh} {n : Nat} (e : GSh n G G') {a : Addr} {o : HO} {m : Nd} (q : belowN n m = true) (h : NdOk K cl G a o m) : NdOk K cl G' a o m := by
  cases m with
  | box c => exact CtOk.shrink e q h
  | ins c fs => cases o <;> first | exact ⟨h.1, DenF.shrink e _ _ q h.2⟩ | exact h.elim
  | tab q' =>
    cases o <;> first | exact h.elim | skip
    obtain ⟨h1, h2, h3⟩ := h
    exact ⟨h1, h2, fun ps1 cv hc => let ⟨c, e1, e2⟩ := h3 ps1 cv hc; ⟨c, e1, e.fz _ _ e2⟩⟩
  | tp ds =>
    cases o <;> first | exact h.elim | skip
    obtain ⟨h1, vs, h2, h3⟩ := h
    exact ⟨h1, vs, h2, DenL.shrink e _ _ q h3⟩

structure Rep (K : PySem.W.Frag) (cl : Cl) (G : Gh) (H : Hp) (μ : Mu) : Prop where
  sub : Same G.fz H
  len : G.ρ.length = μ.length
  nd : G.ρ.Nodup
  node : ∀ (n : Nat) (a : Addr), G.ρ[n]? = some a → G.fz a = none ∧ ∃ (m : Nd) (o : HO), μ[n]? = some m ∧ H a = some o ∧ NdOk K cl G a o m

/-- from one state to a later one -/
structure Ext (K : PySem.W.Frag) (cl : Cl) (G0 : Gh) (H0 : Hp) (μ0 : Mu) (G : Gh) (H : Hp) (μ : Mu) : Prop where
  g : GLe G0 G
  rep : Rep K cl G H μ
  dom : ∀ a, H a = none → H0 a = none
  fr : ∀ a o, H0 a = some o → G0.fz a = none → a ∉ G0.ρ → H a = some o ∧ G.fz a = none ∧ a ∉ G.ρ
section
variable {K : PySem.W.Frag} {cl : Cl} {G0 G G1 G2 : Gh} {H0 H H1 H2 : Hp} {μ0 μ μ1 μ2 : Mu}
theorem Ext.refl (r : Rep K cl G H μ) : Ext K cl G H μ G H μ := ⟨GLe.refl _, r, fun _ h => h, fun _ _ h g m => ⟨h, g, m⟩⟩
theorem Ext.trans (a : Ext K cl G0 H0 μ0 G1 H1 μ1) (b : Ext K cl G1 H1 μ1 G2 H2 μ2) : Ext K cl G0 H0 μ0 G2 H2 μ2 :=
  ⟨a.g.trans b.g, b.rep, fun x h => a.dom x (b.dom x h), fun x o h g m => let ⟨h1, g1, m1⟩ := a.fr x o h g m; b.fr x o h1 g1 m1⟩
theorem some_of_ne {H : Hp} {a : Addr} (h : ¬ H a = none) : ∃ o, H a = some o := by
  cases e : H a with
  | none => exact (h e).elim
  | some o => exact ⟨o, rfl⟩
theorem Rep.gle (r : Rep K cl G H μ) : GLe G ⟨H, G.ρ⟩ := ⟨r.sub, List.prefix_refl _⟩
theorem Rep.nodeM (r : Rep K cl G H μ) {a : Addr} (h : a ∈ G.ρ) : ∃ (n : Nat) (m : Nd) (o : HO), G.ρ[n]? = some a ∧ G.fz a = none ∧ μ[n]? = some m ∧ H a = some o ∧ NdOk K cl G a o m := by
  obtain ⟨n, hn⟩ := List.mem_iff_getElem?.mp h
  obtain ⟨h1, m, o, h2, h3, h4⟩ := r.node n a hn
  exact ⟨n, m, o, hn, h1, h2, h3, h4⟩
theorem Rep.ins (r : Rep K cl G H μ) {n : Nat} {a : Addr} {c : Nat} {fs : List (Nat × D)} (hn : G.ρ[n]? = some a) (hm : μ[n]? = some (.ins c fs)) : ∃ C dx vs, cl c = some C ∧ H a = some (.ins C dx vs) ∧ DenF K cl G vs fs := by
  obtain ⟨_, m, o, q, ho, ok⟩ := r.node n a hn
  rw [hm] at q
  cases q
  cases o <;> try exact ok.elim
  exact ⟨_, _, _, ok.1, ho, ok.2⟩
theorem Rep.box (r : Rep K cl G H μ) {n : Nat} {a : Addr} {c : D} (hn : G.ρ[n]? = some a) (hm : μ[n]? = some (.box c)) : ∃ o, H a = some o ∧ CtOk K cl G a o c := by
  obtain ⟨_, m, o, q, ho, ok⟩ := r.node n a hn
  rw [hm] at q
  cases q
  exact ⟨o, ho, ok⟩
theorem Rep.free (r : Rep K cl G H μ) {p : Addr} (h : H p = none) : G.fz p = none ∧ p ∉ G.ρ := by
  refine ⟨r.sub.free h, fun hp => ?_⟩
  obtain ⟨n, m, o, _, _, _, q, _⟩ := r.nodeM hp
  rw [h] at q; cases q
theorem Same.updR {G : Hp} {p : Addr} {o : HO} (h : G p = none) : Same G (upd G p o) := fun b u e => by
  rw [upd_ne (ne_of_none e h)]; exact e
theorem gle_put {p : Addr} {o : HO} (h : G.fz p = none) : GLe G (gput G p o) := ⟨Same.updR h, List.prefix_refl _⟩
theorem gle_new {p : Addr} : GLe G (gnew G p) := ⟨Same.refl _, List.prefix_append _ _⟩
/-- a new thing that nobody changes -/
theorem Ext.frozen (r : Rep K cl G H μ) {p : Addr} {o : HO} (h : H p = none) : Ext K cl G H μ (gput G p o) (upd H p o) μ := by
  obtain ⟨hg, hm⟩ := r.free h
  have s1 := gle_put (o := o) hg
  refine ⟨s1, ⟨fun b u e => ?_, r.len, r.nd, fun n a e => ?_⟩, fun a q => ?_, fun a u q g m => ?_⟩
  · by_cases hb : b = p
    · subst hb; rw [upd_same]; change upd G.fz b o b = some u at e; rw [upd_same] at e; exact e
    · rw [upd_ne hb]; change upd G.fz p o b = some u at e; rw [upd_ne hb] at e; exact r.sub b u e
  · have e : G.ρ[n]? = some a := e
    have hb : a ≠ p := fun z => hm (z ▸ List.mem_of_getElem? e)
    obtain ⟨ga, m, u, q1, q2, ok⟩ := r.node n a e
    exact ⟨by show upd G.fz p o a = none; rw [upd_ne hb]; exact ga, m, u, q1, by rw [upd_ne hb]; exact q2, ok.mono s1⟩
  · by_cases hb : a = p
    · subst hb; exact h
    · rw [upd_ne hb] at q; exact q
  · have hb : a ≠ p := ne_of_none q h
    exact ⟨by rw [upd_ne hb]; exact q, by show upd G.fz p o a = none; rw [upd_ne hb]; exact g, m⟩
/-- a new thing, not yet told of -/
theorem Ext.loose (r : Rep K cl G H μ) {p : Addr} {o : HO} (h : H p = none) : Ext K cl G H μ G (upd H p o) μ := by
  obtain ⟨hg, hm⟩ := r.free h
  refine ⟨GLe.refl _, ⟨fun b u e => ?_, r.len, r.nd, fun n a e => ?_⟩, fun a q => ?_, fun a u q g m => ?_⟩
  · have hb : b ≠ p := ne_of_none e hg
    rw [upd_ne hb]; exact r.sub b u e
  · have hb : a ≠ p := fun z => hm (z ▸ List.mem_of_getElem? e)
    obtain ⟨ga, m, u, q1, q2, ok⟩ := r.node n a e
    exact ⟨ga, m, u, q1, by rw [upd_ne hb]; exact q2, ok⟩
  · by_cases hb : a = p
    · subst hb; exact h
    · rw [upd_ne hb] at q; exact q
  · have hb : a ≠ p := ne_of_none q h
    exact ⟨by rw [upd_ne hb]; exact q, g, m⟩
/-- a thing of ours (not told of) is told as one that nobody changes -/
theorem Ext.freeze (r : Rep K cl G H μ) {p : Addr} {o : HO} (h : H p = some o) (hg : G.fz p = none) (hm : p ∉ G.ρ) : GLe G (gput G p o) ∧ Rep K cl (gput G p o) H μ := by
  have s1 := gle_put (o := o) hg
  refine ⟨s1, ⟨fun b u e => ?_, r.len, r.nd, fun n a e => ?_⟩⟩
  · change upd G.fz p o b = some u at e
    by_cases hb : b = p
    · subst hb; rw [upd_same] at e; cases e; exact h
    · rw [upd_ne hb] at e; exact r.sub b u e
  · have e : G.ρ[n]? = some a := e
    have hb : a ≠ p := fun z => hm (z ▸ List.mem_of_getElem? e)
    obtain ⟨ga, m, u, q1, q2, ok⟩ := r.node n a e
    exact ⟨by show upd G.fz p o a = none; rw [upd_ne hb]; exact ga, m, u, q1, q2, ok.mono s1⟩
/-- .. where it was new behind the start -/
theorem Ext.freezeX (x : Ext K cl G0 H0 μ0 G H μ) {p : Addr} {o : HO} (h0 : H0 p = none) (h : H p = some o) (hg : G.fz p = none) (hm : p ∉ G.ρ) : Ext K cl G0 H0 μ0 (gput G p o) H μ := by
  obtain ⟨s1, r⟩ := Ext.freeze x.rep h hg hm
  refine ⟨x.g.trans s1, r, x.dom, fun a u q g m => ?_⟩
  obtain ⟨e1, e2, e3⟩ := x.fr a u q g m
  have hb : a ≠ p := ne_of_none q h0
  exact ⟨e1, by show upd G.fz p o a = none; rw [upd_ne hb]; exact e2, e3⟩
/-- a thing of ours (not told of) is changed -/
theorem Ext.write (x : Ext K cl G0 H0 μ0 G H μ) {p : Addr} {o o' : HO} (h0 : H0 p = none) (h : H p = some o) (hg : G.fz p = none) (hm : p ∉ G.ρ) : Ext K cl G0 H0 μ0 G (upd H p o') μ := by
  refine ⟨x.g, ⟨fun b u e => ?_, x.rep.len, x.rep.nd, fun n a e => ?_⟩, fun a q => ?_, fun a u q g m => ?_⟩
  · have hb : b ≠ p := ne_of_none e hg
    rw [upd_ne hb]; exact x.rep.sub b u e
  · have hb : a ≠ p := fun z => hm (z ▸ List.mem_of_getElem? e)
    obtain ⟨ga, m, u, q1, q2, ok⟩ := x.rep.node n a e
    exact ⟨ga, m, u, q1, by rw [upd_ne hb]; exact q2, ok⟩
  · by_cases hb : a = p
    · subst hb; exact h0
    · rw [upd_ne hb] at q; exact x.dom a q
  · obtain ⟨e1, e2, e3⟩ := x.fr a u q g m
    have hb : a ≠ p := ne_of_none q h0
    exact ⟨by rw [upd_ne hb]; exact e1, e2, e3⟩
end
end TL
/-! TL: the judgements on trees -/
namespace TL
open PySem PySem.Spec L2

inductive SV where
  | fz (d : D) | own (c : D) | exc (c : Nat) (fs : List (Nat × D)) | fn (caps : List D)
abbrev SD := List (Option SV)
/-- what an expression gives: a tree, the list or dict that slot i owns, a new one -/
inductive R where
  | d (x : D) | at (i : Nat) | new (c : D)
abbrev XT := Nat → List (Nat × D) → Mu → Prop
abbrev WE := SD → Mu → XT → (R → Mu → Prop) → Prop
abbrev WT := SD → Mu → XT → (Bool → Mu → Prop) → Prop
abbrev WA := SD → Mu → XT → (List D → Mu → Prop) → Prop
structure TEn where
  nx : SD → Mu → Prop
  rt : R → Mu → Prop
  bk : SD → Mu → Prop
  ct : SD → Mu → Prop
  ex : Nat → List (Nat × D) → SD → Mu → Prop
abbrev WS := TEn → SD → Mu → Prop
/-- the classes, what is wished of an exception, the exception that a suite holds -/
structure Wd where
  cl : Cl
  W : WX
  hnd : Option (Addr × Value × Option Addr)
  fp : List D → V → Gh → Prop
/-- no slot holds a def made here -/
def fp0 : List D → V → Gh → Prop := fun _ _ _ => False

def XdOk (K : PySem.W.Frag) (cl : Cl) (G : Gh) (H : Hp) (μ : Mu) (d : Option Addr) (fs : List (Nat × D)) : Prop :=
  (fs = [] ∧ d = none) ∨ ∃ dd vs, d = some dd ∧ H dd = some (.xd vs) ∧ DenF K cl G vs fs ∧ G.fz dd = none ∧ dd ∉ G.ρ
def SlotOk (K : PySem.W.Frag) (wd : Wd) (H0 : Hp) (G : Gh) (H : Hp) (μ : Mu) (v : V) : SV → Prop
  | .fz d => Den K wd.cl G v d
  | .own c => ∃ p o, v = .ref p ∧ H p = some o ∧ CtOk K wd.cl G p o c ∧ G.fz p = none ∧ p ∉ G.ρ ∧ H0 p = none
  | .exc c fs => ∃ a C d, wd.hnd = some (a, .ref C, d) ∧ v = .ref a ∧ wd.cl c = some C ∧ XdOk K wd.cl G H μ d fs
  | .fn caps => ∀ G1, GLe G G1 → wd.fp caps v G1
structure Slots (K : PySem.W.Frag) (wd : Wd) (H0 : Hp) (G : Gh) (H : Hp) (μ : Mu) (σ : St) (sd : SD) : Prop where
  len : sd.length = σ.length
  at_ : ∀ (i : Nat) (s : SV), sd[i]? = some (some s) → ∃ v, σ[i]? = some (some v) ∧ SlotOk K wd H0 G H μ v s
  sep : ∀ (i j : Nat) (v : V) (ds es : D), i ≠ j → sd[i]? = some (some (.own ds)) → sd[j]? = some (some (.own es)) → σ[i]? = some (some v) → σ[j]? ≠ some (some v)

section
variable {K : PySem.W.Frag} {wd : Wd} {cl : Cl} {G G1 G2 : Gh} {H0 H H1 H2 : Hp} {μ μ1 μ2 : Mu} {σ : St} {sd : SD}
theorem XdOk.step {d : Option Addr} {fs : List (Nat × D)} (h : XdOk K cl G H μ d fs) (e : Ext K cl G H μ G1 H1 μ1) : XdOk K cl G1 H1 μ1 d fs := by
  rcases h with h | ⟨dd, vs, h1, h2, h3, h4, h5⟩
  · exact .inl h
  · obtain ⟨q1, q2, q3⟩ := e.fr dd _ h2 h4 h5
    exact .inr ⟨dd, vs, h1, q1, DenF.mono e.g _ _ h3, q2, q3⟩
theorem SlotOk.step {v : V} {s : SV} (h : SlotOk K wd H0 G H μ v s) (e : Ext K wd.cl G H μ G1 H1 μ1) : SlotOk K wd H0 G1 H1 μ1 v s := by
  cases s with
  | fz d => exact Den.mono e.g _ _ h
  | own ds =>
    obtain ⟨p, vs, h1, h2, h3, h4, h5, h6⟩ := h
    obtain ⟨q1, q2, q3⟩ := e.fr p _ h2 h4 h5
    exact ⟨p, vs, h1, q1, h3.mono e.g, q2, q3, h6⟩
  | exc c fs =>
    obtain ⟨a, C, d, h1, h2, h3, h4⟩ := h
    exact ⟨a, C, d, h1, h2, h3, h4.step e⟩
  | fn caps => exact fun G2 g2 => h G2 (e.g.trans g2)
theorem Slots.step (h : Slots K wd H0 G H μ σ sd) (e : Ext K wd.cl G H μ G1 H1 μ1) : Slots K wd H0 G1 H1 μ1 σ sd :=
  ⟨h.len, fun i s q => let ⟨v, h1, h2⟩ := h.at_ i s q; ⟨v, h1, h2.step e⟩, h.sep⟩

/-- what an expression's value is, in a state behind Hs -/
def RelR (K : PySem.W.Frag) (cl : Cl) (Hs : Hp) (G : Gh) (H : Hp) (μ : Mu) (σ : St) (sd : SD) (v : V) : R → Prop
  | .d x => Den K cl G v x
  | .at i => (∃ ds, sd[i]? = some (some (.own ds))) ∧ σ[i]? = some (some v)
  | .new c => ∃ p o, v = .ref p ∧ Hs p = none ∧ H p = some o ∧ CtOk K cl G p o c ∧ G.fz p = none ∧ p ∉ G.ρ
/-- .. where it is no slot's own -/
def RelN (K : PySem.W.Frag) (cl : Cl) (Hs : Hp) (G : Gh) (H : Hp) (μ : Mu) (v : V) : R → Prop
  | .d x => Den K cl G v x
  | .at _ => False
  | .new c => ∃ p o, v = .ref p ∧ Hs p = none ∧ H p = some o ∧ CtOk K cl G p o c ∧ G.fz p = none ∧ p ∉ G.ρ
theorem RelN.rel {Hs : Hp} {v : V} {r : R} (h : RelN K cl Hs G H μ v r) : RelR K cl Hs G H μ σ sd v r := by
  cases r with
  | d x => exact h
  | «at» i => exact h.elim
  | new ds => exact h
theorem RelN.back {Hs Hs' : Hp} {v : V} {r : R} (h : RelN K cl Hs G H μ v r) (q : ∀ a, Hs a = none → Hs' a = none) : RelN K cl Hs' G H μ v r := by
  cases r with
  | d x => exact h
  | «at» i => exact h.elim
  | new ds =>
    obtain ⟨p, vs, h1, h2, h3⟩ := h
    exact ⟨p, vs, h1, q p h2, h3⟩
/-- the tree of a value -/
def vw (μ : Mu) (sd : SD) : R → D
  | .d (.ref a) => match μ[a]? with
    | some (.box c) => c
    | _ => .ref a
  | .d x => x
  | .new c => c
  | .at i => match sd[i]? with
    | some (some (.own c)) => c
    | _ => .non

/-- a value's tree; its own object may be one that changes -/
def Den1 (K : PySem.W.Frag) (cl : Cl) (G : Gh) (H : Hp) (v : V) : D → Prop
  | .lst ds => ∃ a vs, v = .ref a ∧ SqL K H a vs ∧ DenL K cl G vs ds
  | .dic t ds => ∃ a o, v = .ref a ∧ Rd H a o ∧ CtOk K cl G a o (.dic t ds)
  | d => Den K cl G v d
theorem Den.one {v : V} {d : D} (s : Same G.fz H) (h : Den K cl G v d) : Den1 K cl G H v d := by
  cases d <;> first | exact h | skip
  · cases h with
    | lst h1 h2 => exact ⟨_, _, rfl, s.seq h1, h2⟩
  · cases h with
    | dicK h1 h2 => exact ⟨_, _, rfl, rd_same s h1, _, _, rfl, h2⟩
    | dicT h1 h2 => exact ⟨_, _, rfl, rd_same s h1, _, _, rfl, h2⟩
theorem Den1.den {v : V} {d : D} (s : Same G.fz H) (h : Den1 K cl G H v d) : Den K cl ⟨H, G.ρ⟩ v d := by
  have g : GLe G ⟨H, G.ρ⟩ := ⟨s, List.prefix_refl _⟩
  cases d <;> first | exact Den.mono g _ _ h | skip
  · obtain ⟨a, vs, rfl, h1, h2⟩ := h
    exact .lst h1 (DenL.mono g _ _ h2)
  · rename_i t ds
    obtain ⟨a, o, rfl, h1, h2⟩ := h
    have h3 := h2.mono g
    cases t with
    | false => obtain ⟨ep, vs, rfl, h4⟩ := h3.dicK; exact .dicK h1 h4
    | true => obtain ⟨ep, xs, rfl, h4⟩ := h3.dicT; exact .dicT h1 h4
/-- a content at a -/
theorem CtOk.den1 {a : Addr} {o : HO} {c : D} (h : CtOk K cl G a o c) (e : H a = some o) : Den1 K cl G H (.ref a) c := by
  cases c with
  | lst ds => cases o <;> first | exact ⟨_, _, rfl, SqL.of e, h⟩ | exact h.elim
  | dic t ds => exact ⟨_, _, rfl, .inl e, h⟩
  | _ => cases o <;> exact h.elim
theorem own_den {v : V} {c : D} (h : SlotOk K wd H0 G H μ v (.own c)) (e : Ext K wd.cl G H μ G1 H1 μ1) : Den1 K wd.cl G1 H1 v c := by
  obtain ⟨p, vs, rfl, h2, h3, h4, h5, h6⟩ := h
  obtain ⟨q1, q2, q3⟩ := e.fr p _ h2 h4 h5
  exact (h3.mono e.g).den1 q1
theorem vw_ref0 {a : Nat} (q : ∀ c, μ[a]? ≠ some (.box c)) : vw μ sd (.d (.ref a)) = .ref a := by
  show (match μ[a]? with | some (.box c) => c | _ => D.ref a) = _
  cases e : μ[a]? with
  | none => rfl
  | some m =>
    cases m with
    | box c => exact (q c e).elim
    | ins c fs => rfl
    | tab q' => rfl
    | tp ds => rfl
theorem vw_refB {a : Nat} {c : D} (q : μ[a]? = some (.box c)) : vw μ sd (.d (.ref a)) = c := by
  simp only [vw]; rw [q]
/-- a value that is held while other things are reckoned -/
theorem hold (hs : Slots K wd H0 G H μ σ sd) (e : Ext K wd.cl G H μ G1 H1 μ1) {v : V} {r : R} (h : RelR K wd.cl H G1 H1 μ1 σ sd v r) :
    ∃ G1', Ext K wd.cl G H μ G1' H1 μ1 ∧ GLe G1 G1' ∧ ∀ G2 H2 μ2, Ext K wd.cl G1' H1 μ1 G2 H2 μ2 → Den1 K wd.cl G2 H2 v (vw μ2 sd r) := by
  cases r with
  | d x =>
    refine ⟨G1, e, GLe.refl _, fun G2 H2 μ2 e2 => ?_⟩
    have h0 : Den1 K wd.cl G2 H2 v x := Den.one e2.rep.sub (Den.mono e2.g _ _ h)
    cases x <;> try exact h0
    rename_i n
    cases h with
    | @ref a _ hn =>
    have hn2 := e2.g.at hn
    obtain ⟨g2, m, o, q, ho, ok⟩ := e2.rep.node n a hn2
    cases m with
    | ins c fs =>
      rw [vw_ref0 (fun c z => by rw [q] at z; cases z)]
      exact Den.ref hn2
    | tab q' =>
      rw [vw_ref0 (fun c z => by rw [q] at z; cases z)]
      exact Den.ref hn2
    | tp ds' =>
      rw [vw_ref0 (fun c z => by rw [q] at z; cases z)]
      exact Den.ref hn2
    | box c =>
      rw [vw_refB q]
      exact CtOk.den1 ok ho
  | «at» i =>
    obtain ⟨⟨ds, h1⟩, h2⟩ := h
    refine ⟨G1, e, GLe.refl _, fun G2 H2 μ2 e2 => ?_⟩
    obtain ⟨v', q1, q2⟩ := hs.at_ i _ h1
    rw [h2] at q1
    cases q1
    have : vw μ2 sd (.at i) = ds := by simp only [vw]; rw [h1]
    rw [this]
    exact own_den q2 (e.trans e2)
  | new c =>
    obtain ⟨p, o, rfl, h1, h2, h3, h4, h5⟩ := h
    have e1 : Ext K wd.cl G H μ (gput G1 p o) H1 μ1 := e.freezeX h1 h2 h4 h5
    have s1 : GLe G1 (gput G1 p o) := gle_put h4
    exact ⟨_, e1, s1, fun G2 H2 μ2 e2 => CtOk.den1 (h3.mono (s1.trans e2.g)) (e2.rep.sub _ _ (e2.g.fz _ _ upd_same))⟩
/-- .. and becomes a tree that may be kept, where it is no slot's own -/
def R.tree : R → Option D
  | .d x => some x
  | .new c => some c
  | .at _ => none
theorem keep (e : Ext K wd.cl G H μ G1 H1 μ1) {v : V} {r : R} {x : D} (h : RelR K wd.cl H G1 H1 μ1 σ sd v r) (hx : r.tree = some x) :
    ∃ G1', Ext K wd.cl G H μ G1' H1 μ1 ∧ GLe G1 G1' ∧ Den K wd.cl G1' v x := by
  cases r with
  | d y => cases hx; exact ⟨G1, e, GLe.refl _, h⟩
  | «at» i => cases hx
  | new c =>
    cases hx
    obtain ⟨p, o, rfl, h1, h2, h3, h4, h5⟩ := h
    have s1 : GLe G1 (gput G1 p o) := gle_put h4
    exact ⟨_, e.freezeX h1 h2 h4 h5, s1, (h3.mono s1).den upd_same⟩

/-- what is wished where something is raised -/
def XOk (K : PySem.W.Frag) (wd : Wd) (G : Gh) (H : Hp) (μ : Mu) (σ : St) (x : XT) : Prop :=
  ∀ c fs μ', x c fs μ' → ∀ C d G' H', wd.cl c = some C → Ext K wd.cl G H μ G' H' μ' → XdOk K wd.cl G' H' μ' d fs → wd.W (.ref C) d σ H'
theorem XOk.step {x : XT} (h : XOk K wd G H μ σ x) (e : Ext K wd.cl G H μ G1 H1 μ1) : XOk K wd G1 H1 μ1 σ x :=
  fun c fs μ' q C d G' H' hc e' hx => h c fs μ' q C d G' H' hc (e.trans e') hx

/-! ### readings on trees -/
def rdE (K : PySem.W.Frag) (wd : Wd) (w : WE) : TE := fun σ H Q => ∃ G0 H0 μ0 G μ sd x k, Ext K wd.cl G0 H0 μ0 G H μ ∧ Slots K wd H0 G H μ σ sd ∧ w sd μ x k ∧
  (∀ r μ', k r μ' → ∀ v G' H', Ext K wd.cl G H μ G' H' μ' → RelR K wd.cl H G' H' μ' σ sd v r → Q v H') ∧ XOk K wd G H μ σ x
def rdT (K : PySem.W.Frag) (wd : Wd) (w : WT) : TT := fun σ H Q => ∃ G0 H0 μ0 G μ sd x k, Ext K wd.cl G0 H0 μ0 G H μ ∧ Slots K wd H0 G H μ σ sd ∧ w sd μ x k ∧
  (∀ b μ', k b μ' → ∀ G' H', Ext K wd.cl G H μ G' H' μ' → Q b H') ∧ XOk K wd G H μ σ x
def rdA (K : PySem.W.Frag) (wd : Wd) (w : WA) : TA := fun σ H Q => ∃ G0 H0 μ0 G μ sd x k, Ext K wd.cl G0 H0 μ0 G H μ ∧ Slots K wd H0 G H μ σ sd ∧ w sd μ x k ∧
  (∀ ds μ', k ds μ' → ∀ vs G' H', Ext K wd.cl G H μ G' H' μ' → DenL K wd.cl G' vs ds → Q vs H') ∧ XOk K wd G H μ σ x
structure EnOk (K : PySem.W.Frag) (wd : Wd) (G0 : Gh) (H0 : Hp) (μ0 : Mu) (E : TEn) (D : Ends) : Prop where
  nx : ∀ sd μ, E.nx sd μ → ∀ σ G H, Ext K wd.cl G0 H0 μ0 G H μ → Slots K wd H0 G H μ σ sd → D.nx σ H
  bk : ∀ sd μ, E.bk sd μ → ∀ σ G H, Ext K wd.cl G0 H0 μ0 G H μ → Slots K wd H0 G H μ σ sd → D.bk σ H
  ct : ∀ sd μ, E.ct sd μ → ∀ σ G H, Ext K wd.cl G0 H0 μ0 G H μ → Slots K wd H0 G H μ σ sd → D.ct σ H
  rt : ∀ r μ, E.rt r μ → ∀ v G H, Ext K wd.cl G0 H0 μ0 G H μ → RelN K wd.cl H0 G H μ v r → D.rt v H
  ex : ∀ c fs sd μ, E.ex c fs sd μ → ∀ C d σ G H, wd.cl c = some C → Ext K wd.cl G0 H0 μ0 G H μ → Slots K wd H0 G H μ σ sd → XdOk K wd.cl G H μ d fs → wd.W (.ref C) d σ H
def rdS (K : PySem.W.Frag) (wd : Wd) (w : WS) : TS := fun D σ H => ∃ G0 H0 μ0 G μ sd E, Ext K wd.cl G0 H0 μ0 G H μ ∧ Slots K wd H0 G H μ σ sd ∧ w E sd μ ∧ EnOk K wd G0 H0 μ0 E D
/-- a statement's wish of an exception, for one of its expressions -/
def TEn.x (E : TEn) (sd : SD) : XT := fun c fs μ => E.ex c fs sd μ
theorem EnOk.xok {G0 : Gh} {μ0 : Mu} {E : TEn} {D : Ends} (h : EnOk K wd G0 H0 μ0 E D) (e : Ext K wd.cl G0 H0 μ0 G H μ) (hs : Slots K wd H0 G H μ σ sd) : XOk K wd G H μ σ (E.x sd) :=
  fun c fs μ' q C d G' H' hc e' hx => h.ex c fs sd μ' q C d σ G' H' hc (e.trans e') (hs.step e') hx

structure QE (wd : Wd) (X : Cx) (e : Expr) (w : WE) : Prop where
  pe : PE X e (rdE X.K wd w)
structure QT (wd : Wd) (X : Cx) (e : Expr) (w : WT) : Prop where
  pt : PT X e (rdT X.K wd w)
structure QA (wd : Wd) (X : Cx) (es : List Expr) (w : WA) : Prop where
  pa : PA X es (rdA X.K wd w)
structure QS (wd : Wd) (X : Cx) (st : Stmt) (w : WS) : Prop where
  ps : PS X st (rdS X.K wd w)
structure QSs (wd : Wd) (X : Cx) (st : List Stmt) (w : WS) : Prop where
  pss : PSs X st (rdS X.K wd w)
end

section
variable {X : Cx} {wd : Wd} {e a b : Expr} {es : List Expr} {w wa wb : WE} {wt : WT} {pos : Pos}
theorem PE.imp {t t' : TE} (h : PE X e t) (q : ∀ σ H Q, t' σ H Q → t σ H Q) : PE X e t' := ⟨fun pins s σ H Q I r => h.run pins s σ H Q I (q σ H Q r)⟩
theorem PT.imp {t t' : TT} (h : PT X e t) (q : ∀ σ H Q, t' σ H Q → t σ H Q) : PT X e t' := ⟨fun pins s σ H Q I r => h.run pins s σ H Q I (q σ H Q r)⟩
theorem PA.imp {t t' : TA} (h : PA X es t) (q : ∀ σ H Q, t' σ H Q → t σ H Q) : PA X es t' := ⟨fun pos pins s σ H Q I r => h.run pos pins s σ H Q I (q σ H Q r)⟩
theorem PS.imp {st : Stmt} {t t' : TS} (h : PS X st t) (q : ∀ D σ H, t' D σ H → t D σ H) : PS X st t' := ⟨fun pins s σ H D I r => h.run pins s σ H D I (q D σ H r)⟩
theorem PSs.imp {st : List Stmt} {t t' : TS} (h : PSs X st t) (q : ∀ D σ H, t' D σ H → t D σ H) : PSs X st t' := ⟨fun pins s σ H D I r => h.run pins s σ H D I (q D σ H r)⟩

/-! ### constants, names -/
def wC (d : D) : WE := fun _ μ _ k => k (.d d) μ
def wV (i : Nat) : WE := fun sd μ _ k => match sd[i]? with
  | some (some (.fz d)) => k (.d d) μ
  | some (some (.own _)) => k (.at i) μ
  | _ => False
theorem qe_const {d : D} {v : V} (h : PE X e (tC v)) (hd : ∀ G, Den X.K wd.cl G v d) : QE wd X e (wC d) := ⟨PE.imp h fun σ H Q ⟨G0, H0, μ0, G, μ, sd, x, k, hx, hs, hw, hk, _⟩ => hk _ _ hw v G H (.refl hx.rep) (hd _)⟩
theorem qe_int {i : Int} {j : Nat} : QE wd X (.Constant (.int i) j pos) (wC (.int i)) := qe_const pe_int fun _ => .int i
theorem qe_bl {i : Bool} {j : Nat} : QE wd X (.Constant (.bool i) j pos) (wC (.bl i)) := qe_const pe_bl fun _ => .bl i
theorem qe_non {j : Nat} : QE wd X (.Constant .none j pos) (wC .non) := qe_const pe_non fun _ => .non
theorem qe_str {i : Str} {j : Nat} : QE wd X (.Constant (.str i) j pos) (wC (.str i)) := qe_const pe_str fun _ => .str i
theorem qv (i : Nat) {x : Str} (hN : X.N[i]? = some x := by rfl) (hv : Vis X.env.scope x := by first | exact Or.inl rfl | exact Or.inr (Or.inl rfl) | exact Or.inr (Or.inr rfl)) (hd : (x == ("__debug__" : Str)) = false := by decide)
    (hcd : (x == ("__classdict__" : Str)) = false := by decide) : QE wd X (.Name x pos) (wV i) := by
  refine ⟨PE.imp (pe_var hN hv hd hcd) fun σ H Q ⟨G0, H0, μ0, G, μ, sd, x, k, hx, hs, hw, hk, _⟩ => ?_⟩
  cases q : sd[i]? with
  | none => simp only [wV, q] at hw
  | some o =>
    cases o with
    | none => simp only [wV, q] at hw
    | some s =>
      obtain ⟨v, h1, h2⟩ := hs.at_ i s q
      cases s with
      | fz d =>
        simp only [wV, q] at hw
        exact ⟨v, h1, hk _ _ hw v G H (.refl hx.rep) h2⟩
      | own ds =>
        simp only [wV, q] at hw
        exact ⟨v, h1, hk _ _ hw v G H (.refl hx.rep) ⟨⟨ds, q⟩, h1⟩⟩
      | exc c fs => simp only [wV, q] at hw
      | fn caps => simp only [wV, q] at hw

/-! ### operators -/
abbrev OP := D → D → (R → Prop) → Prop
def wBin (op : OP) (wa wb : WE) : WE := fun sd μ x k => wa sd μ x fun r1 μ1 => wb sd μ1 x fun r2 μ2 => op (vw μ2 sd r1) (vw μ2 sd r2) fun r => k r μ2
structure OpT (wd : Wd) (X : Cx) (f : Value → Value → Sem Value) (op : OP) : Prop where
  ok : ∃ r, OpR X f r ∧ ∀ (v1 v2 : V) (d1 d2 : D) (G : Gh) (H : Hp) (μ : Mu) (k : R → Prop) (Q : VK), Rep X.K wd.cl G H μ → Den1 X.K wd.cl G H v1 d1 → Den1 X.K wd.cl G H v2 d2 → op d1 d2 k →
    (∀ rr, k rr → ∀ v G' H', Ext X.K wd.cl G H μ G' H' μ → RelN X.K wd.cl H G' H' μ v rr → Q v H') → r v1 v2 H Q
theorem two {f : Value → Value → Sem Value} {op : OP} {r : R2} (ha : QE wd X a wa) (hb : QE wd X b wb)
    (ho : ∀ (v1 v2 : V) (d1 d2 : D) (G : Gh) (H : Hp) (μ : Mu) (k : R → Prop) (Q : VK), Rep X.K wd.cl G H μ → Den1 X.K wd.cl G H v1 d1 → Den1 X.K wd.cl G H v2 d2 → op d1 d2 k →
    (∀ rr, k rr → ∀ v G' H', Ext X.K wd.cl G H μ G' H' μ → RelN X.K wd.cl H G' H' μ v rr → Q v H') → r v1 v2 H Q) {σ : St} {H : Hp} {Q : VK} (h : rdE X.K wd (wBin op wa wb) σ H Q) :
    rdE X.K wd wa σ H fun x H1 => rdE X.K wd wb σ H1 fun y H2 => r x y H2 Q := by
  obtain ⟨G0, H0, μ0, G, μ, sd, x, k, hx, hs, hw, hk, hxo⟩ := h
  refine ⟨G0, H0, μ0, G, μ, sd, x, _, hx, hs, hw, fun r1 μ1 q1 v1 G1 H1 e1 rel1 => ?_, hxo⟩
  obtain ⟨G1', e1', s1, hold1⟩ := hold hs e1 rel1
  refine ⟨G0, H0, μ0, G1', μ1, sd, x, _, hx.trans e1', hs.step e1', q1, fun r2 μ2 q2 v2 G2 H2 e2 rel2 => ?_, hxo.step e1'⟩
  obtain ⟨G2', e2', s2, hold2⟩ := hold (hs.step e1') e2 rel2
  refine ho v1 v2 _ _ G2' H2 μ2 _ Q e2'.rep (hold1 _ _ _ e2') (hold2 _ _ _ (.refl e2'.rep)) q2 fun rr kr v G' H' e3 rel3 => ?_
  exact hk rr μ2 kr v G' H' (e1'.trans (e2'.trans e3)) (rel3.back (fun a z => e1'.dom a (e2'.dom a z))).rel
theorem qe_op {op : Operator} {o : OP} (ho : OpT wd X (binaryOp op) o) (ha : QE wd X a wa) (hb : QE wd X b wb) : QE wd X (.BinOp a op b pos) (wBin o wa wb) := by
  obtain ⟨r, hr, hq⟩ := ho.ok
  exact ⟨PE.imp (pe_op hr ha.pe hb.pe) fun σ H Q h => two (f := binaryOp op) ha hb hq h⟩
theorem qe_cmp {op : CmpOp} {o : OP} (ho : OpT wd X (compareOp op) o) (ha : QE wd X a wa) (hb : QE wd X b wb) (hm : behindInMarks op b = false := by rfl) : QE wd X (.Compare a [op] [b] pos) (wBin o wa wb) := by
  obtain ⟨r, hr, hq⟩ := ho.ok
  exact ⟨PE.imp (pe_cmpR hr ha.pe hb.pe hm) fun σ H Q h => two (f := compareOp op) ha hb hq h⟩
end
end TL
/-! TL: operators, tests, arguments, displays, fields, items, built-ins -/
namespace TL
open PySem PySem.Spec L2

/-! ### == on trees -/
mutual
def deq : D → D → Bool
  | .non, .non => true
  | .bl a, .bl b => a == b
  | .bl a, .int j => (if a then 1 else 0) == j
  | .int i, .bl b => i == (if b then 1 else 0)
  | .int i, .int j => i == j
  | .str x, .str y => x == y
  | .lst xs, .lst ys => deqL xs ys
  | .tup xs, .tup ys => deqL xs ys
  | _, _ => false
def deqL : List D → List D → Bool
  | [], [] => true
  | x :: xs, y :: ys => deq x y && deqL xs ys
  | _, _ => false
end
def okD : Nat → D → Prop
  | _, .non => True
  | _, .bl _ => True
  | _, .int _ => True
  | _, .str x => PyData.strOk x = true
  | n + 1, .lst ds => ∀ d ∈ ds, okD n d
  | n + 1, .tup ds => ∀ d ∈ ds, okD n d
  | _, _ => False
theorem okL_pd {n : Nat} (ih : ∀ d, okD n d → ∃ p, d.pd = some p ∧ p.canLay0 = true ∧ p.depth ≤ n) : ∀ ds : List D, (∀ d ∈ ds, okD n d) → ∃ ps, D.pds ds = some ps ∧ PyData.canLayAll0 ps = true ∧ PyData.depthAll ps ≤ n
  | [], _ => ⟨[], rfl, by simp [PyData.canLayAll0], by simp [PyData.depthAll]⟩
  | d :: ds, h => by
    obtain ⟨p, h1, h2, h3⟩ := ih d (h d List.mem_cons_self)
    obtain ⟨ps, q1, q2, q3⟩ := okL_pd ih ds fun e he => h e (List.mem_cons_of_mem _ he)
    exact ⟨p :: ps, by simp only [D.pds, h1, q1], by simp only [PyData.canLayAll0, h2, q2, Bool.and_true], by simp only [PyData.depthAll]; omega⟩
theorem okD_pd : ∀ (n : Nat) (d : D), okD n d → ∃ p, d.pd = some p ∧ p.canLay0 = true ∧ p.depth ≤ n
  | n, .non, _ => ⟨.none, rfl, by simp [PyData.canLay0], by simp [PyData.depth]⟩
  | n, .bl b, _ => ⟨.bool b, rfl, by simp [PyData.canLay0], by simp [PyData.depth]⟩
  | n, .int b, _ => ⟨.int b, rfl, by simp [PyData.canLay0], by simp [PyData.depth]⟩
  | n, .str x, h => ⟨.str x, rfl, by
      have h' : PyData.strOk x = true := by cases n <;> exact h
      simp [PyData.canLay0, h'], by simp [PyData.depth]⟩
  | n + 1, .lst ds, h => by
    obtain ⟨ps, q1, q2, q3⟩ := okL_pd (okD_pd n) ds h
    exact ⟨.list ps, by simp only [D.pd, q1, Option.map_some], by simp only [PyData.canLay0, q2], by simp only [PyData.depth]; omega⟩
  | n + 1, .tup ds, h => by
    obtain ⟨ps, q1, q2, q3⟩ := okL_pd (okD_pd n) ds h
    exact ⟨.tuple ps, by simp only [D.pd, q1, Option.map_some], by simp only [PyData.canLay0, q2], by simp only [PyData.depth]; omega⟩
  | 0, .lst ds, h => h.elim
  | 0, .tup ds, h => h.elim
  | 0, .dic _ _, h => h.elim
  | n + 1, .dic _ _, h => h.elim
  | 0, .obj _ _, h => h.elim
  | 0, .ref _, h => h.elim
  | n + 1, .obj _ _, h => h.elim
  | n + 1, .ref _, h => h.elim
mutual
theorem deq_pd : ∀ (a b : D) (p q : PyData), a.pd = some p → b.pd = some q → PyData.eqv p q = deq a b := by
  intro a b p q h1 h2
  cases a <;> cases b <;> simp only [D.pd, Option.some.injEq, reduceCtorEq, Option.map_eq_some_iff] at h1 h2 <;> first
    | (obtain ⟨ps, e1, rfl⟩ := h1; obtain ⟨qs, e2, rfl⟩ := h2; simp only [PyData.eqv, deq]; exact deqL_pd _ _ _ _ e1 e2)
    | (obtain ⟨ps, e1, rfl⟩ := h1; obtain ⟨qs, e2, rfl⟩ := h2; simp only [PyData.eqv, deq])
    | (obtain ⟨ps, e1, rfl⟩ := h1; subst h2; simp only [PyData.eqv, deq])
    | (obtain ⟨qs, e2, rfl⟩ := h2; subst h1; simp only [PyData.eqv, deq])
    | (subst h1; subst h2; simp only [PyData.eqv, deq])
theorem deqL_pd : ∀ (xs ys : List D) (ps qs : List PyData), D.pds xs = some ps → D.pds ys = some qs → PyData.eqvAll ps qs = deqL xs ys
  | [], [], _, _, h1, h2 => by
    simp only [D.pds, Option.some.injEq] at h1 h2
    subst h1; subst h2; simp only [PyData.eqvAll, deqL]
  | [], y :: ys, _, _, h1, h2 => by
    obtain ⟨_, _, rfl, _, _⟩ := pds_cons h2
    simp only [D.pds, Option.some.injEq] at h1
    subst h1; simp only [PyData.eqvAll, deqL]
  | x :: xs, [], _, _, h1, h2 => by
    obtain ⟨_, _, rfl, _, _⟩ := pds_cons h1
    simp only [D.pds, Option.some.injEq] at h2
    subst h2; simp only [PyData.eqvAll, deqL]
  | x :: xs, y :: ys, _, _, h1, h2 => by
    obtain ⟨p, ps, rfl, e1, e2⟩ := pds_cons h1
    obtain ⟨q, qs, rfl, e3, e4⟩ := pds_cons h2
    simp only [PyData.eqvAll, deqL]
    rw [deq_pd x y p q e1 e3, deqL_pd xs ys ps qs e2 e4]
end
theorem shaped_of {n : Nat} {d : D} (h : okD n d) (hn : n ≤ 64) : ∃ p, d.pd = some p ∧ SeqAt.shaped p = true := by
  obtain ⟨p, h1, h2, h3⟩ := okD_pd n d h
  refine ⟨p, h1, ?_⟩
  unfold SeqAt.shaped
  rw [h2, decide_eq_true (by omega : p.depth ≤ 64)]
  rfl

section
variable {X : Cx} {wd : Wd} {e a b c : Expr} {es : List Expr} {w wa wb wc : WE} {wt wu : WT} {pos : Pos}

/-! ### operators -/
def oI (C : Int → Int → Prop) (g : Int → Int → Int) : OP := fun a b k => match a, b with
  | .int i, .int j => C i j ∧ k (.d (.int (g i j)))
  | _, _ => False
def oB (g : Int → Int → Bool) : OP := fun a b k => match a, b with
  | .int i, .int j => k (.d (.bl (g i j)))
  | _, _ => False
theorem opt_int {f : Value → Value → Sem Value} {C : Int → Int → Prop} {g : Int → Int → Int} (h : OpR X f (rI C fun i j => .int (g i j))) : OpT wd X f (oI C g) :=
  ⟨_, h, fun v1 v2 d1 d2 G H μ k Q r h1 h2 ho hk => by
    cases d1 <;> try exact ho.elim
    cases d2 <;> try exact ho.elim
    cases h1; cases h2
    exact ⟨_, _, rfl, rfl, ho.1, hk _ ho.2 _ G H (.refl r) (.int _)⟩⟩
theorem opt_int0 {f : Value → Value → Sem Value} {g : Int → Int → Int} (h : OpR X f (rI0 fun i j => .int (g i j))) : OpT wd X f (oI (fun _ _ => True) g) :=
  ⟨_, h, fun v1 v2 d1 d2 G H μ k Q r h1 h2 ho hk => by
    cases d1 <;> try exact ho.elim
    cases d2 <;> try exact ho.elim
    cases h1; cases h2
    exact ⟨_, _, rfl, rfl, hk _ ho.2 _ G H (.refl r) (.int _)⟩⟩
theorem opt_bl {f : Value → Value → Sem Value} {g : Int → Int → Bool} (h : OpR X f (rI0 fun i j => .bl (g i j))) : OpT wd X f (oB g) :=
  ⟨_, h, fun v1 v2 d1 d2 G H μ k Q r h1 h2 ho hk => by
    cases d1 <;> try exact ho.elim
    cases d2 <;> try exact ho.elim
    cases h1; cases h2
    exact ⟨_, _, rfl, rfl, hk _ ho _ G H (.refl r) (.bl _)⟩⟩
abbrev oSub : OP := oI (fun _ _ => True) fun i j => i - j
abbrev oMod : OP := oI (fun _ j => 0 < j) fun i j => i % j
abbrev oDiv : OP := oI CDivW fun i j => i / j
abbrev oPow : OP := oI CPow fun i j => i ^ j.toNat
abbrev oShl : OP := oI CShl fun i j => i * 2 ^ j.toNat
abbrev oShr : OP := oI (fun _ j => 0 ≤ j) fun i j => i / 2 ^ j.toNat
abbrev oAnd : OP := oI (fun _ _ => True) Builtin.bitAnd
abbrev oOr : OP := oI (fun _ _ => True) Builtin.bitOr
abbrev oXor : OP := oI (fun _ _ => True) Builtin.bitXor
abbrev oLt : OP := oB fun i j => decide (i < j)
abbrev oLe : OP := oB fun i j => decide (i ≤ j)
abbrev oGt : OP := oB fun i j => decide (j < i)
abbrev oGe : OP := oB fun i j => decide (j ≤ i)
theorem ot_sub : OpT wd X (binaryOp .Sub) oSub := opt_int0 op_sub
theorem ot_mod : OpT wd X (binaryOp .Mod) oMod := opt_int op_mod
theorem ot_div : OpT wd X (binaryOp .FloorDiv) oDiv := opt_int op_fdivW
theorem ot_pow : OpT wd X (binaryOp .Pow) oPow := opt_int op_pow
theorem ot_shl : OpT wd X (binaryOp .LShift) oShl := opt_int op_shlW
theorem ot_shr : OpT wd X (binaryOp .RShift) oShr := opt_int op_shr
theorem ot_and : OpT wd X (binaryOp .BitAnd) oAnd := opt_int0 op_and
theorem ot_or : OpT wd X (binaryOp .BitOr) oOr := opt_int0 op_or
theorem ot_xor : OpT wd X (binaryOp .BitXor) oXor := opt_int0 op_xor
theorem ot_lt : OpT wd X (compareOp .Lt) oLt := opt_bl op_lt
theorem ot_le : OpT wd X (compareOp .LtE) oLe := opt_bl op_le
theorem ot_gt : OpT wd X (compareOp .Gt) oGt := opt_bl op_gt
theorem ot_ge : OpT wd X (compareOp .GtE) oGe := opt_bl op_ge

/-- list + list -/
def rCatR (K : PySem.W.Frag) : R2 := fun x y H Q => ∃ l b xs zs, x = .ref l ∧ y = .ref b ∧ SqL K H l xs ∧ SqL K H b zs ∧ xs.length + zs.length ≤ sizeLine ∧ ∀ p, H p = none → Q (.ref p) (upd H p (.lst (xs ++ zs)))
theorem op_catR : OpR X (binaryOp .Add) (rCatR X.K) := by
  intro pins s σ H x y v u Q I rx ry h
  obtain ⟨l, b, xs, zs, rfl, rfl, hH, hB, hz, q⟩ := h
  cases rx
  cases ry
  obtain ⟨its, r, ⟨⟨cls, dd, data, sl⟩, n, ho, hc, _, hd⟩, _⟩ := I.list hH
  obtain ⟨its2, r2, ⟨⟨cls2, dd2, data2, sl2⟩, n2, ho2, hc2, _, hd2⟩, _⟩ := I.list hB
  simp only at hc hd hc2 hd2
  subst hc hd hc2 hd2
  have hl := r.length
  have hl2 := r2.length
  refine concat_meets ⟨_, ho, rfl⟩ ⟨_, ho2, rfl⟩ noFill_list_add seq_list_add PySem.F.slot_list_add PySem.F.entry_list_add (PySem.F.args_list_add_2 _ _) (PyProof.Rows.list_addW l b its.toArray its2.toArray n n2 dd dd2 sl sl2 (by rw [List.size_toArray, List.size_toArray]; omega)) ⟨ho, ho2, ?_⟩
  have ea : its.toArray ++ its2.toArray = (its ++ its2).toArray := by simp
  rw [ea]
  exact ⟨.ref _, _, I.lnew (t' := s.toks) (r.append r2) (by rw [List.length_append]; omega), rfl, q _ I.fresh⟩
theorem int_rmulW (a : Int) (t : Tok) (l : Addr) (items : Array Value) (n : Nat) (dd : Option Addr) (sl : Array (Option Value)) :
    Meets (Builtin.«int.__rmul__» ⟨[.int a t, .ref l], []⟩) (fun _ R s => s.heap.get? l = some { cls := .type "list", dict := dd, data := .seq items n, slots := sl } ∧ R (.ok (.ret Value.notImplemented)) s) :=
  .of_wp fun prog w A R s h => by obtain ⟨hp, g, d, tk, os⟩ := s; obtain ⟨hl, h⟩ := h; wp_walk; exact ⟨_, rfl, h⟩
theorem list_mulW (l : Addr) (items : Array Value) (n : Nat) (dd : Option Addr) (sl : Array (Option Value)) (x : Int) (u : Tok) (hc0 : ¬(!Builtin.List.listFitsIndex x) = true) (hc1 : ¬items.size * x.toNat > (2 ^ 63 - 1) / 8) (hc2 : ¬Builtin.List.listTooLong (items.size * x.toNat) = true) :
    Meets (Builtin.«list.__mul__» ⟨[.ref l, .int x u], []⟩) (fun _ R s => s.heap.get? l = some { cls := .type "list", dict := dd, data := .seq items n, slots := sl } ∧ R (.ok (.ret (Value.ref s.heap.objs.size))) { s with heap := s.heap.push { cls := Value.type "list", data := Data.seq (List.foldl (fun x1 x2 => x1 ++ x2) #[] (List.replicate (if items.isEmpty = true then 0 else x.toNat) items)) }, toks := s.toks }) :=
  .of_wp fun prog w A R s h => by
    obtain ⟨hp, g, d, tk, os⟩ := s; obtain ⟨hl, h⟩ := h
    have hsz := PySem.AutoListH.joined_fits hc2
    wp_walk; refine wpAny_ite_false (decide_eq_false (Nat.not_lt.mpr hsz)) ?_; wp_walk; exact ⟨_, rfl, h⟩
def rRepR (K : PySem.W.Frag) : R2 := fun x y H Q => ∃ l k xs, x = .ref l ∧ y = .int k ∧ SqL K H l xs ∧ -(2 ^ 63) ≤ k ∧ k < 2 ^ 63 ∧ xs.length * k.toNat ≤ sizeLine ∧
  ∀ p, H p = none → Q (.ref p) (upd H p (.lst (List.replicate k.toNat xs).flatten))
theorem op_repR : OpR X (binaryOp .Mult) (rRepR X.K) := by
  intro pins s σ H x y v u Q I rx ry h
  obtain ⟨l, k, xs, rfl, rfl, hH, h1, h2, hz, q⟩ := h
  cases rx
  obtain ⟨t, rfl⟩ := ry
  obtain ⟨its, r, ⟨⟨cls, dd, data, sl⟩, n, ho, hc, _, hd⟩, _⟩ := I.list hH
  simp only at hc hd
  subst hc hd
  have hl := r.length
  have hlen : its.toArray.size * k.toNat ≤ sizeLine := by rw [List.size_toArray, ← hl]; exact hz
  have hcap : ¬ its.toArray.size * k.toNat > (2 ^ 63 - 1) / 8 := by
    have : (sizeLine : Nat) ≤ (2 ^ 63 - 1) / 8 := by decide
    omega
  have hfit : ¬ (!Builtin.List.listFitsIndex k) = true := by
    rw [PySem.fitsIndex_both h1 h2]
    exact Bool.false_ne_true
  have hlong : ¬ Builtin.List.listTooLong (its.toArray.size * k.toNat) = true := by
    rw [notLongL hlen]
    exact Bool.false_ne_true
  have hnew : List.foldl (fun x1 x2 => x1 ++ x2) #[] (List.replicate (if its.toArray.isEmpty = true then 0 else k.toNat) its.toArray) = (List.replicate k.toNat its).flatten.toArray := by
    have f0 : ∀ m : Nat, List.foldl (fun x1 x2 => x1 ++ x2) #[] (List.replicate m its.toArray) = (List.replicate m its).flatten.toArray := fun m => by
      have := foldl_rep its m []
      rw [List.nil_append] at this
      exact this
    rw [f0]
    cases its with
    | nil => simp
    | cons a r' => rw [if_neg (by simp)]
  refine PySem.wpAny_binaryOp_repeat_ref (T := "list") (U := "int") (by decide) ⟨_, ho, rfl⟩ (fun s' => typeIs_int s' k t) PySem.noFill_list_mul F.fills_int_mul F.slot_int_rmul PySem.repeat_list F.slot_int_index.lookup
    (call_meets F.slot_int_rmul (typeIs_int s k t) F.entry_int_rmul (F.args_int_rmul_2 _ _) (int_rmulW k t l its.toArray n dd sl)
      ⟨ho, rfl, ⟨_, ho, rfl⟩, call_meets F.slot_list_mul ⟨_, ho, rfl⟩ F.entry_list_mul (F.args_list_mul_2 _ _) (list_mulW l its.toArray n dd sl k t hfit hcap hlong) ⟨ho, ?_⟩⟩)
  rw [hnew]
  exact ⟨.ref _, _, I.lnew (t' := s.toks) (r.rep k.toNat) (by rw [PyProof.Rows.lm_len_rep_flat, Nat.mul_comm]; exact hz), rfl, q _ I.fresh⟩

def oAdd : OP := fun a b k => match a, b with
  | .int i, .int j => k (.d (.int (i + j)))
  | .str i, .str j => i.length + j.length ≤ sizeLine ∧ k (.d (.str (i ++ j)))
  | .lst xs, .lst ys => xs.length + ys.length ≤ sizeLine ∧ k (.new (.lst (xs ++ ys)))
  | .tup xs, .tup ys => xs.length + ys.length ≤ sizeLine ∧ k (.d (.tup (xs ++ ys)))
  | _, _ => False

theorem new_lst {G : Gh} {H : Hp} {μ : Mu} {k : R → Prop} {Q : VK} {vs : List V} {ds : List D} (r : Rep X.K wd.cl G H μ) (hg : DenL X.K wd.cl G vs ds) (hk : ∀ rr, k rr → ∀ v G' H', Ext X.K wd.cl G H μ G' H' μ → RelN X.K wd.cl H G' H' μ v rr → Q v H') (h : k (.new (.lst ds))) :
    ∀ p, H p = none → Q (.ref p) (upd H p (.lst vs)) := fun p hp =>
  hk _ h _ G _ (Ext.loose r hp) ⟨p, _, rfl, hp, upd_same, hg, (r.free hp).1, (r.free hp).2⟩
theorem new_tup {G : Gh} {H : Hp} {μ : Mu} {k : R → Prop} {Q : VK} {vs : List V} {ds : List D} (r : Rep X.K wd.cl G H μ) (hg : DenL X.K wd.cl G vs ds) (hk : ∀ rr, k rr → ∀ v G' H', Ext X.K wd.cl G H μ G' H' μ → RelN X.K wd.cl H G' H' μ v rr → Q v H') (h : k (.d (.tup ds))) :
    ∀ p, H p = none → Q (.ref p) (upd H p (.tup vs)) := fun p hp =>
  hk _ h _ _ _ (Ext.frozen r hp) (.tup (.inl (.inl upd_same)) (DenL.mono (gle_put (r.free hp).1) _ _ hg))
theorem sqT_up {G : Gh} {H : Hp} {a : Addr} {xs : List V} (s : Same G.fz H) (h : SqT X.K G.fz a xs) : SqT X.K H a xs := sqT_same s h
theorem ot_add : OpT wd X (binaryOp .Add) oAdd := by
  refine ⟨_, (op_add.or (op_add_str.or (op_catR.or op_catA))), fun v1 v2 d1 d2 G H μ k Q r h1 h2 ho hk => ?_⟩
  cases d1 <;> try exact ho.elim
  · cases d2 <;> try exact ho.elim
    cases h1; cases h2
    exact .inl ⟨_, _, rfl, rfl, hk _ ho _ G H (.refl r) (.int _)⟩
  · cases d2 <;> try exact ho.elim
    cases h1; cases h2
    exact .inr (.inl ⟨_, _, rfl, rfl, ho.1, hk _ ho.2 _ G H (.refl r) (.str _)⟩)
  · cases d2 <;> try exact ho.elim
    obtain ⟨a, vs, rfl, q1, q2⟩ := h1
    obtain ⟨b, us, rfl, q3, q4⟩ := h2
    exact .inr (.inr (.inl ⟨a, b, vs, us, rfl, rfl, q1, q3, by rw [q2.len, q4.len]; exact ho.1, new_lst r (q2.app q4) hk ho.2⟩))
  · cases d2 <;> try exact ho.elim
    rename_i xs ys
    cases h1 with
    | @tup a vs _ q1 q2 =>
    cases h2 with
    | @tup b us _ q3 q4 =>
    refine .inr (.inr (.inr ⟨a, b, vs, us, rfl, rfl, sqT_up r.sub q1, sqT_up r.sub q3, by rw [q2.len, q4.len]; exact ho.1, fun e => ?_, fun _ e => ?_, fun _ _ => new_tup r (q2.app q4) hk ho.2⟩))
    · subst e
      cases q2
      exact hk _ ho.2 _ G H (.refl r) (.tup q3 q4)
    · subst e
      cases q4
      have ho2 := ho.2
      rw [List.append_nil] at ho2
      exact hk _ ho2 _ G H (.refl r) (.tup q1 q2)
def oMul : OP := fun a b k => match a, b with
  | .int i, .int j => CMulX i j ∧ k (.d (.int (i * j)))
  | .lst xs, .int j => -(2 ^ 63) ≤ j ∧ j < 2 ^ 63 ∧ xs.length * j.toNat ≤ sizeLine ∧ k (.new (.lst (List.replicate j.toNat xs).flatten))
  | _, _ => False
theorem ot_mul : OpT wd X (binaryOp .Mult) oMul := by
  refine ⟨_, (op_mulX.or op_repR), fun v1 v2 d1 d2 G H μ k Q r h1 h2 ho hk => ?_⟩
  cases d1 <;> try exact ho.elim
  · cases d2 <;> try exact ho.elim
    cases h1; cases h2
    exact .inl ⟨_, _, rfl, rfl, ho.1, hk _ ho.2 _ G H (.refl r) (.int _)⟩
  · cases d2 <;> try exact ho.elim
    obtain ⟨a, vs, rfl, q1, q2⟩ := h1
    cases h2
    exact .inr ⟨a, _, vs, rfl, rfl, q1, ho.1, ho.2.1, by rw [q2.len]; exact ho.2.2.1, new_lst r (q2.rep _) hk ho.2.2.2⟩
/-- == and != -/
def oEq : OP := fun a b k => okD 12 a ∧ okD 12 b ∧ k (.d (.bl (deq a b)))
def oNe : OP := fun a b k => okD 12 a ∧ okD 12 b ∧ k (.d (.bl (!deq a b)))
theorem ot_eq (hu : X.A.units + 64 < cLine) : OpT wd X (compareOp .Eq) oEq := by
  refine ⟨_, op_eqD hu, fun v1 v2 d1 d2 G H μ k Q r h1 h2 ho hk => ?_⟩
  obtain ⟨p, e1, s1⟩ := shaped_of ho.1 (by decide)
  obtain ⟨q, e2, s2⟩ := shaped_of ho.2.1 (by decide)
  refine ⟨p, q, Den.dp _ _ _ (h1.den r.sub) e1, Den.dp _ _ _ (h2.den r.sub) e2, s1, s2, ?_⟩
  rw [deq_pd _ _ _ _ e1 e2]
  exact hk _ ho.2.2 _ G H (.refl r) (.bl _)
theorem ot_ne (hu : X.A.units + 64 < cLine) : OpT wd X (compareOp .NotEq) oNe := by
  refine ⟨_, op_neD hu, fun v1 v2 d1 d2 G H μ k Q r h1 h2 ho hk => ?_⟩
  obtain ⟨p, e1, s1⟩ := shaped_of ho.1 (by decide)
  obtain ⟨q, e2, s2⟩ := shaped_of ho.2.1 (by decide)
  refine ⟨p, q, Den.dp _ _ _ (h1.den r.sub) e1, Den.dp _ _ _ (h2.den r.sub) e2, s1, s2, ?_⟩
  rw [deq_pd _ _ _ _ e1 e2]
  exact hk _ ho.2.2 _ G H (.refl r) (.bl _)
/-- in, not in -/
def fltD : D → Bool
  | .non => true | .bl _ => true | .int _ => true | .str _ => true | _ => false
def anyD (a : D) (ds : List D) : Bool := ds.any fun z => deq z a
def oInG (f : Bool → Bool) : OP := fun a b k => match b with
  | .lst ds => okD 10 a ∧ okD 12 (.lst ds) ∧ k (.d (.bl (f (anyD a ds))))
  | .tup ds => fltD a = true ∧ (∀ d ∈ ds, fltD d = true) ∧ k (.d (.bl (f (anyD a ds))))
  | _ => False
abbrev oIn : OP := oInG fun b => b
abbrev oNotIn : OP := oInG fun b => !b
theorem any_pd {a : D} {p : PyData} (ha : a.pd = some p) : ∀ {ds : List D} {ps : List PyData}, D.pds ds = some ps → (ps.any fun z => PyData.eqv z p) = anyD a ds
  | [], _, h => by simp only [D.pds, Option.some.injEq] at h; subst h; rfl
  | d :: ds, _, h => by
    obtain ⟨q, qs, rfl, e1, e2⟩ := pds_cons h
    unfold anyD
    rw [List.any_cons, List.any_cons, deq_pd _ _ _ _ e1 ha, any_pd ha e2]
    rfl
theorem flt_of {v : V} {d : D} {G : Gh} (h : Den X.K wd.cl G v d) (f : fltD d = true) : flatV v = true := by
  cases h <;> first | rfl | cases f
theorem eqV_of {v u : V} {d e : D} {G : Gh} (h : Den X.K wd.cl G v d) (h' : Den X.K wd.cl G u e) (f : fltD d = true) (f' : fltD e = true) : eqV v u = deq d e := by
  cases h <;> first | (cases f; done) | (cases h' <;> first | (cases f'; done) | rfl | (simp only [eqV, deq]))
theorem flts_of {G : Gh} : ∀ {vs : List V} {ds : List D}, DenL X.K wd.cl G vs ds → (∀ d ∈ ds, fltD d = true) → vs.all flatV = true
  | _, _, .nil, _ => rfl
  | _, _, .cons h1 h2, f => by
    rw [List.all_cons, flt_of h1 (f _ List.mem_cons_self), flts_of h2 fun d hd => f d (List.mem_cons_of_mem _ hd)]
    rfl
theorem inV_of {G : Gh} {v : V} {d : D} (h : Den X.K wd.cl G v d) (f : fltD d = true) : ∀ {vs : List V} {ds : List D}, DenL X.K wd.cl G vs ds → (∀ d ∈ ds, fltD d = true) → inV v vs = anyD d ds
  | _, _, .nil, _ => rfl
  | _, _, .cons h1 h2, g => by
    unfold inV anyD
    rw [List.any_cons, List.any_cons, eqV_of h1 h (g _ List.mem_cons_self) f]
    have := inV_of h f h2 fun d hd => g d (List.mem_cons_of_mem _ hd)
    unfold inV anyD at this
    rw [this]
theorem ot_in (hu : X.A.units + 65 < cLine) : OpT wd X (compareOp .In) oIn := by
  refine ⟨_, (op_inD hu).or op_in_seq, fun v1 v2 d1 d2 G H μ k Q r h1 h2 ho hk => ?_⟩
  cases d2 <;> try exact ho.elim
  · rename_i ds
    obtain ⟨p, e1, s1⟩ := shaped_of ho.1 (by decide)
    obtain ⟨q, e2, s2⟩ := shaped_of ho.2.1 (by decide)
    cases e3 : D.pds ds with
    | none => simp [D.pd, e3] at e2
    | some ps =>
      have e4 : q = .list ps := by simp [D.pd, e3] at e2; exact e2.symm
      subst e4
      refine .inl ⟨p, ps, Den.dp _ _ _ (h1.den r.sub) e1, Den.dp _ _ _ (h2.den r.sub) e2, s1, s2, ?_⟩
      rw [any_pd e1 e3]
      exact hk _ ho.2.2 _ G H (.refl r) (.bl _)
  · cases h2 with
    | @tup a vs _ q1 q2 =>
    have d1' := h1.den r.sub
    refine .inr ⟨a, vs, rfl, .inr (sqT_up r.sub q1), flt_of (wd := wd) d1' ho.1, flts_of (X := X) (wd := wd) q2 ho.2.1, ?_⟩
    rw [inV_of (X := X) (wd := wd) d1' ho.1 (DenL.mono r.gle _ _ q2) ho.2.1]
    exact hk _ ho.2.2 _ G H (.refl r) (.bl _)
theorem ot_notIn (hu : X.A.units + 65 < cLine) : OpT wd X (compareOp .NotIn) oNotIn := by
  refine ⟨_, (op_notInD hu).or op_notIn_seq, fun v1 v2 d1 d2 G H μ k Q r h1 h2 ho hk => ?_⟩
  cases d2 <;> try exact ho.elim
  · rename_i ds
    obtain ⟨p, e1, s1⟩ := shaped_of ho.1 (by decide)
    obtain ⟨q, e2, s2⟩ := shaped_of ho.2.1 (by decide)
    cases e3 : D.pds ds with
    | none => simp [D.pd, e3] at e2
    | some ps =>
      have e4 : q = .list ps := by simp [D.pd, e3] at e2; exact e2.symm
      subst e4
      refine .inl ⟨p, ps, Den.dp _ _ _ (h1.den r.sub) e1, Den.dp _ _ _ (h2.den r.sub) e2, s1, s2, ?_⟩
      rw [any_pd e1 e3]
      exact hk _ ho.2.2 _ G H (.refl r) (.bl _)
  · cases h2 with
    | @tup a vs _ q1 q2 =>
    have d1' := h1.den r.sub
    refine .inr ⟨a, vs, rfl, .inr (sqT_up r.sub q1), flt_of (wd := wd) d1' ho.1, flts_of (X := X) (wd := wd) q2 ho.2.1, ?_⟩
    rw [inV_of (X := X) (wd := wd) d1' ho.1 (DenL.mono r.gle _ _ q2) ho.2.1]
    exact hk _ ho.2.2 _ G H (.refl r) (.bl _)
/-- is None, is not None; is of bools -/
def isNon : D → Bool
  | .non => true
  | _ => false
theorem isNon_of {v : V} {d : D} {G : Gh} (h : Den X.K wd.cl G v d) : decide (v = .non) = isNon d := by
  cases h <;> rfl
def oIs : OP := fun a b k => match a, b with
  | .bl x, .bl y => k (.d (.bl (decide (x = y))))
  | a, .non => k (.d (.bl (isNon a)))
  | _, _ => False
def oIsNot : OP := fun a b k => match a, b with
  | .bl x, .bl y => k (.d (.bl (!decide (x = y))))
  | a, .non => k (.d (.bl (!isNon a)))
  | _, _ => False
theorem ot_is : OpT wd X (compareOp .Is) oIs := by
  refine ⟨_, op_isBl.or op_isN, fun v1 v2 d1 d2 G H μ k Q r h1 h2 ho hk => ?_⟩
  cases d2 with
  | non =>
    cases h2
    refine .inr ⟨rfl, ?_⟩
    rw [isNon_of (h1.den r.sub)]
    refine hk (.d (.bl _)) ?_ _ G H (.refl r) (Den.bl _)
    cases d1 <;> exact ho
  | bl y =>
    cases d1 <;> try exact ho.elim
    cases h1; cases h2
    exact .inl ⟨_, _, rfl, rfl, hk _ ho _ G H (.refl r) (.bl _)⟩
  | _ => cases d1 <;> exact ho.elim
theorem ot_isNot : OpT wd X (compareOp .IsNot) oIsNot := by
  refine ⟨_, op_notBl.or op_notN, fun v1 v2 d1 d2 G H μ k Q r h1 h2 ho hk => ?_⟩
  cases d2 with
  | non =>
    cases h2
    refine .inr ⟨rfl, ?_⟩
    rw [isNon_of (h1.den r.sub)]
    refine hk (.d (.bl _)) ?_ _ G H (.refl r) (Den.bl _)
    cases d1 <;> exact ho
  | bl y =>
    cases d1 <;> try exact ho.elim
    cases h1; cases h2
    exact .inl ⟨_, _, rfl, rfl, hk _ ho _ G H (.refl r) (.bl _)⟩
  | _ => cases d1 <;> exact ho.elim
/-- one operand -/
abbrev UP := D → (R → Prop) → Prop
def wUn (op : UP) (wa : WE) : WE := fun sd μ x k => wa sd μ x fun r1 μ1 => op (vw μ1 sd r1) fun r => k r μ1
def oNeg : UP := fun a k => match a with
  | .int i => k (.d (.int (-i)))
  | _ => False
def oInv : UP := fun a k => match a with
  | .int i => k (.d (.int (Builtin.bitNot i)))
  | _ => False
def oNot : UP := fun a k => match a with
  | .bl b => k (.d (.bl (!b)))
  | _ => False
theorem one {op : UP} {r : V → Hp → VK → Prop} (ha : QE wd X a wa)
    (ho : ∀ (v1 : V) (d1 : D) (G : Gh) (H : Hp) (μ : Mu) (k : R → Prop) (Q : VK), Rep X.K wd.cl G H μ → Den1 X.K wd.cl G H v1 d1 → op d1 k →
    (∀ rr, k rr → ∀ v G' H', Ext X.K wd.cl G H μ G' H' μ → RelN X.K wd.cl H G' H' μ v rr → Q v H') → r v1 H Q) {σ : L2.St} {H : Hp} {Q : VK} (h : rdE X.K wd (wUn op wa) σ H Q) :
    rdE X.K wd wa σ H fun x H1 => r x H1 Q := by
  obtain ⟨G0, H0, μ0, G, μ, sd, x, k, hx, hs, hw, hk, hxo⟩ := h
  refine ⟨G0, H0, μ0, G, μ, sd, x, _, hx, hs, hw, fun r1 μ1 q1 v1 G1 H1 e1 rel1 => ?_, hxo⟩
  obtain ⟨G1', e1', s1, hold1⟩ := hold hs e1 rel1
  refine ho v1 _ G1' H1 μ1 _ Q e1'.rep (hold1 _ _ _ (.refl e1'.rep)) q1 fun rr kr v G' H' e3 rel3 => ?_
  exact hk rr μ1 kr v G' H' (e1'.trans e3) (rel3.back (fun a z => e1'.dom a z)).rel
theorem qe_neg (ha : QE wd X a wa) : QE wd X (.UnaryOp .USub a pos) (wUn oNeg wa) :=
  ⟨PE.imp (pe_un un_neg ha.pe) fun σ H Q h => one ha (fun v1 d1 G H μ k Q r h1 ho hk => by
    cases d1 <;> try exact ho.elim
    cases h1
    exact ⟨_, rfl, hk _ ho _ G H (.refl r) (.int _)⟩) h⟩
theorem qe_inv (ha : QE wd X a wa) : QE wd X (.UnaryOp .Invert a pos) (wUn oInv wa) :=
  ⟨PE.imp (pe_un un_inv ha.pe) fun σ H Q h => one ha (fun v1 d1 G H μ k Q r h1 ho hk => by
    cases d1 <;> try exact ho.elim
    cases h1
    exact ⟨_, rfl, hk _ ho _ G H (.refl r) (.int _)⟩) h⟩
theorem qe_not (ha : QE wd X a wa) : QE wd X (.UnaryOp .Not a pos) (wUn oNot wa) :=
  ⟨PE.imp (pe_not ha.pe) fun σ H Q h => one (r := fun x H Q => ∃ c, x = .bl c ∧ Q (.bl (!c)) H) ha (fun v1 d1 G H μ k Q r h1 ho hk => by
    cases d1 <;> try exact ho.elim
    cases h1
    exact ⟨_, rfl, hk _ ho _ G H (.refl r) (.bl _)⟩) h⟩
end
end TL
/-! TL: tests, arguments, displays, fields, items -/
namespace TL
open PySem PySem.Spec L2

section
variable {X : Cx} {wd : Wd} {e a b c : Expr} {es rest : List Expr} {w wa wb wc : WE} {wt wu : WT} {ws : WA} {pos : Pos}

/-! ### tests -/
def wTst (w : WE) : WT := fun sd μ x k => w sd μ x fun r μ' => match r with
  | .d (.bl b) => k b μ'
  | _ => False
theorem tst_of {σ : L2.St} {H : Hp} {Q : Bool → Hp → Prop} (h : rdT X.K wd (wTst w) σ H Q) : rdE X.K wd w σ H fun x H' => ∃ c, x = .bl c ∧ Q c H' := by
  obtain ⟨G0, H0, μ0, G, μ, sd, x, k, hx, hs, hw, hk, hxo⟩ := h
  refine ⟨G0, H0, μ0, G, μ, sd, x, _, hx, hs, hw, fun r μ' q v G' H' e' rel => ?_, hxo⟩
  cases r with
  | d y =>
    cases y <;> try exact q.elim
    cases rel
    exact ⟨_, rfl, hk _ _ q G' H' e'⟩
  | «at» i => exact q.elim
  | new ds => exact q.elim
theorem qt_cmp {op : CmpOp} {o : OP} (ho : OpT wd X (compareOp op) o) (ha : QE wd X a wa) (hb : QE wd X b wb) (hm : behindInMarks op b = false := by rfl) : QT wd X (.Compare a [op] [b] pos) (wTst (wBin o wa wb)) := by
  obtain ⟨r, hr, hq⟩ := ho.ok
  exact ⟨PT.imp (pt_cmpR hr ha.pe hb.pe hm) fun σ H Q h => two (f := compareOp op) (Q := fun x H' => ∃ c, x = .bl c ∧ Q c H') ha hb hq (tst_of h)⟩
theorem qt_val (h : QE wd X e w) (he : ∀ whole, isTrue e X.env whole = (do let v ← whole; standAt e.pos; holding [v] (truthy v)) := by intro _; rfl) : QT wd X e (wTst w) :=
  ⟨PT.imp (pt_val h.pe he) fun σ H Q q => tst_of q⟩
/-- and, or: J joins the ways -/
def wAnd (ta tb : WT) : WT := fun sd μ x k => ∃ J : Bool → Mu → Prop, (∀ b μ', J b μ' → k b μ') ∧ ta sd μ x fun b μ1 => (b = true → tb sd μ1 x J) ∧ (b = false → J false μ1)
def wOr (ta tb : WT) : WT := fun sd μ x k => ∃ J : Bool → Mu → Prop, (∀ b μ', J b μ' → k b μ') ∧ ta sd μ x fun b μ1 => (b = false → tb sd μ1 x J) ∧ (b = true → J true μ1)
def wNot (ta : WT) : WT := fun sd μ x k => ta sd μ x fun b μ1 => k (!b) μ1
structure QW (wd : Wd) (X : Cx) (e : Expr) (w : WT) : Prop where
  pw : PW X e (rdT X.K wd w)
theorem PW.imp {t t' : TT} (h : PW X e t) (q : ∀ σ H Q, t' σ H Q → t σ H Q) : PW X e t' := ⟨fun wh pins s σ H Q I r => h.run wh pins s σ H Q I (q σ H Q r)⟩
theorem QW.qt (h : QW wd X e wt) : QT wd X e wt := ⟨h.pw.pt⟩
theorem qw_and1 (ha : QT wd X a wt) : QW wd X (.BoolOp .And [a] pos) wt := ⟨pw_and1 ha.pt⟩
theorem qw_or1 (ha : QT wd X a wt) : QW wd X (.BoolOp .Or [a] pos) wt := ⟨pw_or1 ha.pt⟩
theorem qw_and (ha : QT wd X a wt) (hb : QW wd X (.BoolOp .And (b :: rest) pos) wu) : QW wd X (.BoolOp .And (a :: b :: rest) pos) (wAnd wt wu) := by
  refine ⟨PW.imp (pw_and ha.pt hb.pw) fun σ H Q ⟨G0, H0, μ0, G, μ, sd, x, k, hx, hs, ⟨J, hJ, hw⟩, hk, hxo⟩ => ?_⟩
  refine ⟨G0, H0, μ0, G, μ, sd, x, _, hx, hs, hw, fun b μ1 q G1 H1 e1 => ?_, hxo⟩
  cases b with
  | true =>
    rw [if_pos rfl]
    exact ⟨G0, H0, μ0, G1, μ1, sd, x, _, hx.trans e1, hs.step e1, q.1 rfl, fun b' μ' q' G' H' e' => hk _ _ (hJ _ _ q') G' H' (e1.trans e'), hxo.step e1⟩
  | false =>
    rw [if_neg (by decide)]
    exact hk _ _ (hJ _ _ (q.2 rfl)) G1 H1 e1
theorem qw_or (ha : QT wd X a wt) (hb : QW wd X (.BoolOp .Or (b :: rest) pos) wu) : QW wd X (.BoolOp .Or (a :: b :: rest) pos) (wOr wt wu) := by
  refine ⟨PW.imp (pw_or ha.pt hb.pw) fun σ H Q ⟨G0, H0, μ0, G, μ, sd, x, k, hx, hs, ⟨J, hJ, hw⟩, hk, hxo⟩ => ?_⟩
  refine ⟨G0, H0, μ0, G, μ, sd, x, _, hx, hs, hw, fun b μ1 q G1 H1 e1 => ?_, hxo⟩
  cases b with
  | false =>
    rw [if_neg (by decide)]
    exact ⟨G0, H0, μ0, G1, μ1, sd, x, _, hx.trans e1, hs.step e1, q.1 rfl, fun b' μ' q' G' H' e' => hk _ _ (hJ _ _ q') G' H' (e1.trans e'), hxo.step e1⟩
  | true =>
    rw [if_pos rfl]
    exact hk _ _ (hJ _ _ (q.2 rfl)) G1 H1 e1
theorem qt_not (ha : QT wd X a wt) : QT wd X (.UnaryOp .Not a pos) (wNot wt) :=
  ⟨PT.imp (pt_not ha.pt) fun σ H Q ⟨G0, H0, μ0, G, μ, sd, x, k, hx, hs, hw, hk, hxo⟩ => ⟨G0, H0, μ0, G, μ, sd, x, _, hx, hs, hw, fun b μ1 q G1 H1 e1 => hk _ _ q G1 H1 e1, hxo⟩⟩
/-- .. as values -/
def wAndV (wa wb : WE) : WE := fun sd μ x k => ∃ J : R → Mu → Prop, (∀ b μ', J b μ' → k b μ') ∧ wTst wa sd μ x fun b μ1 => (b = true → wb sd μ1 x J) ∧ (b = false → J (.d (.bl false)) μ1)
def wOrV (wa wb : WE) : WE := fun sd μ x k => ∃ J : R → Mu → Prop, (∀ b μ', J b μ' → k b μ') ∧ wTst wa sd μ x fun b μ1 => (b = false → wb sd μ1 x J) ∧ (b = true → J (.d (.bl true)) μ1)
theorem qe_one {op : BoolOp} (ha : QE wd X a wa) : QE wd X (.BoolOp op [a] pos) wa := ⟨pe_one ha.pe⟩
theorem RelR.back {K : PySem.W.Frag} {cl : Cl} {Hs Hs' : Hp} {G : Gh} {H : Hp} {μ : Mu} {σ : L2.St} {sd : SD} {v : V} {r : R} (h : RelR K cl Hs G H μ σ sd v r) (q : ∀ a, Hs a = none → Hs' a = none) : RelR K cl Hs' G H μ σ sd v r := by
  cases r with
  | d x => exact h
  | «at» i => exact h
  | new ds =>
    obtain ⟨p, vs, h1, h2, h3⟩ := h
    exact ⟨p, vs, h1, q p h2, h3⟩
theorem qe_and (ha : QE wd X a wa) (hb : QE wd X (.BoolOp .And (b :: rest) pos) wb) : QE wd X (.BoolOp .And (a :: b :: rest) pos) (wAndV wa wb) := by
  refine ⟨PE.imp (pe_and ha.pe hb.pe) fun σ H Q ⟨G0, H0, μ0, G, μ, sd, x, k, hx, hs, ⟨J, hJ, hw⟩, hk, hxo⟩ => ?_⟩
  refine tst_of (Q := fun c H1 => if c = true then rdE X.K wd wb σ H1 Q else Q (.bl false) H1) ⟨G0, H0, μ0, G, μ, sd, x, _, hx, hs, hw, fun b μ1 q G1 H1 e1 => ?_, hxo⟩
  cases b with
  | true =>
    rw [if_pos rfl]
    exact ⟨G0, H0, μ0, G1, μ1, sd, x, _, hx.trans e1, hs.step e1, q.1 rfl, fun b' μ' q' v G' H' e' rel => hk _ _ (hJ _ _ q') v G' H' (e1.trans e') (rel.back fun a z => e1.dom a z), hxo.step e1⟩
  | false =>
    rw [if_neg (by decide)]
    exact hk _ _ (hJ _ _ (q.2 rfl)) _ G1 H1 e1 (Den.bl _)
theorem qe_or (ha : QE wd X a wa) (hb : QE wd X (.BoolOp .Or (b :: rest) pos) wb) : QE wd X (.BoolOp .Or (a :: b :: rest) pos) (wOrV wa wb) := by
  refine ⟨PE.imp (pe_or ha.pe hb.pe) fun σ H Q ⟨G0, H0, μ0, G, μ, sd, x, k, hx, hs, ⟨J, hJ, hw⟩, hk, hxo⟩ => ?_⟩
  refine tst_of (Q := fun c H1 => if c = true then Q (.bl true) H1 else rdE X.K wd wb σ H1 Q) ⟨G0, H0, μ0, G, μ, sd, x, _, hx, hs, hw, fun b μ1 q G1 H1 e1 => ?_, hxo⟩
  cases b with
  | false =>
    rw [if_neg (by decide)]
    exact ⟨G0, H0, μ0, G1, μ1, sd, x, _, hx.trans e1, hs.step e1, q.1 rfl, fun b' μ' q' v G' H' e' rel => hk _ _ (hJ _ _ q') v G' H' (e1.trans e') (rel.back fun a z => e1.dom a z), hxo.step e1⟩
  | true =>
    rw [if_pos rfl]
    exact hk _ _ (hJ _ _ (q.2 rfl)) _ G1 H1 e1 (Den.bl _)
def wIte (wt : WT) (wa wb : WE) : WE := fun sd μ x k => wt sd μ x fun b μ1 => (b = true → wa sd μ1 x k) ∧ (b = false → wb sd μ1 x k)
theorem qe_ite (hc : QT wd X c wt) (ha : QE wd X a wa) (hb : QE wd X b wb) : QE wd X (.IfExp c a b pos) (wIte wt wa wb) := by
  refine ⟨PE.imp (pe_ifExp hc.pt ha.pe hb.pe) fun σ H Q ⟨G0, H0, μ0, G, μ, sd, x, k, hx, hs, hw, hk, hxo⟩ => ?_⟩
  refine ⟨G0, H0, μ0, G, μ, sd, x, _, hx, hs, hw, fun b μ1 q G1 H1 e1 => ?_, hxo⟩
  cases b with
  | true =>
    rw [if_pos rfl]
    exact ⟨G0, H0, μ0, G1, μ1, sd, x, _, hx.trans e1, hs.step e1, q.1 rfl, fun b' μ' q' v G' H' e' rel => hk _ _ q' v G' H' (e1.trans e') (rel.back fun a z => e1.dom a z), hxo.step e1⟩
  | false =>
    rw [if_neg (by decide)]
    exact ⟨G0, H0, μ0, G1, μ1, sd, x, _, hx.trans e1, hs.step e1, q.2 rfl, fun b' μ' q' v G' H' e' rel => hk _ _ q' v G' H' (e1.trans e') (rel.back fun a z => e1.dom a z), hxo.step e1⟩

/-! ### arguments, displays -/
def withT (r : R) (k : D → Prop) : Prop := match r with
  | .d x => k x
  | .new c => k c
  | .at _ => False
theorem withT_tree {r : R} {k : D → Prop} (h : withT r k) : ∃ y, r.tree = some y ∧ k y := by
  cases r with
  | d y => exact ⟨y, rfl, h⟩
  | «at» i => exact h.elim
  | new ds => exact ⟨_, rfl, h⟩
def wNil : WA := fun _ μ _ k => k [] μ
def wCons (wa : WE) (ws : WA) : WA := fun sd μ x k => wa sd μ x fun r μ1 => withT r fun y => ws sd μ1 x fun ys μ2 => k (y :: ys) μ2
theorem qa_nil : QA wd X [] wNil := ⟨PA.imp pa_nil fun σ H Q ⟨G0, H0, μ0, G, μ, sd, x, k, hx, hs, hw, hk, hxo⟩ => hk _ _ hw [] G H (.refl hx.rep) .nil⟩
theorem qa_cons (ha : QE wd X e wa) (hr : QA wd X es ws) (hst : starEach (e :: es) X.env = (false, eval e X.env) :: starEach es X.env := by rfl) : QA wd X (e :: es) (wCons wa ws) := by
  refine ⟨PA.imp (pa_cons ha.pe hr.pa hst) fun σ H Q ⟨G0, H0, μ0, G, μ, sd, x, k, hx, hs, hw, hk, hxo⟩ => ?_⟩
  refine ⟨G0, H0, μ0, G, μ, sd, x, _, hx, hs, hw, fun r μ1 q v G1 H1 e1 rel => ?_, hxo⟩
  obtain ⟨y, hy, q⟩ := withT_tree q
  obtain ⟨G1', e1', s1, den⟩ := keep e1 rel hy
  refine ⟨G0, H0, μ0, G1', μ1, sd, x, _, hx.trans e1', hs.step e1', q, fun ys μ2 q2 vs G2 H2 e2 hd => ?_, hxo.step e1'⟩
  exact hk _ _ q2 _ G2 H2 (e1'.trans e2) (.cons (Den.mono e2.g _ _ den) hd)
def wTup (ws : WA) : WE := fun sd μ x k => ws sd μ x fun ds μ1 => ds.length ≤ sizeLine ∧ k (.d (.tup ds)) μ1
def wLst (ws : WA) : WE := fun sd μ x k => ws sd μ x fun ds μ1 => ds.length ≤ sizeLine ∧ k (.new (.lst ds)) μ1
theorem qe_tup {x1} (h : QA wd X es ws) : QE wd X (.Tuple es x1 pos) (wTup ws) := by
  refine ⟨PE.imp (pe_tup h.pa) fun σ H Q ⟨G0, H0, μ0, G, μ, sd, x, k, hx, hs, hw, hk, hxo⟩ => ?_⟩
  refine ⟨G0, H0, μ0, G, μ, sd, x, _, hx, hs, hw, fun ds μ1 q vs G1 H1 e1 hd => ⟨by rw [hd.len]; exact q.1, fun p hp => ?_⟩, hxo⟩
  exact hk _ _ q.2 _ _ _ (e1.trans (Ext.frozen e1.rep hp)) (Den.tup (.inl (.inl upd_same)) (DenL.mono (gle_put (e1.rep.free hp).1) _ _ hd))
theorem qe_lst (h : QA wd X es ws) : QE wd X (.List es pos) (wLst ws) := by
  refine ⟨PE.imp (pe_lst h.pa) fun σ H Q ⟨G0, H0, μ0, G, μ, sd, x, k, hx, hs, hw, hk, hxo⟩ => ?_⟩
  refine ⟨G0, H0, μ0, G, μ, sd, x, _, hx, hs, hw, fun ds μ1 q vs G1 H1 e1 hd => ⟨by rw [hd.len]; exact q.1, fun p hp => ?_⟩, hxo⟩
  exact hk _ _ q.2 _ G1 _ (e1.trans (Ext.loose e1.rep hp)) ⟨p, _, rfl, e1.dom p hp, upd_same, hd, (e1.rep.free hp).1, (e1.rep.free hp).2⟩

/-! ### items -/
def oIx : OP := fun a b k => match a, b with
  | .lst ds, .int i => ∃ d, atI ds i = some d ∧ k (.d d)
  | .tup ds, .int i => ∃ d, atI ds i = some d ∧ k (.d d)
  | .str z, .int i => z.length ≤ sizeLine ∧ ∃ c, atI z.cps.toList i = some c ∧ k (.d (.str ⟨#[c]⟩))
  | _, _ => False
theorem atI_den {K : PySem.W.Frag} {cl : Cl} {G : Gh} {vs : List V} {ds : List D} {i : Int} {d : D} (h : DenL K cl G vs ds) (q : atI ds i = some d) : ∃ v, atI vs i = some v ∧ Den K cl G v d := by
  unfold atI at q ⊢
  rw [h.len]
  cases e : ixN ds.length i with
  | none => rw [e] at q; cases q
  | some j =>
    rw [e] at q
    exact h.get q
theorem ix_hold {v1 v2 : V} {d1 d2 : D} {G : Gh} {H : Hp} {μ : Mu} {k : R → Prop} {Q : VK} (r : Rep X.K wd.cl G H μ) (h1 : Den1 X.K wd.cl G H v1 d1) (h2 : Den1 X.K wd.cl G H v2 d2) (ho : oIx d1 d2 k)
    (hk : ∀ rr, k rr → ∀ v G' H', Ext X.K wd.cl G H μ G' H' μ → RelN X.K wd.cl H G' H' μ v rr → Q v H') : rIx X.K v1 v2 H Q := by
  cases d1 <;> try exact ho.elim
  · cases d2 <;> try exact ho.elim
    cases h1; cases h2
    obtain ⟨hz, c, hc, q⟩ := ho
    exact .inr (.inr ⟨_, _, c, rfl, rfl, hz, hc, hk _ q _ G H (.refl r) (.str _)⟩)
  · cases d2 <;> try exact ho.elim
    obtain ⟨a, vs, rfl, q1, q2⟩ := h1
    cases h2
    obtain ⟨d, hd, q⟩ := ho
    obtain ⟨v, hv, den⟩ := atI_den q2 hd
    exact .inl ⟨a, vs, _, v, rfl, rfl, q1, hv, hk _ q _ G H (.refl r) den⟩
  · cases d2 <;> try exact ho.elim
    cases h1 with
    | @tup a vs _ q1 q2 =>
    cases h2
    obtain ⟨d, hd, q⟩ := ho
    obtain ⟨v, hv, den⟩ := atI_den q2 hd
    exact .inr (.inl ⟨a, vs, _, v, rfl, rfl, sqT_up r.sub q1, hv, hk _ q _ G H (.refl r) den⟩)
theorem qe_ix (ha : QE wd X a wa) (hb : QE wd X b wb) (hs : PlainIx b := by intro _ _; rfl) : QE wd X (.Subscript a b pos) (wBin oIx wa wb) :=
  ⟨PE.imp (pe_ix ix_seq ha.pe hb.pe hs) fun σ H Q h => two (f := getItem) ha hb (fun v1 v2 d1 d2 G H μ k Q r h1 h2 ho hk => ix_hold r h1 h2 ho hk) h⟩

/-! ### slices -/
abbrev WO := SD → Mu → XT → (Option Int → Mu → Prop) → Prop
def rdO (K : PySem.W.Frag) (wd : Wd) (w : WO) : TO := fun σ H Q => ∃ G0 H0 μ0 G μ sd x k, Ext K wd.cl G0 H0 μ0 G H μ ∧ Slots K wd H0 G H μ σ sd ∧ w sd μ x k ∧
  (∀ b μ', k b μ' → ∀ G' H', Ext K wd.cl G H μ G' H' μ' → Q b H') ∧ XOk K wd G H μ σ x
structure QO (wd : Wd) (X : Cx) (e : Option Expr) (w : WO) : Prop where
  po : PO X e (rdO X.K wd w)
theorem PO.imp {e : Option Expr} {t t' : TO} (h : PO X e t) (q : ∀ σ H Q, t' σ H Q → t σ H Q) : PO X e t' := ⟨fun pins s σ H Q I r => h.run pins s σ H Q I (q σ H Q r)⟩
def wNo : WO := fun _ μ _ k => k none μ
def wPart (w : WE) : WO := fun sd μ x k => w sd μ x fun r μ' => match r with
  | .d (.int i) => k (some i) μ'
  | _ => False
theorem qo_none : QO wd X none wNo := ⟨PO.imp po_none fun σ H Q ⟨G0, H0, μ0, G, μ, sd, x, k, hx, hs, hw, hk, hxo⟩ => hk _ _ hw G H (.refl hx.rep)⟩
theorem qo_some (h : QE wd X e w) : QO wd X (some e) (wPart w) := by
  refine ⟨PO.imp (po_some h.pe) fun σ H Q ⟨G0, H0, μ0, G, μ, sd, x, k, hx, hs, hw, hk, hxo⟩ => ?_⟩
  refine ⟨G0, H0, μ0, G, μ, sd, x, _, hx, hs, hw, fun r μ1 q v G1 H1 e1 rel => ?_, hxo⟩
  cases r with
  | d y =>
    cases y <;> try exact q.elim
    cases rel
    exact ⟨_, rfl, hk _ _ q G1 H1 e1⟩
  | «at» i => exact q.elim
  | new ds => exact q.elim
def cutL {α : Type} (xs : List α) (lo hi : Option Int) : List α := (xs.drop (HT.sIx xs.length 0 lo)).take (HT.sIx xs.length xs.length hi - HT.sIx xs.length 0 lo)
def oSl (a : D) (lo hi : Option Int) (k : R → Prop) : Prop := match a with
  | .lst ds => k (.new (.lst (cutL ds lo hi)))
  | .tup ds => k (.d (.tup (cutL ds lo hi)))
  | .str z => z.length ≤ sizeLine ∧ k (.d (.str (Txt.slice z lo hi)))
  | _ => False
def wSl (we : WE) (wl wh : WO) : WE := fun sd μ x k => we sd μ x fun r μ1 => wl sd μ1 x fun lo μ2 => wh sd μ2 x fun hi μ3 => oSl (vw μ3 sd r) lo hi fun r => k r μ3
theorem cut_den {K : PySem.W.Frag} {cl : Cl} {G : Gh} {vs : List V} {ds : List D} (h : DenL K cl G vs ds) (lo hi : Option Int) : DenL K cl G (cutV vs lo hi) (cutL ds lo hi) := by
  unfold cutV cutL
  rw [h.len]
  exact (h.drop _).take _
end
end TL
/-! TL: slices, fields, built-ins by name -/
namespace TL
open PySem PySem.Spec L2

section
variable {X : Cx} {wd : Wd} {e a b c : Expr} {es rest : List Expr} {w wa wb wc : WE} {wt wu : WT} {ws : WA} {pos : Pos}

theorem qe_sl {lo hi : Option Expr} {wl wh : WO} {p2 : Pos} (he : QE wd X e w) (hl : QO wd X lo wl) (hh : QO wd X hi wh) : QE wd X (.Subscript e (.Slice lo hi none p2) pos) (wSl w wl wh) := by
  refine ⟨PE.imp (pe_slice (sl_list.or (sl_tupA.or C8.sl_txt)) he.pe hl.po hh.po) fun σ H Q ⟨G0, H0, μ0, G, μ, sd, x, k, hx, hs, hw, hk, hxo⟩ => ?_⟩
  refine ⟨G0, H0, μ0, G, μ, sd, x, _, hx, hs, hw, fun r1 μ1 q1 v1 G1 H1 e1 rel1 => ?_, hxo⟩
  obtain ⟨G1', e1', s1, hold1⟩ := hold hs e1 rel1
  refine ⟨G0, H0, μ0, G1', μ1, sd, x, _, hx.trans e1', hs.step e1', q1, fun l μ2 q2 G2 H2 e2 => ?_, hxo.step e1'⟩
  refine ⟨G0, H0, μ0, G2, μ2, sd, x, _, (hx.trans e1').trans e2, (hs.step e1').step e2, q2, fun u μ3 q3 G3 H3 e3 => ?_, (hxo.step e1').step e2⟩
  have h1 := hold1 _ _ _ (e2.trans e3)
  have et := e1'.trans (e2.trans e3)
  have hk' : ∀ (rr : R), (fun r => k r μ3) rr → ∀ v G' H', Ext X.K wd.cl G3 H3 μ3 G' H' μ3 → RelN X.K wd.cl H3 G' H' μ3 v rr → Q v H' := fun rr kr v G' H' e4 rel => hk _ _ kr v G' H' (et.trans e4) (rel.back fun a z => et.dom a z).rel
  revert q3 h1
  cases vw μ3 sd r1 <;> intro q3 h1 <;> try exact q3.elim
  · cases h1
    exact .inr (.inr ⟨_, rfl, q3.1, hk' _ q3.2 _ G3 H3 (.refl et.rep) (Den.str _)⟩)
  · obtain ⟨a, vs, rfl, p1, p2⟩ := h1
    exact .inl ⟨a, vs, rfl, p1, new_lst et.rep (cut_den p2 l u) hk' q3⟩
  · rename_i ds
    cases h1 with
    | @tup a vs _ p1 p2 =>
    refine .inr (.inl ⟨a, vs, rfl, sqT_up et.rep.sub p1, fun hw => ?_, fun _ => new_tup et.rep (cut_den p2 l u) hk' q3⟩)
    refine hk' _ q3 _ G3 H3 (.refl et.rep) (Den.tup p1 ?_)
    have : cutL ds l u = ds := by
      unfold cutL
      rw [p2.len] at hw
      rw [hw.1, hw.2]
      simp
    rw [this]
    exact p2

/-! ### fields -/
def wFld (cs : List Nat) (f : Nat) (we : WE) : WE := fun sd μ x k => we sd μ x fun r μ1 => match r with
  | .d (.obj c fs) => cs.elem c = true ∧ ∃ d, fs.lookup f = some d ∧ k (.d d) μ1
  | .d (.ref a) => ∃ c fs d, μ1[a]? = some (.ins c fs) ∧ cs.elem c = true ∧ fs.lookup f = some d ∧ k (.d d) μ1
  | _ => False
def FldT (K : PySem.W.Frag) (cl : Cl) (cs : List Nat) (f : Nat) : Prop := ∀ c, cs.elem c = true → ∀ C, cl c = some C → Cls K C ∧ NoAttr K C (fnm f)
theorem qe_fld {cs : List Nat} {f : Nat} {n : Str} (hT : FldT X.K wd.cl cs f) (he : QE wd X e w) (hf : f < 32 := by decide) (hn : fnm f = n := by rfl) (hb : attributeBase e n X.env (eval e X.env) = eval e X.env := by rfl) :
    QE wd X (.Attribute e n pos) (wFld cs f w) := by
  subst hn
  refine ⟨PE.imp (pe_fld he.pe hb) fun σ H Q ⟨G0, H0, μ0, G, μ, sd, x, k, hx, hs, hw, hk, hxo⟩ => ?_⟩
  refine ⟨G0, H0, μ0, G, μ, sd, x, _, hx, hs, hw, fun r μ1 q v G1 H1 e1 rel => ?_, hxo⟩
  cases r with
  | d y =>
    cases y <;> try exact q.elim
    · rename_i c fs
      obtain ⟨hc, d, hd, q⟩ := q
      cases rel with
      | @obj a C dx _ vs _ h1 h2 h3 =>
      obtain ⟨v, hv, den⟩ := h3.look hf hd
      obtain ⟨t1, t2⟩ := hT c hc C h1
      exact ⟨a, C, dx, vs, v, rfl, e1.rep.sub _ _ h2, t1, t2, hv, hk _ _ q _ G1 H1 e1 den⟩
    · rename_i a
      obtain ⟨c, fs, d, hm, hc, hd, q⟩ := q
      cases rel with
      | @ref a' _ hn =>
      obtain ⟨C, dx, vs, n1, ho, n2⟩ := e1.rep.ins hn hm
      obtain ⟨v, hv, den⟩ := n2.look hf hd
      obtain ⟨t1, t2⟩ := hT c hc _ n1
      exact ⟨a', _, _, _, v, rfl, ho, t1, t2, hv, hk _ _ q _ G1 H1 e1 den⟩
  | «at» i => exact q.elim
  | new ds => exact q.elim

/-! ### built-ins by name -/
def DenL1 (K : PySem.W.Frag) (cl : Cl) (G : Gh) (H : Hp) : List V → List D → Prop
  | [], [] => True
  | v :: vs, d :: ds => Den1 K cl G H v d ∧ DenL1 K cl G H vs ds
  | _, _ => False
def rdB (K : PySem.W.Frag) (wd : Wd) (w : WA) : TA := fun σ H Q => ∃ G0 H0 μ0 G μ sd x k, Ext K wd.cl G0 H0 μ0 G H μ ∧ Slots K wd H0 G H μ σ sd ∧ w sd μ x k ∧
  (∀ ds μ', k ds μ' → ∀ vs G' H', Ext K wd.cl G H μ G' H' μ' → DenL1 K wd.cl G' H' vs ds → Q vs H') ∧ XOk K wd G H μ σ x
structure QB (wd : Wd) (X : Cx) (es : List Expr) (w : WA) : Prop where
  pa : PA X es (rdB X.K wd w)
def wConsV (wa : WE) (ws : WA) : WA := fun sd μ x k => wa sd μ x fun r μ1 => ws sd μ1 x fun ys μ2 => k (vw μ2 sd r :: ys) μ2
theorem qb_nil : QB wd X [] wNil := ⟨PA.imp pa_nil fun σ H Q ⟨G0, H0, μ0, G, μ, sd, x, k, hx, hs, hw, hk, hxo⟩ => hk _ _ hw [] G H (.refl hx.rep) trivial⟩
theorem qb_cons (ha : QE wd X e wa) (hr : QB wd X es ws) (hst : starEach (e :: es) X.env = (false, eval e X.env) :: starEach es X.env := by rfl) : QB wd X (e :: es) (wConsV wa ws) := by
  refine ⟨PA.imp (pa_cons ha.pe hr.pa hst) fun σ H Q ⟨G0, H0, μ0, G, μ, sd, x, k, hx, hs, hw, hk, hxo⟩ => ?_⟩
  refine ⟨G0, H0, μ0, G, μ, sd, x, _, hx, hs, hw, fun r μ1 q v G1 H1 e1 rel => ?_, hxo⟩
  obtain ⟨G1', e1', s1, hold1⟩ := hold hs e1 rel
  refine ⟨G0, H0, μ0, G1', μ1, sd, x, _, hx.trans e1', hs.step e1', q, fun ys μ2 q2 vs G2 H2 e2 hd => ?_, hxo.step e1'⟩
  exact hk _ _ q2 _ G2 H2 (e1'.trans e2) ⟨hold1 _ _ _ e2, hd⟩
abbrev BP := List D → (R → Prop) → Prop
structure CallT (wd : Wd) (X : Cx) (f : Value) (op : BP) : Prop where
  ok : ∃ r, CallR X f r ∧ ∀ (vs : List V) (ds : List D) (G : Gh) (H : Hp) (μ : Mu) (k : R → Prop) (Q : VK), Rep X.K wd.cl G H μ → DenL1 X.K wd.cl G H vs ds → op ds k →
    (∀ rr, k rr → ∀ v G' H', Ext X.K wd.cl G H μ G' H' μ → RelN X.K wd.cl H G' H' μ v rr → Q v H') → r vs H Q
def wB (op : BP) (ws : WA) : WE := fun sd μ x k => ws sd μ x fun ds μ1 => op ds fun r => k r μ1
theorem callB_of {op : BP} {r : List V → Hp → VK → Prop}
    (ho : ∀ (vs : List V) (ds : List D) (G : Gh) (H : Hp) (μ : Mu) (k : R → Prop) (Q : VK), Rep X.K wd.cl G H μ → DenL1 X.K wd.cl G H vs ds → op ds k →
    (∀ rr, k rr → ∀ v G' H', Ext X.K wd.cl G H μ G' H' μ → RelN X.K wd.cl H G' H' μ v rr → Q v H') → r vs H Q) {σ : L2.St} {H : Hp} {Q : VK} (h : rdE X.K wd (wB op ws) σ H Q) :
    rdB X.K wd ws σ H fun vs H1 => r vs H1 Q := by
  obtain ⟨G0, H0, μ0, G, μ, sd, x, k, hx, hs, hw, hk, hxo⟩ := h
  refine ⟨G0, H0, μ0, G, μ, sd, x, _, hx, hs, hw, fun ds μ1 q vs G1 H1 e1 hd => ?_, hxo⟩
  exact ho vs ds G1 H1 μ1 _ Q e1.rep hd q fun rr kr v G' H' e2 rel => hk _ _ kr v G' H' (e1.trans e2) (rel.back fun a z => e1.dom a z).rel
theorem qe_blt {id : String} {x : Str} {p : Pos} {op : BP} (hc : CallT wd X (.builtin id) op) (hm : X.mg x = none) (ha : QB wd X (e :: es) ws) (hg : Gl X x := by rfl) (hv : bootBuiltins x = some (.builtin id) := by decide +kernel) (hn : x ≠ "__name__" := by decide) (hdb : (x == ("__debug__" : Str)) = false := by decide)
    (he : starEach (e :: es) X.env = (false, eval e X.env) :: starEach es X.env := by rfl) (hpl : (backTo pos (starEach es X.env)).any (·.1) = false := by rfl) :
    QE wd X (.Call (.Name x p) (e :: es) [] pos) (wB op ws) := by
  obtain ⟨r, hr, hq⟩ := hc.ok
  exact ⟨PE.imp (pe_callB hr hg hm hv ha.pa hn hdb he hpl) fun σ H Q h => callB_of hq h⟩
theorem qe_bty {id : String} {x : Str} {p : Pos} {op : BP} (hc : CallT wd X (.type id) op) (hm : X.mg x = none) (ha : QB wd X (e :: es) ws) (hg : Gl X x := by rfl) (hv : bootBuiltins x = some (.type id) := by decide +kernel) (hn : x ≠ "__name__" := by decide) (hdb : (x == ("__debug__" : Str)) = false := by decide)
    (he : starEach (e :: es) X.env = (false, eval e X.env) :: starEach es X.env := by rfl) (hpl : (backTo pos (starEach es X.env)).any (·.1) = false := by rfl) :
    QE wd X (.Call (.Name x p) (e :: es) [] pos) (wB op ws) := by
  obtain ⟨r, hr, hq⟩ := hc.ok
  exact ⟨PE.imp (pe_callTy hr hg hm hv ha.pa hn hdb he hpl) fun σ H Q h => callB_of hq h⟩
theorem den1_1 {K : PySem.W.Frag} {cl : Cl} {G : Gh} {H : Hp} {vs : List V} {d : D} (h : DenL1 K cl G H vs [d]) : ∃ v, vs = [v] ∧ Den1 K cl G H v d := by
  match vs, h with
  | [v], h => exact ⟨v, rfl, h.1⟩
  | [], h => exact h.elim
  | _ :: _ :: _, h => exact h.2.elim
theorem den1_2 {K : PySem.W.Frag} {cl : Cl} {G : Gh} {H : Hp} {vs : List V} {d f : D} (h : DenL1 K cl G H vs [d, f]) : ∃ v u, vs = [v, u] ∧ Den1 K cl G H v d ∧ Den1 K cl G H u f := by
  match vs, h with
  | [v, u], h => exact ⟨v, u, rfl, h.1, h.2.1⟩
  | [], h => exact h.elim
  | [_], h => exact h.2.elim
  | _ :: _ :: _ :: _, h => exact h.2.2.elim
def bLen : BP := fun ds k => match ds with
  | [.lst ds] => k (.d (.int ds.length))
  | [.tup ds] => k (.d (.int ds.length))
  | [.str z] => z.length ≤ sizeLine ∧ k (.d (.int z.length))
  | _ => False
theorem ct_len : CallT wd X (.builtin "len") bLen := by
  refine ⟨_, call_len_seq.or call_len_str, fun vs ds G H μ k Q r hd ho hk => ?_⟩
  match ds, ho with
  | [.lst ds], ho =>
    obtain ⟨v, rfl, h1⟩ := den1_1 hd
    obtain ⟨a, us, rfl, q1, q2⟩ := h1
    refine .inl ⟨a, us, rfl, .inl q1, ?_⟩
    rw [q2.len]
    exact hk _ ho _ G H (.refl r) (Den.int _)
  | [.tup ds], ho =>
    obtain ⟨v, rfl, h1⟩ := den1_1 hd
    cases h1 with
    | @tup a us _ q1 q2 =>
    refine .inl ⟨a, us, rfl, .inr (sqT_up r.sub q1), ?_⟩
    rw [q2.len]
    exact hk _ ho _ G H (.refl r) (Den.int _)
  | [.str z], ho =>
    obtain ⟨v, rfl, h1⟩ := den1_1 hd
    cases h1
    exact .inr ⟨z, rfl, ho.1, hk _ ho.2 _ G H (.refl r) (Den.int _)⟩
def bList : BP := fun ds k => match ds with
  | [.lst ds] => k (.new (.lst ds))
  | [.tup ds] => k (.new (.lst ds))
  | _ => False
theorem ct_list : CallT wd X (.type "list") bList := by
  refine ⟨_, call_list_of, fun vs ds G H μ k Q r hd ho hk => ?_⟩
  match ds, ho with
  | [.lst ds], ho =>
    obtain ⟨v, rfl, h1⟩ := den1_1 hd
    obtain ⟨a, us, rfl, q1, q2⟩ := h1
    exact ⟨a, us, rfl, .inl q1, new_lst r q2 hk ho⟩
  | [.tup ds], ho =>
    obtain ⟨v, rfl, h1⟩ := den1_1 hd
    cases h1 with
    | @tup a us _ q1 q2 => exact ⟨a, us, rfl, .inr (sqT_up r.sub q1), new_lst r q2 hk ho⟩
def bTuple : BP := fun ds k => match ds with
  | [.lst ds] => k (.d (.tup ds))
  | [.tup ds] => k (.d (.tup ds))
  | _ => False
theorem ct_tuple : CallT wd X (.type "tuple") bTuple := by
  refine ⟨_, call_tuple_of, fun vs ds G H μ k Q r hd ho hk => ?_⟩
  match ds, ho with
  | [.lst ds], ho =>
    obtain ⟨v, rfl, h1⟩ := den1_1 hd
    obtain ⟨a, us, rfl, q1, q2⟩ := h1
    exact ⟨a, us, rfl, .inl ⟨q1, new_tup r q2 hk ho⟩⟩
  | [.tup ds], ho =>
    obtain ⟨v, rfl, h1⟩ := den1_1 hd
    cases h1 with
    | @tup a us _ q1 q2 => exact ⟨a, us, rfl, .inr ⟨sqT_up r.sub q1, hk _ ho _ G H (.refl r) (Den.tup q1 q2)⟩⟩
def bAbs : BP := fun ds k => match ds with
  | [.int i] => k (.d (.int (if i < 0 then -i else i)))
  | _ => False
theorem ct_abs : CallT wd X (.builtin "abs") bAbs := by
  refine ⟨_, call_abs, fun vs ds G H μ k Q r hd ho hk => ?_⟩
  match ds, ho with
  | [.int i], ho =>
    obtain ⟨v, rfl, h1⟩ := den1_1 hd
    cases h1
    exact ⟨i, rfl, hk _ ho _ G H (.refl r) (Den.int _)⟩
/-- max, min: of two; of a list -/
def bMax : BP := fun ds k => match ds with
  | [.int i, .int j] => k (.d (.int (if j > i then j else i)))
  | [.lst xs] => ∃ ns : List Int, xs = ns.map D.int ∧ 0 < ns.length ∧ ∀ m, m ∈ ns → (∀ y, y ∈ ns → y ≤ m) → k (.d (.int m))
  | _ => False
theorem ct_max (hc : X.calm = true) : CallT wd X (.builtin "max") bMax := by
  refine ⟨_, (call_max2 hc).or (cr_max hc), fun vs ds G H μ k Q r hd ho hk => ?_⟩
  match ds, ho with
  | [.int i, .int j], ho =>
    obtain ⟨v, u, rfl, h1, h2⟩ := den1_2 hd
    cases h1; cases h2
    exact .inl ⟨i, j, rfl, hk _ ho _ G H (.refl r) (Den.int _)⟩
  | [.lst xs], ho =>
    obtain ⟨v, rfl, h1⟩ := den1_1 hd
    obtain ⟨a, us, rfl, q1, q2⟩ := h1
    obtain ⟨ns, rfl, h0, h⟩ := ho
    have := DenL.of_ints q2
    subst this
    exact .inr ⟨a, ns, rfl, q1, h0, fun m h1 h2 => hk _ (h m h1 h2) _ G H (.refl r) (Den.int _)⟩
def bMin : BP := fun ds k => match ds with
  | [.int i, .int j] => k (.d (.int (if j < i then j else i)))
  | [.lst xs] => ∃ ns : List Int, xs = ns.map D.int ∧ 0 < ns.length ∧ ∀ m, m ∈ ns → (∀ y, y ∈ ns → m ≤ y) → k (.d (.int m))
  | _ => False
theorem ct_min (hc : X.calm = true) : CallT wd X (.builtin "min") bMin := by
  refine ⟨_, (call_min2 hc).or (cr_min hc), fun vs ds G H μ k Q r hd ho hk => ?_⟩
  match ds, ho with
  | [.int i, .int j], ho =>
    obtain ⟨v, u, rfl, h1, h2⟩ := den1_2 hd
    cases h1; cases h2
    exact .inl ⟨i, j, rfl, hk _ ho _ G H (.refl r) (Den.int _)⟩
  | [.lst xs], ho =>
    obtain ⟨v, rfl, h1⟩ := den1_1 hd
    obtain ⟨a, us, rfl, q1, q2⟩ := h1
    obtain ⟨ns, rfl, h0, h⟩ := ho
    have := DenL.of_ints q2
    subst this
    exact .inr ⟨a, ns, rfl, q1, h0, fun m h1 h2 => hk _ (h m h1 h2) _ G H (.refl r) (Den.int _)⟩
def bSum : BP := fun ds k => match ds with
  | [.lst xs] => ∃ ns : List Int, xs = ns.map D.int ∧ k (.d (.int ns.sum))
  | _ => False
theorem ct_sum (hc : X.calm = true) : CallT wd X (.builtin "sum") bSum := by
  refine ⟨_, cr_sum hc, fun vs ds G H μ k Q r hd ho hk => ?_⟩
  match ds, ho with
  | [.lst xs], ho =>
    obtain ⟨v, rfl, h1⟩ := den1_1 hd
    obtain ⟨a, us, rfl, q1, q2⟩ := h1
    obtain ⟨ns, rfl, h⟩ := ho
    have := DenL.of_ints q2
    subst this
    exact ⟨a, ns, rfl, q1, hk _ h _ G H (.refl r) (Den.int _)⟩
def bAll : BP := fun ds k => match ds with
  | [.lst xs] => ∃ ns : List Bool, xs = ns.map D.bl ∧ k (.d (.bl (ns.all id)))
  | _ => False
theorem ct_all (hc : X.calm = true) : CallT wd X (.builtin "all") bAll := by
  refine ⟨_, cr_all hc, fun vs ds G H μ k Q r hd ho hk => ?_⟩
  match ds, ho with
  | [.lst xs], ho =>
    obtain ⟨v, rfl, h1⟩ := den1_1 hd
    obtain ⟨a, us, rfl, q1, q2⟩ := h1
    obtain ⟨ns, rfl, h⟩ := ho
    have := DenL.of_bls q2
    subst this
    exact ⟨a, ns, rfl, q1, hk _ h _ G H (.refl r) (Den.bl _)⟩
/-- sorted, of ints -/
def bSortedI : BP := fun ds k => match ds with
  | [.lst xs] => ∃ ns : List Int, xs = ns.map D.int ∧ ∀ ns' : List Int, ns'.Perm ns → ns'.Pairwise (· ≤ ·) → k (.new (.lst (ns'.map D.int)))
  | _ => False
theorem ct_sortedI : CallT wd X (.builtin "sorted") bSortedI := by
  refine ⟨_, cr_sortedI, fun vs ds G H μ k Q r hd ho hk => ?_⟩
  match ds, ho with
  | [.lst xs], ho =>
    obtain ⟨v, rfl, h1⟩ := den1_1 hd
    obtain ⟨a, us, rfl, q1, q2⟩ := h1
    obtain ⟨ns, rfl, h⟩ := ho
    have := DenL.of_ints q2
    subst this
    exact ⟨a, ns, rfl, q1, fun ns' p hp hs hf => new_lst r (DenL.ints ns') hk (h ns' hp hs) p hf⟩
def bInt : BP := fun ds k => match ds with
  | [.int i] => k (.d (.int i))
  | [.bl b] => k (.d (.int (if b then 1 else 0)))
  | _ => False
theorem ct_int : CallT wd X (.type "int") bInt := by
  refine ⟨_, call_int1, fun vs ds G H μ k Q r hd ho hk => ?_⟩
  match ds, ho with
  | [.int i], ho =>
    obtain ⟨v, rfl, h1⟩ := den1_1 hd
    cases h1
    exact .inl ⟨i, rfl, hk _ ho _ G H (.refl r) (Den.int _)⟩
  | [.bl i], ho =>
    obtain ⟨v, rfl, h1⟩ := den1_1 hd
    cases h1
    exact .inr ⟨i, rfl, hk _ ho _ G H (.refl r) (Den.int _)⟩
def bStr : BP := fun ds k => match ds with
  | [.int i] => i.natAbs.log2 < 1920 ∧ k (.d (.str (toString i)))
  | _ => False
theorem ct_str : CallT wd X (.type "str") bStr := by
  refine ⟨_, call_str_int, fun vs ds G H μ k Q r hd ho hk => ?_⟩
  match ds, ho with
  | [.int i], ho =>
    obtain ⟨v, rfl, h1⟩ := den1_1 hd
    cases h1
    exact ⟨i, rfl, ho.1, hk _ ho.2 _ G H (.refl r) (Den.str _)⟩
def bDivmod : BP := fun ds k => match ds with
  | [.int i, .int j] => CDiv i j ∧ k (.d (.tup [.int (i / j), .int (i % j)]))
  | _ => False
theorem ct_divmod : CallT wd X (.builtin "divmod") bDivmod := by
  refine ⟨_, call_divmod, fun vs ds G H μ k Q r hd ho hk => ?_⟩
  match ds, ho with
  | [.int i, .int j], ho =>
    obtain ⟨v, u, rfl, h1, h2⟩ := den1_2 hd
    cases h1; cases h2
    exact ⟨i, j, rfl, ho.1, new_tup r (.cons (.int _) (.cons (.int _) .nil)) hk ho.2⟩
/-! ### isinstance with a built-in type -/
inductive Ty where | int | bool | list | tuple | str
  deriving DecidableEq
def Ty.nm : Ty → String
  | .int => "int" | .bool => "bool" | .list => "list" | .tuple => "tuple" | .str => "str"
def isTy : D → Ty → Option Bool
  | .int _, t => some (decide (t = .int))
  | .bl _, t => some (decide (t = .int ∨ t = .bool))
  | .lst _, t => some (decide (t = .list))
  | .tup _, t => some (decide (t = .tuple))
  | .str _, t => some (decide (t = .str))
  | .non, _ => some false
  | _, _ => none
def oIsi (t : Ty) : UP := fun a k => ∃ b, isTy a t = some b ∧ k (.d (.bl b))
theorem kits (t : Ty) : kitB "int" t.nm = some (decide (t = .int)) ∧ kitB "bool" t.nm = some (decide (t = .int ∨ t = .bool)) ∧ kitB "list" t.nm = some (decide (t = .list)) ∧ kitB "tuple" t.nm = some (decide (t = .tuple)) ∧
    kitB "str" t.nm = some (decide (t = .str)) ∧ kitB "NoneType" t.nm = some false := by
  cases t <;> decide +kernel
theorem isTy_ok {G : Gh} {H : Hp} {v : V} {d : D} {t : Ty} {b : Bool} (s : Same G.fz H) (h : Den1 X.K wd.cl G H v d) (e : isTy d t = some b) : ∃ T, TyX X.K H v T ∧ PySem.W.kitOne X.K T (.type t.nm) = some b := by
  obtain ⟨k1, k2, k3, k4, k5, k6⟩ := kits t
  cases d with
  | non => cases h; cases e; exact ⟨_, .base .non, kit_ty k6⟩
  | bl x => cases h; cases e; exact ⟨_, .base (.bl _), kit_ty k2⟩
  | int x => cases h; cases e; exact ⟨_, .base (.int _), kit_ty k1⟩
  | str x => cases h; cases e; exact ⟨_, .base (.str _), kit_ty k5⟩
  | lst ds =>
    obtain ⟨a, vs, rfl, q1, q2⟩ := h
    cases e
    rcases q1 with (q | ⟨o, q⟩) | ⟨o, its, n, q, c, _⟩
    · exact ⟨_, .base (.lst q), kit_ty k3⟩
    · exact ⟨_, .base (.frz q), kit_ty k3⟩
    · exact ⟨_, .kList q c, kit_ty k3⟩
  | tup ds =>
    cases e
    cases h with
    | tup q1 q2 =>
    rcases q1 with (q | ⟨o, q⟩) | ⟨o, its, n, q, c, _⟩
    · exact ⟨_, .base (.tup (s _ _ q)), kit_ty k4⟩
    · exact ⟨_, .fTuple (s _ _ q), kit_ty k4⟩
    · exact ⟨_, .kTuple q c, kit_ty k4⟩
  | dic t ds => cases e
  | obj c fs => cases e
  | ref a => cases e
theorem qe_isi {x T : Str} {p p2 : Pos} {t : Ty} (ha : QE wd X a wa) (hm : X.mg x = none) (hmT : X.mg T = none) (hg : Gl X x := by rfl) (hgT : Gl X T := by rfl) (hv : bootBuiltins x = some (.builtin "isinstance") := by decide +kernel)
    (hT : bootBuiltins T = some (.type t.nm) := by decide +kernel) (hn : x ≠ "__name__" := by decide) (hdb : (x == ("__debug__" : Str)) = false := by decide) (hnT : T ≠ "__name__" := by decide) (hdT : (T == ("__debug__" : Str)) = false := by decide)
    (he1 : starEach [a, .Name T p2] X.env = (false, eval a X.env) :: starEach [.Name T p2] X.env := by rfl) (he2 : starEach [.Name T p2] X.env = (false, eval (.Name T p2) X.env) :: starEach [] X.env := by rfl)
    (hpl : (backTo pos (starEach [.Name T p2] X.env)).any (·.1) = false := by rfl) :
    QE wd X (.Call (.Name x p) [a, .Name T p2] [] pos) (wUn (oIsi t) wa) := by
  refine ⟨PE.imp (pe_callB call_isi hg hm hv (pa_cons ha.pe (pa_cons (pe_bltn hgT hmT hT (v := .ty t.nm) rfl hnT hdT) pa_nil he2) he1) hn hdb he1 hpl) fun σ H Q h => ?_⟩
  refine one (r := fun v H Q => rIsi X.K [v, .ty t.nm] H Q) ha (fun v1 d1 G H μ k Q r h1 ho hk => ?_) h
  obtain ⟨b, e, ho⟩ := ho
  obtain ⟨T, t1, t2⟩ := isTy_ok r.sub h1 e
  exact ⟨v1, _, T, _, b, rfl, .ty _, t1, t2, hk _ ho _ G H (.refl r) (Den.bl _)⟩
end
end TL
/-! TL: statements, loops, comprehensions -/
namespace TL
open PySem PySem.Spec L2

section
variable {K : PySem.W.Frag} {wd : Wd} {cl : Cl} {G G1 G2 : Gh} {H0 H H1 H2 : Hp} {μ μ1 μ2 : Mu} {σ : L2.St} {sd : SD}
theorem Slots.setF {i : Nat} {v : V} {d : D} (h : Slots K wd H0 G H μ σ sd) (hd : Den K wd.cl G v d) : Slots K wd H0 G H μ (σ.set i (some v)) (sd.set i (some (.fz d))) := by
  refine ⟨by rw [List.length_set, List.length_set]; exact h.len, fun j s q => ?_, fun j k v' ds es hjk q1 q2 q3 q4 => ?_⟩
  · by_cases e : i = j
    · subst e
      have hi : i < sd.length := by
        have := (List.getElem?_eq_some_iff.mp q).1
        rwa [List.length_set] at this
      rw [List.getElem?_set_self hi] at q
      cases q
      exact ⟨v, List.getElem?_set_self (by rw [← h.len]; exact hi), hd⟩
    · rw [List.getElem?_set_ne e] at q
      obtain ⟨u, q1, q2⟩ := h.at_ j s q
      exact ⟨u, by rw [List.getElem?_set_ne e]; exact q1, q2⟩
  · have ne : ∀ {j : Nat} {ds : D}, (sd.set i (some (.fz d)))[j]? = some (some (.own ds)) → i ≠ j := fun {j ds} q e => by
      subst e
      have hi : i < sd.length := by
        have := (List.getElem?_eq_some_iff.mp q).1
        rwa [List.length_set] at this
      rw [List.getElem?_set_self hi] at q
      cases q
    have e1 := ne q1
    have e2 := ne q2
    rw [List.getElem?_set_ne e1] at q1 q3
    rw [List.getElem?_set_ne e2] at q2 q4
    exact h.sep j k v' ds es hjk q1 q2 q3 q4
theorem Slots.setN {i : Nat} (h : Slots K wd H0 G H μ σ sd) : Slots K wd H0 G H μ (σ.set i none) (sd.set i none) := by
  have ne : ∀ {j : Nat} {s : SV}, (sd.set i none)[j]? = some (some s) → i ≠ j := fun {j s} q e => by
    subst e
    have hi : i < sd.length := by
      have := (List.getElem?_eq_some_iff.mp q).1
      rwa [List.length_set] at this
    rw [List.getElem?_set_self hi] at q
    cases q
  refine ⟨by rw [List.length_set, List.length_set]; exact h.len, fun j s q => ?_, fun j k v' ds es hjk q1 q2 q3 q4 => ?_⟩
  · have e := ne q
    rw [List.getElem?_set_ne e] at q
    obtain ⟨u, q1, q2⟩ := h.at_ j s q
    exact ⟨u, by rw [List.getElem?_set_ne e]; exact q1, q2⟩
  · have e1 := ne q1
    have e2 := ne q2
    rw [List.getElem?_set_ne e1] at q1 q3
    rw [List.getElem?_set_ne e2] at q2 q4
    exact h.sep j k v' ds es hjk q1 q2 q3 q4
/-- a slot takes a list of its own -/
theorem Slots.setO {i : Nat} {p : Addr} {vs : HO} {ds : D} (h : Slots K wd H0 G H μ σ sd) (hp : H p = some vs) (hd : CtOk K wd.cl G p vs ds) (hg : G.fz p = none) (hm : p ∉ G.ρ) (h0 : H0 p = none)
    (hne : ∀ (j : Nat) (es : D), sd[j]? = some (some (.own es)) → σ[j]? ≠ some (some (.ref p))) : Slots K wd H0 G H μ (σ.set i (some (.ref p))) (sd.set i (some (.own ds))) := by
  have self : ∀ {s : Option SV}, (sd.set i (some (.own ds)))[i]? = some s → i < sd.length := fun {s} q => by
    have := (List.getElem?_eq_some_iff.mp q).1
    rwa [List.length_set] at this
  refine ⟨by rw [List.length_set, List.length_set]; exact h.len, fun j s q => ?_, fun j k v' fs es hjk q1 q2 q3 q4 => ?_⟩
  · by_cases e : i = j
    · subst e
      have hi := self q
      rw [List.getElem?_set_self hi] at q
      cases q
      exact ⟨_, List.getElem?_set_self (by rw [← h.len]; exact hi), p, vs, rfl, hp, hd, hg, hm, h0⟩
    · rw [List.getElem?_set_ne e] at q
      obtain ⟨u, q1, q2⟩ := h.at_ j s q
      exact ⟨u, by rw [List.getElem?_set_ne e]; exact q1, q2⟩
  · by_cases e1 : i = j
    · subst e1
      have hi := self q1
      rw [List.getElem?_set_self (by rw [← h.len]; exact hi)] at q3
      cases q3
      rw [List.getElem?_set_ne hjk] at q2 q4
      exact hne k es q2 q4
    · rw [List.getElem?_set_ne e1] at q1 q3
      by_cases e2 : i = k
      · subst e2
        have hi := self q2
        rw [List.getElem?_set_self (by rw [← h.len]; exact hi)] at q4
        cases q4
        exact hne j fs q1 q3
      · rw [List.getElem?_set_ne e2] at q2 q4
        exact h.sep j k v' fs es hjk q1 q2 q3 q4
/-- a slot's own list is another one now -/
theorem Slots.chg {i : Nat} {p : Addr} {vs us : HO} {ds es : D} {G0 : Gh} {μ0 : Mu} (x : Ext K wd.cl G0 H0 μ0 G H μ) (h : Slots K wd H0 G H μ σ sd) (hi : sd[i]? = some (some (.own ds))) (hv : σ[i]? = some (some (.ref p))) (hp : H p = some vs) (hnx : ∀ xs, vs ≠ .xd xs) (hg : G.fz p = none) (hm : p ∉ G.ρ) (h0 : H0 p = none)
    (hd : CtOk K wd.cl G p us es) : Ext K wd.cl G0 H0 μ0 G (upd H p us) μ ∧ Slots K wd H0 G (upd H p us) μ σ (sd.set i (some (.own es))) := by
  have hil : i < sd.length := (List.getElem?_eq_some_iff.mp hi).1
  refine ⟨x.write h0 hp hg hm, by rw [List.length_set]; exact h.len, fun j s q => ?_, fun j k v' fs gs hjk q1 q2 q3 q4 => ?_⟩
  · by_cases e : i = j
    · subst e
      rw [List.getElem?_set_self hil] at q
      cases q
      exact ⟨_, hv, p, us, rfl, upd_same, hd, hg, hm, h0⟩
    · rw [List.getElem?_set_ne e] at q
      obtain ⟨u, q1, q2⟩ := h.at_ j s q
      refine ⟨u, q1, ?_⟩
      cases s with
      | fz d => exact q2
      | own fs =>
        obtain ⟨p', vs', rfl, r2, r3⟩ := q2
        have hne : p' ≠ p := fun z => h.sep i j (.ref p) ds fs e hi q hv (by rw [← z]; exact q1)
        exact ⟨p', vs', rfl, by rw [upd_ne hne]; exact r2, r3⟩
      | exc c fs =>
        obtain ⟨a, C, d, r1, r2, r3, r4⟩ := q2
        refine ⟨a, C, d, r1, r2, r3, ?_⟩
        rcases r4 with r4 | ⟨dd, ws, t1, t2, t3⟩
        · exact .inl r4
        · exact .inr ⟨dd, ws, t1, by rw [upd_ne (ne_of t2 hp (hnx _).symm)]; exact t2, t3⟩
      | fn caps => exact q2
  · have back : ∀ {j : Nat} {fs : D}, (sd.set i (some (.own es)))[j]? = some (some (.own fs)) → ∃ fs', sd[j]? = some (some (.own fs')) := fun {j fs} q => by
      by_cases e : i = j
      · subst e; exact ⟨_, hi⟩
      · rw [List.getElem?_set_ne e] at q; exact ⟨_, q⟩
    obtain ⟨_, b1⟩ := back q1
    obtain ⟨_, b2⟩ := back q2
    exact h.sep j k v' _ _ hjk b1 b2 q3 q4
/-- a slot's own list is changed by nobody from here on -/
theorem Slots.frz {i : Nat} {ds : D} {G0 : Gh} {μ0 : Mu} (x : Ext K wd.cl G0 H0 μ0 G H μ) (h : Slots K wd H0 G H μ σ sd) (hi : sd[i]? = some (some (.own ds))) :
    ∃ G', Ext K wd.cl G0 H0 μ0 G' H μ ∧ Slots K wd H0 G' H μ σ (sd.set i (some (.fz ds))) := by
  obtain ⟨v, hv, p, vs, rfl, hp, hd, hg, hm, h0⟩ := h.at_ i _ hi
  have hil : i < sd.length := (List.getElem?_eq_some_iff.mp hi).1
  have s1 : GLe G (gput G p vs) := gle_put hg
  have hnx := hd.nxd
  refine ⟨_, x.freezeX h0 hp hg hm, by rw [List.length_set]; exact h.len, fun j s q => ?_, fun j k v' fs gs hjk q1 q2 q3 q4 => ?_⟩
  · by_cases e : i = j
    · subst e
      rw [List.getElem?_set_self hil] at q
      cases q
      exact ⟨_, hv, (hd.mono s1).den upd_same⟩
    · rw [List.getElem?_set_ne e] at q
      obtain ⟨u, q1, q2⟩ := h.at_ j s q
      refine ⟨u, q1, ?_⟩
      cases s with
      | fz d => exact Den.mono s1 _ _ q2
      | own fs =>
        obtain ⟨p', vs', rfl, r2, r3, r4, r5⟩ := q2
        have hne : p' ≠ p := fun z => h.sep i j (.ref p) ds fs e hi q hv (by rw [← z]; exact q1)
        exact ⟨p', vs', rfl, r2, r3.mono s1, by show upd G.fz p vs p' = none; rw [upd_ne hne]; exact r4, r5⟩
      | exc c fs =>
        obtain ⟨a, C, d, r1, r2, r3, r4⟩ := q2
        refine ⟨a, C, d, r1, r2, r3, ?_⟩
        rcases r4 with r4 | ⟨dd, ws, t1, t2, t3, t4, t5⟩
        · exact .inl r4
        · exact .inr ⟨dd, ws, t1, t2, DenF.mono s1 _ _ t3, by show upd G.fz p vs dd = none; rw [upd_ne (ne_of t2 hp (hnx _).symm)]; exact t4, t5⟩
      | fn caps => exact fun G1 g1 => q2 G1 (s1.trans g1)
  · have ne : ∀ {j : Nat} {fs : D}, (sd.set i (some (.fz ds)))[j]? = some (some (.own fs)) → i ≠ j := fun {j fs} q e => by
      subst e
      rw [List.getElem?_set_self hil] at q
      cases q
    have e1 := ne q1
    have e2 := ne q2
    rw [List.getElem?_set_ne e1] at q1
    rw [List.getElem?_set_ne e2] at q2
    exact h.sep j k v' fs gs hjk q1 q2 q3 q4
/-- where an own slot's list is -/
theorem Slots.own {i : Nat} {ds : D} (h : Slots K wd H0 G H μ σ sd) (hi : sd[i]? = some (some (.own ds))) : ∃ p vs, σ[i]? = some (some (.ref p)) ∧ H p = some vs ∧ CtOk K wd.cl G p vs ds ∧ G.fz p = none ∧ p ∉ G.ρ ∧ H0 p = none := by
  obtain ⟨v, hv, p, vs, rfl, h1⟩ := h.at_ i _ hi
  exact ⟨p, vs, hv, h1⟩
/-- a new list is no slot's own -/
theorem Slots.newNe (h : Slots K wd H0 G H μ σ sd) {p : Addr} (hp : H p = none) (j : Nat) (es : D) (q : sd[j]? = some (some (.own es))) : σ[j]? ≠ some (some (.ref p)) := fun e => by
  obtain ⟨p', vs, h1, h2, _⟩ := h.own q
  rw [e] at h1
  cases h1
  rw [hp] at h2
  cases h2
end

section
variable {X : Cx} {wd : Wd} {e a b c : Expr} {es rest : List Expr} {w wa wb wc : WE} {wt wu : WT} {ws : WA} {pos : Pos} {st : Stmt} {sts body : List Stmt} {s1 s2 s3 : WS}

/-! ### blocks -/
def wNext : WS := fun E sd μ => E.nx sd μ
def wSeq (s1 s2 : WS) : WS := fun E sd μ => s1 { E with nx := s2 E } sd μ
theorem qss_nil : QSs wd X [] wNext := ⟨PSs.imp pss_nil fun D σ H ⟨G0, H0, μ0, G, μ, sd, E, hx, hs, hw, hE⟩ => hE.nx _ _ hw σ G H hx hs⟩
theorem EnOk.seq {G0 : Gh} {H0 : Hp} {μ0 : Mu} {E : TEn} {D : Ends} (h : EnOk X.K wd G0 H0 μ0 E D) : EnOk X.K wd G0 H0 μ0 { E with nx := s2 E } { D with nx := rdS X.K wd s2 D } :=
  ⟨fun sd μ q σ G H hx hs => ⟨G0, H0, μ0, G, μ, sd, E, hx, hs, q, h⟩, h.bk, h.ct, h.rt, h.ex⟩
theorem qss_cons (h1 : QS wd X st s1) (h2 : QSs wd X sts s2) : QSs wd X (st :: sts) (wSeq s1 s2) :=
  ⟨PSs.imp (pss_cons h1.ps h2.pss) fun D σ H ⟨G0, H0, μ0, G, μ, sd, E, hx, hs, hw, hE⟩ => ⟨G0, H0, μ0, G, μ, sd, _, hx, hs, hw, hE.seq⟩⟩
theorem qss_one (h1 : QS wd X st s1) : QSs wd X [st] s1 := ⟨pss_one h1.ps⟩
theorem qs_pass : QS wd X (.Pass pos) wNext := ⟨PS.imp ps_pass fun D σ H ⟨G0, H0, μ0, G, μ, sd, E, hx, hs, hw, hE⟩ => hE.nx _ _ hw σ G H hx hs⟩
def wBreak : WS := fun E sd μ => E.bk sd μ
def wCont : WS := fun E sd μ => E.ct sd μ
theorem qs_break : QS wd X (.Break pos) wBreak := ⟨PS.imp ps_break fun D σ H ⟨G0, H0, μ0, G, μ, sd, E, hx, hs, hw, hE⟩ => hE.bk _ _ hw σ G H hx hs⟩
theorem qs_cont : QS wd X (.Continue pos) wCont := ⟨PS.imp ps_continue fun D σ H ⟨G0, H0, μ0, G, μ, sd, E, hx, hs, hw, hE⟩ => hE.ct _ _ hw σ G H hx hs⟩
def wDrop (w : WE) : WS := fun E sd μ => w sd μ (E.x sd) fun _ μ' => E.nx sd μ'
theorem qs_expr (he : QE wd X e w) (hs : swapsWith e none pos.line X.env = pure false := by rfl) : QS wd X (.Expr e pos) (wDrop w) :=
  ⟨PS.imp (ps_expr he.pe hs) fun D σ H ⟨G0, H0, μ0, G, μ, sd, E, hx, hs, hw, hE⟩ =>
    ⟨G0, H0, μ0, G, μ, sd, _, _, hx, hs, hw, fun r μ' q v G' H' e' rel => hE.nx _ _ q σ G' H' (hx.trans e') (hs.step e'), hE.xok hx hs⟩⟩
def wRet (w : WE) : WS := fun E sd μ => w sd μ (E.x sd) fun r μ' => match r with
  | .at i => (match sd[i]? with
    | some (some (.own ds)) => E.rt (.new ds) μ'
    | _ => False)
  | .d x => E.rt (.d x) μ'
  | .new ds => E.rt (.new ds) μ'
theorem qs_ret (he : QE wd X e w) : QS wd X (.Return (some e) pos) (wRet w) := by
  refine ⟨PS.imp (ps_ret he.pe) fun D σ H ⟨G0, H0, μ0, G, μ, sd, E, hx, hs, hw, hE⟩ => ⟨G0, H0, μ0, G, μ, sd, _, _, hx, hs, hw, fun r μ' q v G' H' e' rel => ?_, hE.xok hx hs⟩⟩
  cases r with
  | d x => exact hE.rt _ _ q v G' H' (hx.trans e') rel
  | new ds =>
    obtain ⟨p, vs, rfl, h1, h2⟩ := rel
    exact hE.rt _ _ q _ G' H' (hx.trans e') ⟨p, vs, rfl, hx.dom p h1, h2⟩
  | «at» i =>
    obtain ⟨⟨ds, h1⟩, h2⟩ := rel
    have q' : E.rt (.new ds) μ' := by
      simp only [h1] at q
      exact q
    obtain ⟨p, vs, r1, r2, r3, r4, r5, r6⟩ := (hs.step e').own h1
    rw [h2] at r1
    cases r1
    exact hE.rt _ _ q' _ G' H' (hx.trans e') ⟨p, vs, rfl, r6, r2, r3, r4, r5⟩
def wRetN : WS := fun E _ μ => E.rt (.d .non) μ
theorem qs_retN : QS wd X (.Return none pos) wRetN := ⟨PS.imp ps_retN fun D σ H ⟨G0, H0, μ0, G, μ, sd, E, hx, hs, hw, hE⟩ => hE.rt _ _ hw .non G H hx Den.non⟩
/-- if: J joins the ways -/
def wIf (wt : WT) (s1 s2 : WS) : WS := fun E sd μ => ∃ J : SD → Mu → Prop, (∀ sd μ, J sd μ → E.nx sd μ) ∧ wt sd μ (E.x sd) fun b μ' => (b = true → s1 { E with nx := J } sd μ') ∧ (b = false → s2 { E with nx := J } sd μ')
theorem qs_if {c : Expr} {p q : List Stmt} (hc : QT wd X c wt) (ha : QSs wd X p s1) (hb : QSs wd X q s2) : QS wd X (.If c p q pos) (wIf wt s1 s2) := by
  refine ⟨PS.imp (ps_if hc.pt ha.pss hb.pss) fun D σ H ⟨G0, H0, μ0, G, μ, sd, E, hx, hs, ⟨J, hJ, hw⟩, hE⟩ => ⟨G0, H0, μ0, G, μ, sd, _, _, hx, hs, hw, fun b μ' q G' H' e' => ?_, hE.xok hx hs⟩⟩
  have hE' : EnOk X.K wd G0 H0 μ0 { E with nx := J } D := ⟨fun sd μ q => hE.nx sd μ (hJ sd μ q), hE.bk, hE.ct, hE.rt, hE.ex⟩
  cases b with
  | true => exact iteT ⟨G0, H0, μ0, G', μ', sd, _, hx.trans e', hs.step e', q.1 rfl, hE'⟩
  | false => exact iteF ⟨G0, H0, μ0, G', μ', sd, _, hx.trans e', hs.step e', q.2 rfl, hE'⟩

/-! ### targets -/
inductive Tg where
  | n (i : Nat) | t (is : List Nat)
def gNames : List Nat → TGs
  | [] => gNil
  | i :: is => gCons (gName i) (gNames is)
def Tg.g (K : PySem.W.Frag) : Tg → TG
  | .n i => gName i
  | .t is => gTup K is.length (gNames is)
def Tg.slots : Tg → List Nat
  | .n i => [i]
  | .t is => is
def setAll (sd : SD) : List Nat → List D → SD
  | i :: is, d :: ds => setAll (sd.set i (some (.fz d))) is ds
  | _, _ => sd
def Tg.bind : Tg → D → SD → (SD → Prop) → Prop
  | .n i, d, sd, k => k (sd.set i (some (.fz d)))
  | .t is, .tup ds, sd, k => ds.length = is.length ∧ k (setAll sd is ds)
  | .t _, _, _, _ => False
theorem wipe_at {σ : L2.St} {j : Nat} : ∀ {vs : List Nat}, (L2.wipe σ vs)[j]? = if j ∈ vs ∧ j < σ.length then some none else σ[j]?
  | [] => by simp [L2.wipe]
  | v :: vs => by
    unfold L2.wipe
    by_cases e : v = j
    · subst e
      by_cases hl : v < σ.length
      · rw [List.getElem?_set_self (by rw [wipe_length]; exact hl), if_pos ⟨List.mem_cons_self, hl⟩]
      · rw [if_neg fun z => hl z.2, List.getElem?_eq_none (by rw [List.length_set, wipe_length]; omega), List.getElem?_eq_none (by omega)]
    · rw [List.getElem?_set_ne e, wipe_at]
      have : (j ∈ v :: vs) ↔ j ∈ vs := by
        rw [List.mem_cons]
        exact ⟨fun z => z.resolve_left (Ne.symm e), .inr⟩
      simp only [this]
theorem wipe_set {σ : L2.St} {i : Nat} {x : Option V} {vs : List Nat} (h : i ∈ vs) : L2.wipe (σ.set i x) vs = L2.wipe σ vs := by
  apply List.ext_getElem?
  intro j
  rw [wipe_at, wipe_at, List.length_set]
  by_cases hj : j ∈ vs ∧ j < σ.length
  · rw [if_pos hj, if_pos hj]
  · rw [if_neg hj, if_neg hj]
    by_cases e : i = j
    · subst e
      have : ¬ i < σ.length := fun z => hj ⟨h, z⟩
      rw [List.getElem?_eq_none (by rw [List.length_set]; omega), List.getElem?_eq_none (by omega)]
    · rw [List.getElem?_set_ne e]
theorem wipe_idem {σ : L2.St} {vs : List Nat} : L2.wipe (L2.wipe σ vs) vs = L2.wipe σ vs := by
  apply List.ext_getElem?
  intro j
  rw [wipe_at, wipe_at, wipe_length]
  by_cases hj : j ∈ vs ∧ j < σ.length
  · rw [if_pos hj, if_pos hj]
  · rw [if_neg hj, if_neg hj]
theorem names_run {K : PySem.W.Frag} {G : Gh} {H0 H : Hp} {μ : Mu} {Q : L2.St → Hp → Prop} : ∀ (is : List Nat) (vs : List V) (ds : List D) (σ : L2.St) (sd : SD), Slots K wd H0 G H μ σ sd → DenL K wd.cl G vs ds → ds.length = is.length →
    (∀ σ', Slots K wd H0 G H μ σ' (setAll sd is ds) → (∀ us : List Nat, (∀ i ∈ is, i ∈ us) → L2.wipe σ' us = L2.wipe σ us) → Q σ' H) → gNames is vs σ H Q
  | [], vs, ds, σ, sd, hs, hd, hl, hq => by
    cases ds with
    | nil => cases hd; exact ⟨rfl, hq σ hs fun _ _ => rfl⟩
    | cons _ _ => cases hl
  | i :: is, vs, ds, σ, sd, hs, hd, hl, hq => by
    cases hd with
    | nil => cases hl
    | @cons v vs d ds h1 h2 =>
      refine ⟨v, vs, rfl, names_run is vs ds _ _ (hs.setF h1) h2 (by simpa using hl) fun σ' hs' hw => hq σ' hs' fun us hu => ?_⟩
      rw [hw us fun j hj => hu j (List.mem_cons_of_mem _ hj), wipe_set (hu i List.mem_cons_self)]
theorem tg_run {K : PySem.W.Frag} {G : Gh} {H0 H : Hp} {μ : Mu} {Q : L2.St → Hp → Prop} {tg : Tg} {v : V} {d : D} {σ : L2.St} {sd : SD} {k : SD → Prop} (r : Rep K wd.cl G H μ) (hs : Slots K wd H0 G H μ σ sd) (hd : Den K wd.cl G v d) (hw : tg.bind d sd k)
    (hq : ∀ sd', k sd' → ∀ σ', Slots K wd H0 G H μ σ' sd' → (∀ us : List Nat, (∀ i ∈ tg.slots, i ∈ us) → L2.wipe σ' us = L2.wipe σ us) → Q σ' H) : tg.g K v σ H Q := by
  cases tg with
  | n i => exact hq _ hw _ (hs.setF hd) fun us hu => wipe_set (hu i List.mem_cons_self)
  | t is =>
    cases d <;> try exact hw.elim
    cases hd with
    | @tup a vs ds q1 q2 =>
    exact ⟨a, vs, rfl, sqT_same r.sub q1, by rw [q2.len]; exact hw.1, names_run is vs _ σ sd hs q2 hw.1 fun σ' hs' hw' => hq _ hw.2 σ' hs' hw'⟩
structure QG (X : Cx) (target : Expr) (tg : Tg) : Prop where
  pg : PG X target (tg.g X.K)
structure QGs (X : Cx) (ts : List Expr) (is : List Nat) : Prop where
  pgs : PGs X ts (gNames is)
theorem qg_name {i : Nat} {x : Str} (hN : X.N.Nodup) (hi : X.N[i]? = some x := by rfl) (hx : Loc X.env.scope x := by first | exact Or.inl rfl | exact Or.inr rfl) (hf : X.fn x = true ∨ X.env.scope.names.lookup x = some .local := by first | exact .inl rfl | exact .inr rfl | assumption) :
    QG X (.Name x pos) (.n i) := ⟨pg_name hN hi hx hf⟩
theorem qgs_nil : QGs X [] [] := ⟨pgs_nil⟩
theorem qgs_cons {i : Nat} {is : List Nat} {es : List Expr} {x : Str} (h2 : QGs X es is) (hN : X.N.Nodup) (hi : X.N[i]? = some x := by rfl) (hx : Loc X.env.scope x := by first | exact Or.inl rfl | exact Or.inr rfl) (hf : X.fn x = true ∨ X.env.scope.names.lookup x = some .local := by first | exact .inl rfl | exact .inr rfl | assumption) :
    QGs X (.Name x pos :: es) (i :: is) := ⟨pgs_cons (pg_name hN hi hx hf) h2.pgs⟩
theorem qg_tup {es : List Expr} {k : Nat} {is : List Nat} (hc : X.calm = true) (h : QGs X es is) (hn : (assignEach es X.env).length = is.length := by rfl) (hst : (assignEach es X.env).findIdx? (·.1) = none := by rfl) : QG X (.Tuple es k pos) (.t is) := ⟨pg_tup (n := is.length) hc h.pgs hn hst⟩
/-! ### stores -/
def wSet (tg : Tg) (w : WE) : WS := fun E sd μ => w sd μ (E.x sd) fun r μ' => withT r fun y => tg.bind y sd fun sd' => E.nx sd' μ'
theorem set_rel {D : Ends} {σ : L2.St} {H : Hp} {tg : Tg} (h : rdS X.K wd (wSet tg w) D σ H) : rdE X.K wd w σ H fun x H1 => tg.g X.K x σ H1 D.nx := by
  obtain ⟨G0, H0, μ0, G, μ, sd, E, hx, hs, hw, hE⟩ := h
  refine ⟨G0, H0, μ0, G, μ, sd, _, _, hx, hs, hw, fun r μ' q v G' H' e' rel => ?_, hE.xok hx hs⟩
  obtain ⟨y, hy, q⟩ := withT_tree q
  obtain ⟨G1, e1, s1, den⟩ := keep e' rel hy
  exact tg_run e1.rep (hs.step e1) den q fun sd' q' σ' hs' _ => hE.nx _ _ q' σ' G1 H' (hx.trans e1) hs'
theorem qs_asg {t : Expr} {tg : Tg} (he : QE wd X e w) (hg : QG X t tg) (hs : swapsWithSole [t] e pos.line X.env = pure false := by rfl) (hw : swappedStores [t] e X.env = pure none := by rfl)
    (h1 : (assignEach [t] X.env).map (·.2) = [assign t X.env] := by rfl) : QS wd X (.Assign [t] e pos) (wSet tg w) := ⟨PS.imp (ps_asg he.pe hg.pg hs hw h1) fun D σ H h => set_rel h⟩
theorem qs_set {i : Nat} {x : Str} {pos' : Pos} (hN : X.N.Nodup) (he : QE wd X e w) (hi : X.N[i]? = some x := by rfl) (hx : Loc X.env.scope x := by first | exact Or.inl rfl | exact Or.inr rfl) (hs : swapsWith e (some (.Name x pos')) pos.line X.env = pure false := by rfl) (hf : X.fn x = true ∨ X.env.scope.names.lookup x = some .local := by first | exact .inl rfl | exact .inr rfl | assumption) :
    QS wd X (.Assign [.Name x pos'] e pos) (wSet (.n i) w) := ⟨PS.imp (ps_set hN hi hx he.pe hs hf) fun D σ H h => set_rel (tg := .n i) h⟩
/-- the name owns the new list -/
def wSetO (i : Nat) (w : WE) : WS := fun E sd μ => w sd μ (E.x sd) fun r μ' => match r with
  | .new ds => E.nx (sd.set i (some (.own ds))) μ'
  | _ => False
theorem setO_rel {D : Ends} {σ : L2.St} {H : Hp} {i : Nat} (h : rdS X.K wd (wSetO i w) D σ H) : rdE X.K wd w σ H fun x H1 => gName i x σ H1 D.nx := by
  obtain ⟨G0, H0, μ0, G, μ, sd, E, hx, hs, hw, hE⟩ := h
  refine ⟨G0, H0, μ0, G, μ, sd, _, _, hx, hs, hw, fun r μ' q v G' H' e' rel => ?_, hE.xok hx hs⟩
  cases r with
  | d y => exact q.elim
  | «at» j => exact q.elim
  | new ds =>
    obtain ⟨p, vs, rfl, h1, h2, h3, h4, h5⟩ := rel
    exact hE.nx _ _ q _ G' H' (hx.trans e') ((hs.step e').setO h2 h3 h4 h5 (hx.dom p h1) (hs.newNe h1))
theorem qs_setO {i : Nat} {x : Str} {pos' : Pos} (hN : X.N.Nodup) (he : QE wd X e w) (hi : X.N[i]? = some x := by rfl) (hx : Loc X.env.scope x := by first | exact Or.inl rfl | exact Or.inr rfl) (hs : swapsWith e (some (.Name x pos')) pos.line X.env = pure false := by rfl) (hf : X.fn x = true ∨ X.env.scope.names.lookup x = some .local := by first | exact .inl rfl | exact .inr rfl | assumption) :
    QS wd X (.Assign [.Name x pos'] e pos) (wSetO i w) := ⟨PS.imp (ps_set hN hi hx he.pe hs hf) fun D σ H h => setO_rel h⟩
/-- from here on nobody changes slot i's list -/
def wFrz (i : Nat) (s : WS) : WS := fun E sd μ => match sd[i]? with
  | some (some (.own c)) => s E (sd.set i (some (.fz c))) μ
  | _ => False
theorem qss_frz (i : Nat) (h : QSs wd X sts s1) : QSs wd X sts (wFrz i s1) := by
  refine ⟨PSs.imp h.pss fun D σ H ⟨G0, H0, μ0, G, μ, sd, E, hx, hs, hw, hE⟩ => ?_⟩
  unfold wFrz at hw
  split at hw
  · rename_i ds q
    obtain ⟨G', hx', hs'⟩ := hs.frz hx q
    exact ⟨G0, H0, μ0, G', μ, _, E, hx', hs', hw, hE⟩
  · exact hw.elim
/-- x.append(e) -/
def wApp (i : Nat) (w : WE) : WS := fun E sd μ => match sd[i]? with
  | some (some (.own (.lst ds))) => w sd μ (E.x sd) fun r μ' => withT r fun y => ds.length < sizeLine ∧ E.nx (sd.set i (some (.own (.lst (ds ++ [y]))))) μ'
  | _ => False
theorem qs_app {i : Nat} {x : Str} {p apos cpos : Pos} (he : QE wd X e w) (hN : X.N[i]? = some x := by rfl) (hv : Vis X.env.scope x := by first | exact Or.inl rfl | exact Or.inr (Or.inl rfl) | exact Or.inr (Or.inr rfl)) (hd : (x == ("__debug__" : Str)) = false := by decide)
    (hcd : (x == ("__classdict__" : Str)) = false := by decide) (hst : starEach [e] X.env = (false, eval e X.env) :: starEach [] X.env := by rfl)
    (hbase : attributeBase (.Name x p) "append" X.env (eval (.Name x p) X.env) = eval (.Name x p) X.env := by rfl)
    (hfew : ((backTo cpos (starEach [e] X.env)).all (fun x => !x.1) && (backToKw cpos (keywordEach [] X.env)).all (fun x => x.1.isSome)
      && decide ([e].length + ([] : List Keyword).length + (if ([] : List Keyword).isEmpty then 0 else 1) < 30)) = true := by rfl)
    (hline : (apos.endLine == cpos.line) = true := by rfl) (hplain : (backTo cpos (starEach [] X.env)).any (·.1) = false := by rfl) (hs : swapsWith (.Call (.Attribute (.Name x p) "append" apos) [e] [] cpos) none pos.line X.env = pure false := by rfl) :
    QS wd X (.Expr (.Call (.Attribute (.Name x p) "append" apos) [e] [] cpos) pos) (wApp i w) := by
  refine ⟨PS.imp (ps_expr (pe_bm PySem.F.plainAttrs_list PySem.F.slot_list_append PySem.F.type_list_append mt_append (pe_var hN hv hd hcd) (pa_cons he.pe pa_nil hst) hbase hfew hline hst hplain) hs) fun D σ H ⟨G0, H0, μ0, G, μ, sd, E, hx, hsl, hw, hE⟩ => ?_⟩
  unfold wApp at hw
  split at hw
  · rename_i ds q
    obtain ⟨p, o, r1, r2, r3, r4, r5, r6⟩ := hsl.own q
    obtain ⟨vs, rfl, r3⟩ := r3.lst
    refine ⟨.ref p, r1, .inl ⟨rfl, vs, SqL.of r2⟩, ?_⟩
    refine ⟨G0, H0, μ0, G, μ, sd, _, _, hx, hsl, hw, fun r μ' q' v G' H' e' rel => ?_, hE.xok hx hsl⟩
    obtain ⟨y, hy, q'⟩ := withT_tree q'
    obtain ⟨G1, e1, s1, den⟩ := keep e' rel hy
    obtain ⟨t1, t2, t3⟩ := e1.fr p _ r2 r4 r5
    refine ⟨p, vs, v, rfl, rfl, t1, by rw [r3.len]; exact q'.1, ?_⟩
    obtain ⟨x1, x2⟩ := Slots.chg (es := .lst (ds ++ [y])) (us := .lst (vs ++ [v])) (hx.trans e1) (hsl.step e1) q r1 t1 (fun _ z => by cases z) t2 t3 r6 ((DenL.mono e1.g _ _ r3).app (.one den))
    exact hE.nx _ _ q'.2 σ G1 _ x1 x2
  · exact hw.elim
/-- x[e] = f -/
def wPut (i : Nat) (wi wv : WE) : WS := fun E sd μ => match sd[i]? with
  | some (some (.own (.lst ds))) => wv sd μ (E.x sd) fun r μ1 => withT r fun y => wi sd μ1 (E.x sd) fun r2 μ2 => match r2 with
    | .d (.int k) => ∃ j, ixN ds.length k = some j ∧ E.nx (sd.set i (some (.own (.lst (ds.set j y))))) μ2
    | _ => False
  | _ => False
theorem qs_put {i : Nat} {x : Str} {p tpos : Pos} {ei : Expr} {wi : WE} (hi : QE wd X ei wi) (he : QE wd X e w) (hN : X.N[i]? = some x := by rfl) (hv : Vis X.env.scope x := by first | exact Or.inl rfl | exact Or.inr (Or.inl rfl) | exact Or.inr (Or.inr rfl)) (hd : (x == ("__debug__" : Str)) = false := by decide)
    (hcd : (x == ("__classdict__" : Str)) = false := by decide)
    (ha : ∀ v, assign (.Subscript (.Name x p) ei tpos) X.env v = (do
      let ov ← holding [v] (eval (.Name x p) X.env)
      let iv ← holding [v, ov] (eval ei X.env)
      standAt tpos
      holding [v, ov, iv] (setItem ov iv v)
      release [v, ov, iv] []) := by intro _; rfl)
    (hs : swapsWithSole [.Subscript (.Name x p) ei tpos] e pos.line X.env = pure false := by rfl) (hw : swappedStores [.Subscript (.Name x p) ei tpos] e X.env = pure none := by rfl)
    (h1 : (assignEach [.Subscript (.Name x p) ei tpos] X.env).map (·.2) = [assign (.Subscript (.Name x p) ei tpos) X.env] := by rfl) :
    QS wd X (.Assign [.Subscript (.Name x p) ei tpos] e pos) (wPut i wi w) := by
  refine ⟨PS.imp (ps_asg he.pe (pg_sub (pe_var hN hv hd hcd) hi.pe set_list ha) hs hw h1) fun D σ H ⟨G0, H0, μ0, G, μ, sd, E, hx, hsl, hw, hE⟩ => ?_⟩
  unfold wPut at hw
  split at hw
  · rename_i ds q
    refine ⟨G0, H0, μ0, G, μ, sd, _, _, hx, hsl, hw, fun r μ' q' v G' H' e' rel => ?_, hE.xok hx hsl⟩
    obtain ⟨y, hy, q'⟩ := withT_tree q'
    obtain ⟨G1, e1, s1, den⟩ := keep e' rel hy
    obtain ⟨p, o, r1, r2, r3, r4, r5, r6⟩ := (hsl.step e1).own q
    obtain ⟨vs, rfl, r3⟩ := r3.lst
    refine ⟨.ref p, r1, ?_⟩
    refine ⟨G0, H0, μ0, G1, μ', sd, _, _, hx.trans e1, hsl.step e1, q', fun r2' μ2 q2 v2 G2 H2 e2 rel2 => ?_, hE.xok (hx.trans e1) (hsl.step e1)⟩
    cases r2' with
    | «at» j => exact q2.elim
    | new fs => exact q2.elim
    | d z =>
      cases z <;> try exact q2.elim
      cases rel2
      obtain ⟨j, hj, q2⟩ := q2
      obtain ⟨t1, t2, t3⟩ := e2.fr p _ r2 r4 r5
      refine ⟨p, vs, _, j, rfl, rfl, t1, by rw [r3.len]; exact hj, ?_⟩
      obtain ⟨x1, x2⟩ := Slots.chg (es := .lst (ds.set j y)) (us := .lst (vs.set j v)) ((hx.trans e1).trans e2) ((hsl.step e1).step e2) q r1 t1 (fun _ z => by cases z) t2 t3 r6 ((DenL.mono e2.g _ _ r3).set j (Den.mono e2.g _ _ den))
      exact hE.nx _ _ q2 σ G2 _ x1 x2
  · exact hw.elim
/-- while -/
def wWhile (wt : WT) (s : WS) : WS := fun E sd μ => ∃ I : Nat → SD → Mu → Prop, (∃ n, I n sd μ) ∧ ∀ n sd μ, I n sd μ → wt sd μ (E.x sd) fun b μ' =>
  (b = true → s { E with nx := fun sd μ => ∃ m, m < n ∧ I m sd μ, ct := fun sd μ => ∃ m, m < n ∧ I m sd μ, bk := E.nx } sd μ') ∧ (b = false → E.nx sd μ')
theorem qs_while {c : Expr} (hp : PassesOwn (model X.prog X.w) X.A X.env X.xe) (hc : QT wd X c wt) (hb : QSs wd X body s1) : QS wd X (.While c body [] pos) (wWhile wt s1) := by
  refine ⟨PS.imp (ps_while hp hc.pt hb.pss) fun D σ H ⟨G0, H0, μ0, G, μ, sd, E, hx, hs, ⟨I, ⟨n0, i0⟩, turn⟩, hE⟩ => ?_⟩
  refine ⟨fun n σ H => ∃ G μ sd, Ext X.K wd.cl G0 H0 μ0 G H μ ∧ Slots X.K wd H0 G H μ σ sd ∧ I n sd μ, ⟨n0, G, μ, sd, hx, hs, i0⟩, fun m σ H ⟨G, μ, sd, hx, hs, i⟩ => ?_⟩
  refine ⟨G0, H0, μ0, G, μ, sd, _, _, hx, hs, turn m sd μ i, fun b μ' q G' H' e' => ?_, hE.xok hx hs⟩
  cases b with
  | true =>
    refine iteT ⟨fun σ H => ∃ m', m' < m ∧ ∃ G μ sd, Ext X.K wd.cl G0 H0 μ0 G H μ ∧ Slots X.K wd H0 G H μ σ sd ∧ I m' sd μ, fun σ' H' h => h, ?_⟩
    refine ⟨G0, H0, μ0, G', μ', sd, _, hx.trans e', hs.step e', q.1 rfl, ?_⟩
    exact ⟨fun sd μ ⟨m', hm, i⟩ σ G H hx hs => ⟨m', hm, G, μ, sd, hx, hs, i⟩, fun sd μ q σ G H hx hs => hE.nx sd μ q σ G H hx hs, fun sd μ ⟨m', hm, i⟩ σ G H hx hs => ⟨m', hm, G, μ, sd, hx, hs, i⟩, hE.rt, hE.ex⟩
  | false => exact iteF (hE.nx _ _ (q.2 rfl) σ G' H' (hx.trans e') (hs.step e'))
end
end TL
/-! TL: what is walked, for, comprehensions -/
namespace TL
open PySem PySem.Spec L2

/-- a list or a tuple, walked -/
def iSeq (K : PySem.W.Frag) (tl : TE) : TI := fun σ H R => tl σ H fun x H1 => ∃ a, x = .ref a ∧ ((∃ xs, SqL K H1 a xs ∧ R (Itl K a) H1) ∨ ∃ xs, SqT K H1 a xs ∧ R (Itt K a) H1)
theorem pi_seq {X : Cx} {tg l : Expr} {tl : TE} (hl : PE X l tl) : PI X tg l (iSeq X.K tl) := by
  refine ⟨fun pins s σ H R I h => ?_⟩
  refine thn (hl.run pins s σ H _ I h) fun v s1 ⟨x, H1, I1, r1, q1⟩ => ?_
  obtain ⟨a, e, ⟨xs, hq, q⟩ | ⟨xs, hq, q⟩⟩ := q1
  · subst e
    cases r1
    obtain ⟨its, rv, p, hz⟩ := I1.list hq
    refine wpAny_pyIter_list p.isList ?_
    refine ⟨s1.heap.objs.size, [s1.heap.objs.size], _, _, H1, rfl, I1.kept (t' := s1.toks) fun b o e => Heap.get?_push_of_some _ e, turn_list a _, ⟨_, Heap.get?_push_size _ rfl, rfl, rfl⟩, fun b hb => ?_, q⟩
    have e : b = s1.heap.objs.size := by simpa using hb
    subst e
    exact I1.fpOk (Nat.le_refl _) (I1.hok.fresh (Nat.le_refl _))
  · subst e
    cases r1
    obtain ⟨its, rv, p, hz⟩ := I1.tuple hq
    refine wpAny_pyIter_tuple (show s1.heap.IsTuple a its.toArray from p) ?_
    refine ⟨s1.heap.objs.size, [s1.heap.objs.size], _, _, H1, rfl, I1.kept (t' := s1.toks) fun b o e => Heap.get?_push_of_some _ e, turn_tuple a _, ⟨_, Heap.get?_push_size _ rfl, rfl, rfl⟩, fun b hb => ?_, q⟩
    have e : b = s1.heap.objs.size := by simpa using hb
    subst e
    exact I1.fpOk (Nat.le_refl _) (I1.hok.fresh (Nat.le_refl _))

/-- the thing walked over must stay: the one of that number, this list -/
abbrev Lk := Option (Nat × List D)
def lkOk : Lk → Mu → Prop
  | none, _ => True
  | some (n, ds), μ => μ[n]? = some (.box (.lst ds))
/-- J goes over the trees ds, from the state (G, H) on -/
structure Goes (K : PySem.W.Frag) (cl : Cl) (G : Gh) (J : It) (ds : List D) (L : Lk) : Prop where
  ok : ∃ (Gp : Hp → Prop) (Y : Nat → Hp → V → Hp → Prop), Walk J ds.length Gp Y ∧ (∀ G2 H μ2, GLe G G2 → Rep K cl G2 H μ2 → lkOk L μ2 → Gp H) ∧
    ∀ i H x H', Y i H x H' → ∀ G2 μ2, GLe G G2 → Rep K cl G2 H μ2 → lkOk L μ2 → ∃ G3 d, ds[i]? = some d ∧ Ext K cl G2 H μ2 G3 H' μ2 ∧ Den K cl G3 x d
abbrev WI := SD → Mu → XT → (List D → Lk → Mu → Prop) → Prop
def rdI (K : PySem.W.Frag) (wd : Wd) (w : WI) : TI := fun σ H R => ∃ G0 H0 μ0 G μ sd x k, Ext K wd.cl G0 H0 μ0 G H μ ∧ Slots K wd H0 G H μ σ sd ∧ w sd μ x k ∧
  (∀ ds L μ', k ds L μ' → ∀ J G' H', Ext K wd.cl G H μ G' H' μ' → Goes K wd.cl G' J ds L → R J H') ∧ XOk K wd G H μ σ x
structure QI (wd : Wd) (X : Cx) (tg iter : Expr) (w : WI) : Prop where
  pi : PI X tg iter (rdI X.K wd w)
theorem PI.imp {X : Cx} {tg iter : Expr} {t t' : TI} (h : PI X tg iter t) (q : ∀ σ H R, t' σ H R → t σ H R) : PI X tg iter t' := ⟨fun pins s σ H R I r => h.run pins s σ H R I (q σ H R r)⟩

section
variable {X : Cx} {wd : Wd} {e a b c : Expr} {es rest : List Expr} {w wa wb wc : WE} {wt wu : WT} {ws : WA} {wi : WI} {pos : Pos} {st : Stmt} {sts body : List Stmt} {s1 s2 s3 : WS} {tg iter : Expr}
theorem goes_list {K : PySem.W.Frag} {cl : Cl} {G : Gh} {a : Addr} {vs : List V} {ds : List D} (h : SqL K G.fz a vs) (hd : DenL K cl G vs ds) : Goes K cl G (Itl K a) ds none := by
  refine ⟨fun H => SqL K H a vs, _, hd.len ▸ walk_list, fun G2 H μ2 s r _ => (s.fz.trans r.sub).seq h, fun i H x H' y G2 μ2 s2 r _ => ?_⟩
  obtain ⟨rfl, y⟩ := y
  obtain ⟨d, e1, e2⟩ := hd.getV y
  exact ⟨G2, d, e1, .refl r, Den.mono s2 _ _ e2⟩
theorem goes_tup {K : PySem.W.Frag} {cl : Cl} {G : Gh} {a : Addr} {vs : List V} {ds : List D} (h : SqT K G.fz a vs) (hd : DenL K cl G vs ds) : Goes K cl G (Itt K a) ds none := by
  refine ⟨fun H => SqT K H a vs, _, hd.len ▸ walk_tup, fun G2 H μ2 s r _ => sqT_same (s.fz.trans r.sub) h, fun i H x H' y G2 μ2 s2 r _ => ?_⟩
  obtain ⟨rfl, y⟩ := y
  obtain ⟨d, e1, e2⟩ := hd.getV y
  exact ⟨G2, d, e1, .refl r, Den.mono s2 _ _ e2⟩
/-- a list or tuple -/
def wiSeq (w : WE) : WI := fun sd μ x k => w sd μ x fun r μ1 => match r with
  | .d (.lst ds) => k ds none μ1
  | .d (.tup ds) => k ds none μ1
  | .new (.lst ds) => k ds none μ1
  | .d (.ref n) => ∃ ds, μ1[n]? = some (.box (.lst ds)) ∧ k ds (some (n, ds)) μ1
  | _ => False
theorem goes_node {K : PySem.W.Frag} {cl : Cl} {G : Gh} {a : Addr} {n : Nat} {ds : List D} (hn : G.ρ[n]? = some a) : Goes K cl G (Itl K a) ds (some (n, ds)) := by
  refine ⟨fun H => ∃ vs : List V, vs.length = ds.length ∧ H a = some (.lst vs), fun i H x H' => H' = H ∧ ∃ vs : List V, H a = some (.lst vs) ∧ vs[i]? = some x, ?_, fun G2 H μ2 s r l => ?_, fun i H x H' y G2 μ2 s2 r l => ?_⟩
  · exact ⟨fun i H hi ⟨vs, hl, h⟩ => walk_list.goes i H (hl ▸ hi) (SqL.of h), fun H ⟨vs, hl, h⟩ => hl ▸ walk_list.stops H (SqL.of h), fun i H x H' hi ⟨vs, hl, h⟩ y => by
      obtain ⟨e1, e2⟩ := walk_list.yields i H x H' (hl ▸ hi) (SqL.of h) y
      exact ⟨e1, vs, h, e2⟩⟩
  · obtain ⟨o, h1, h2⟩ := r.box (s.at hn) l
    obtain ⟨vs, rfl, h3⟩ := h2.lst
    exact ⟨vs, h3.len, h1⟩
  · obtain ⟨rfl, vs', hv, y⟩ := y
    obtain ⟨o, h1, h2⟩ := r.box (s2.at hn) l
    obtain ⟨vs, rfl, h3⟩ := h2.lst
    rw [hv] at h1
    cases h1
    obtain ⟨d, e1, e2⟩ := h3.getV y
    exact ⟨G2, d, e1, .refl r, e2⟩
theorem qi_seq (h : QE wd X e w) : QI wd X tg e (wiSeq w) := by
  refine ⟨PI.imp (pi_seq h.pe) fun σ H R ⟨G0, H0, μ0, G, μ, sd, x, k, hx, hs, hw, hk, hxo⟩ => ?_⟩
  refine ⟨G0, H0, μ0, G, μ, sd, x, _, hx, hs, hw, fun r μ1 q v G1 H1 e1 rel => ?_, hxo⟩
  cases r with
  | «at» i => exact q.elim
  | new c =>
    cases c <;> try exact q.elim
    rename_i ds
    obtain ⟨G1', e1', s1, den⟩ := keep (x := .lst ds) e1 rel rfl
    cases den with
    | @lst a vs _ q1 q2 => exact ⟨a, rfl, .inl ⟨vs, e1'.rep.sub.seq q1, hk _ _ _ q _ _ _ e1' (goes_list q1 q2)⟩⟩
  | d y =>
    cases y <;> try exact q.elim
    · cases rel with
      | @lst a vs _ q1 q2 => exact ⟨a, rfl, .inl ⟨vs, e1.rep.sub.seq q1, hk _ _ _ q _ _ _ e1 (goes_list q1 q2)⟩⟩
    · cases rel with
      | @tup a vs _ q1 q2 => exact ⟨a, rfl, .inr ⟨vs, sqT_up (X := X) e1.rep.sub q1, hk _ _ _ q _ _ _ e1 (goes_tup q1 q2)⟩⟩
    · cases rel with
      | @ref a _ hn =>
      obtain ⟨ds, hm, q⟩ := q
      obtain ⟨o, h1, h2⟩ := e1.rep.box hn hm
      obtain ⟨vs, rfl, h3⟩ := h2.lst
      exact ⟨a, rfl, .inl ⟨vs, SqL.of h1, hk _ _ _ q _ _ _ e1 (goes_node hn)⟩⟩
/-- range -/
def rngD (lo : Int) (n : Nat) : List D := (List.range n).map fun i => D.int (lo + (i : Nat))
theorem goes_range {K : PySem.W.Frag} {cl : Cl} {G : Gh} {lo : Int} {n : Nat} : Goes K cl G (Itr lo n) (rngD lo n) none := by
  have hl : (rngD lo n).length = n := by unfold rngD; rw [List.length_map, List.length_range]
  refine ⟨fun _ => True, fun i H x H' => i < n ∧ H' = H ∧ x = .int (lo + i), ?_, fun _ _ _ _ _ _ => trivial, fun i H x H' y G2 μ2 s2 r _ => ?_⟩
  · rw [hl]
    exact walk_range.mono (fun _ h => h) fun i H x H' hi _ y => ⟨hi, y⟩
  · obtain ⟨hi, rfl, rfl⟩ := y
    refine ⟨G2, .int (lo + i), ?_, .refl r, .int _⟩
    unfold rngD
    rw [List.getElem?_map, List.getElem?_range hi]
    rfl
def wiRng1 (w : WE) : WI := fun sd μ x k => w sd μ x fun r μ1 => match r with
  | .d (.int j) => j < 2 ^ 62 ∧ -(2 ^ 62) ≤ j ∧ k (rngD 0 j.toNat) none μ1
  | _ => False
theorem qi_range1 {p : Pos} (ha : QE wd X e w) (hm : X.mg "range" = none) (hg : Gl X "range" := by rfl) (hst : starEach (e :: []) X.env = (false, eval e X.env) :: starEach [] X.env := by rfl) (hs : starEach [e] X.env = [(false, eval e X.env)] := by rfl) :
    QI wd X tg (.Call (.Name "range" p) [e] [] pos) (wiRng1 w) := by
  refine ⟨PI.imp (pi_range1 hg hm (pa_cons ha.pe pa_nil hst) hs) fun σ H R ⟨G0, H0, μ0, G, μ, sd, x, k, hx, hs, hw, hk, hxo⟩ => ?_⟩
  refine ⟨G0, H0, μ0, G, μ, sd, x, _, hx, hs, hw, fun r μ1 q v G1 H1 e1 rel => ?_, hxo⟩
  cases r with
  | «at» i => exact q.elim
  | new ds => exact q.elim
  | d y =>
    cases y <;> try exact q.elim
    cases rel
    exact ⟨_, rfl, q.2.1, q.1, hk _ _ _ q.2.2 _ _ _ e1 goes_range⟩
def wiRng2 (wa wb : WE) : WI := fun sd μ x k => wa sd μ x fun r μ1 => wb sd μ1 x fun r2 μ2 => match r, r2 with
  | .d (.int i), .d (.int j) => (-(2 ^ 62) ≤ i ∧ i < 2 ^ 62 ∧ -(2 ^ 62) ≤ j ∧ j < 2 ^ 62) ∧ k (rngD i (j - i).toNat) none μ2
  | _, _ => False
theorem qi_range2 {p : Pos} (ha : QE wd X a wa) (hb : QE wd X b wb) (hm : X.mg "range" = none) (hg : Gl X "range" := by rfl) (hst : starEach [a, b] X.env = (false, eval a X.env) :: starEach [b] X.env := by rfl) (hst2 : starEach [b] X.env = (false, eval b X.env) :: starEach [] X.env := by rfl)
    (hs : starEach [a, b] X.env = [(false, eval a X.env), (false, eval b X.env)] := by rfl) (hs2 : starEach [b] X.env = [(false, eval b X.env)] := by rfl) :
    QI wd X tg (.Call (.Name "range" p) [a, b] [] pos) (wiRng2 wa wb) := by
  refine ⟨PI.imp (pi_range2 hg hm (pa_cons ha.pe (pa_cons hb.pe pa_nil hst2) hst) hs hs2) fun σ H R ⟨G0, H0, μ0, G, μ, sd, x, k, hx, hs, hw, hk, hxo⟩ => ?_⟩
  refine ⟨G0, H0, μ0, G, μ, sd, x, _, hx, hs, hw, fun r μ1 q v G1 H1 e1 rel => ?_, hxo⟩
  obtain ⟨G1', e1', s1, hold1⟩ := hold hs e1 rel
  refine ⟨G0, H0, μ0, G1', μ1, sd, x, _, hx.trans e1', hs.step e1', q, fun r2 μ2 q2 v2 G2 H2 e2 rel2 => ?_, hxo.step e1'⟩
  have h1 := hold1 _ _ _ e2
  cases r with
  | «at» i => cases r2 <;> exact q2.elim
  | new ds => cases r2 <;> exact q2.elim
  | d y =>
    cases y <;> try (cases r2 <;> exact q2.elim)
    cases r2 with
    | «at» i => exact q2.elim
    | new ds => exact q2.elim
    | d z =>
      cases z <;> try exact q2.elim
      cases rel2
      cases h1
      exact ⟨_, _, rfl, q2.1, hk _ _ _ q2.2 _ _ _ (e1'.trans e2) goes_range⟩
/-- enumerate -/
def enumD (ds : List D) : List D := ds.zipIdx.map fun p => D.tup [.int (p.2 : Nat), p.1]
theorem enumD_len (ds : List D) : (enumD ds).length = ds.length := by unfold enumD; rw [List.length_map, List.length_zipIdx]
theorem enumD_get {ds : List D} {i : Nat} {d : D} (h : ds[i]? = some d) : (enumD ds)[i]? = some (.tup [.int (i : Nat), d]) := by
  unfold enumD
  rw [List.getElem?_map, List.getElem?_zipIdx, h]
  simp
theorem goes_enum {K : PySem.W.Frag} {cl : Cl} {G : Gh} {a : Addr} {vs : List V} {ds : List D} (h : SqL K G.fz a vs) (hd : DenL K cl G vs ds) : Goes K cl G (Ite K a) (enumD ds) none := by
  refine ⟨fun H => SqL K H a vs, _, by rw [enumD_len, ← hd.len]; exact walk_enum, fun G2 H μ2 s r _ => (s.fz.trans r.sub).seq h, fun i H x H' y G2 μ2 s2 r _ => ?_⟩
  obtain ⟨T, x', y', rfl, h1, rfl, h2, h3⟩ := y
  cases h2
  obtain ⟨d, e1, e2⟩ := hd.getV h3
  exact ⟨_, _, enumD_get e1, Ext.frozen r h1, .tup (.inl (.inl upd_same)) (.cons (.int _) (.cons (Den.mono (s2.trans (gle_put (r.free h1).1)) _ _ e2) .nil))⟩
def wiEnum (w : WE) : WI := fun sd μ x k => w sd μ x fun r μ1 => match r with
  | .d (.lst ds) => k (enumD ds) none μ1
  | .new (.lst ds) => k (enumD ds) none μ1
  | _ => False
theorem qi_enum {p tpos : Pos} {elts : List Expr} {kk : Nat} (ha : QE wd X e w) (hm : X.mg "enumerate" = none) (hg : Gl X "enumerate" := by rfl) (hst : starEach (e :: []) X.env = (false, eval e X.env) :: starEach [] X.env := by rfl) (hs : starEach [e] X.env = [(false, eval e X.env)] := by rfl) :
    QI wd X (.Tuple elts kk tpos) (.Call (.Name "enumerate" p) [e] [] pos) (wiEnum w) := by
  refine ⟨PI.imp (pi_enum hg hm (pa_cons ha.pe pa_nil hst) hs) fun σ H R ⟨G0, H0, μ0, G, μ, sd, x, k, hx, hs, hw, hk, hxo⟩ => ?_⟩
  refine ⟨G0, H0, μ0, G, μ, sd, x, _, hx, hs, hw, fun r μ1 q v G1 H1 e1 rel => ?_, hxo⟩
  cases r with
  | «at» i => exact q.elim
  | new c =>
    cases c <;> try exact q.elim
    rename_i ds
    obtain ⟨G1', e1', s1, den⟩ := keep (x := .lst ds) e1 rel rfl
    cases den with
    | @lst a vs _ q1 q2 => exact ⟨a, vs, rfl, e1'.rep.sub.seq q1, hk _ _ _ q _ _ _ e1' (goes_enum q1 q2)⟩
  | d y =>
    cases y <;> try exact q.elim
    cases rel with
    | @lst a vs _ q1 q2 => exact ⟨a, vs, rfl, e1.rep.sub.seq q1, hk _ _ _ q _ _ _ e1 (goes_enum q1 q2)⟩
/-- reversed, of a list -/
theorem goes_rev {K : PySem.W.Frag} {cl : Cl} {G : Gh} {a : Addr} {vs : List V} {ds : List D} (h : SqL K G.fz a vs) (hd : DenL K cl G vs ds) : Goes K cl G (Itv K a vs.length) ds.reverse none := by
  refine ⟨fun H => SqL K H a vs, fun i H x H' => i < vs.length ∧ H' = H ∧ vs[vs.length - 1 - i]? = some x, by rw [List.length_reverse, ← hd.len]; exact walk_rev.mono (fun _ h => h) fun i H x H' hi _ y => ⟨hi, y⟩, fun G2 H μ2 s r _ => (s.fz.trans r.sub).seq h, fun i H x H' y G2 μ2 s2 r _ => ?_⟩
  obtain ⟨hi, rfl, y⟩ := y
  obtain ⟨d, e1, e2⟩ := hd.getV y
  refine ⟨G2, d, ?_, .refl r, Den.mono s2 _ _ e2⟩
  rw [List.getElem?_reverse (by rw [← hd.len]; exact hi), ← hd.len]
  exact e1
def wiRev (w : WE) : WI := fun sd μ x k => w sd μ x fun r μ1 => match r with
  | .d (.lst ds) => k ds.reverse none μ1
  | .new (.lst ds) => k ds.reverse none μ1
  | _ => False
theorem qi_rev {p : Pos} (ha : QE wd X e w) (hm : X.mg "reversed" = none) (hg : Gl X "reversed" := by rfl) (hst : starEach (e :: []) X.env = (false, eval e X.env) :: starEach [] X.env := by rfl) (hs : starEach [e] X.env = [(false, eval e X.env)] := by rfl) :
    QI wd X tg (.Call (.Name "reversed" p) [e] [] pos) (wiRev w) := by
  refine ⟨PI.imp (pi_reversed hg hm (pa_cons ha.pe pa_nil hst) hs) fun σ H R ⟨G0, H0, μ0, G, μ, sd, x, k, hx, hs, hw, hk, hxo⟩ => ?_⟩
  refine ⟨G0, H0, μ0, G, μ, sd, x, _, hx, hs, hw, fun r μ1 q v G1 H1 e1 rel => ?_, hxo⟩
  cases r with
  | «at» i => exact q.elim
  | new c =>
    cases c <;> try exact q.elim
    rename_i ds
    obtain ⟨G1', e1', s1, den⟩ := keep (x := .lst ds) e1 rel rfl
    cases den with
    | @lst a vs _ q1 q2 => exact ⟨a, vs, rfl, e1'.rep.sub.seq q1, hk _ _ _ q _ _ _ e1' (goes_rev q1 q2)⟩
  | d y =>
    cases y <;> try exact q.elim
    cases rel with
    | @lst a vs _ q1 q2 => exact ⟨a, vs, rfl, e1.rep.sub.seq q1, hk _ _ _ q _ _ _ e1 (goes_rev q1 q2)⟩

/-! ### for -/
theorem Ext.re {K : PySem.W.Frag} {cl : Cl} {G0 G1 G : Gh} {H0 H1 H : Hp} {μ0 μ1 μ : Mu} (x : Ext K cl G0 H0 μ0 G1 H1 μ1) (s : GLe G1 G) (y : Ext K cl G0 H0 μ0 G H μ) : Ext K cl G1 H0 μ0 G H μ :=
  ⟨s, y.rep, y.dom, fun a o h g m => y.fr a o h (x.g.fz.free g) (fun z => m (x.g.pre.subset z))⟩
theorem Ext.un {K : PySem.W.Frag} {cl : Cl} {G0 G1 G : Gh} {H0 H1 H : Hp} {μ0 μ1 μ : Mu} (x : Ext K cl G0 H0 μ0 G1 H1 μ1) (y : Ext K cl G1 H0 μ0 G H μ) : Ext K cl G0 H0 μ0 G H μ :=
  ⟨x.g.trans y.g, y.rep, y.dom, fun a o h g m => y.fr a o h (x.fr a o h g m).2.1 (x.fr a o h g m).2.2⟩
def wFor (wi : WI) (tg : Tg) (s : WS) : WS := fun E sd μ => wi sd μ (E.x sd) fun ds L μ1 => ∃ I : Nat → SD → Mu → Prop, I 0 sd μ1 ∧ (∀ n sd μ, I n sd μ → lkOk L μ) ∧
  (∀ n d sd μ, ds[n]? = some d → I n sd μ → tg.bind d sd fun sd' => s { E with nx := I (n + 1), ct := I (n + 1), bk := E.nx } sd' μ) ∧ (∀ sd μ, I ds.length sd μ → E.nx sd μ)
theorem qs_for {t : Expr} {tg : Tg} (hp : PassesOwn (model X.prog X.w) X.A X.env X.xe) (hc : X.calm = true) (hi : QI wd X t iter wi) (hg : QG X t tg) (hb : QSs wd X body s1) (hs : ∀ x, foldedSetIterable iter X.env x = pure x := by intro _; rfl) :
    QS wd X (.For t iter body [] pos) (wFor wi tg s1) := by
  refine ⟨PS.imp (ps_for hp hc hi.pi hg.pg hb.pss hs) fun D σ H ⟨G0, H0, μ0, G, μ, sd, E, hx, hs, hw, hE⟩ => ?_⟩
  refine ⟨G0, H0, μ0, G, μ, sd, _, _, hx, hs, hw, fun ds L μ1 ⟨I, i0, lk, turn, fin⟩ J G1 H1 e1' goes => ?_, hE.xok hx hs⟩
  have hx0 := hx
  obtain ⟨Gp, Y, wk, g1, g2⟩ := goes.ok
  refine for_it wk (fun n σ H => ∃ G μ sd, GLe G1 G ∧ Ext X.K wd.cl G0 H0 μ0 G H μ ∧ Slots X.K wd H0 G H μ σ sd ∧ I n sd μ) ⟨G1, μ1, sd, GLe.refl _, hx.trans e1', hs.step e1', i0⟩ (fun i σ H _ ⟨G, μ, sd, s, hx, _, q⟩ => g1 G H μ s hx.rep (lk _ _ _ q)) ?_ ?_
  · intro i x σ H H' hi ⟨G, μ, sd, s, hx, hs, q⟩ y
    obtain ⟨G3, d, e1, e2, den⟩ := g2 i H x H' y G μ s hx.rep (lk _ _ _ q)
    refine tg_run e2.rep (hs.step e2) den (turn i d sd μ e1 q) fun sd' q' σ' hs' _ => ?_
    have x0 := hx0.trans e1'
    refine ⟨G1, H0, μ0, G3, μ, sd', _, x0.re (s.trans e2.g) (hx.trans e2), hs', q', ?_⟩
    exact ⟨fun sd μ q σ G H hx hs => ⟨G, μ, sd, hx.g, x0.un hx, hs, q⟩, fun sd μ q σ G H hx hs => hE.nx _ _ q σ G H (x0.un hx) hs, fun sd μ q σ G H hx hs => ⟨G, μ, sd, hx.g, x0.un hx, hs, q⟩,
      fun r μ q v G H hx rel => hE.rt r μ q v G H (x0.un hx) rel, fun c fs sd μ q C d σ G H hc hx hs xd => hE.ex c fs sd μ q C d σ G H hc (x0.un hx) hs xd⟩
  · intro σ H ⟨G, μ, sd, s, hx, hs, q⟩
    exact hE.nx _ _ (fin sd μ q) σ G H hx hs

/-! ### comprehensions -/
def wipeD (sd : SD) : List Nat → SD
  | [] => sd
  | v :: vs => (wipeD sd vs).set v none
theorem Slots.wipe {K : PySem.W.Frag} {wd : Wd} {G : Gh} {H0 H : Hp} {μ : Mu} {σ : L2.St} {sd : SD} (h : Slots K wd H0 G H μ σ sd) : ∀ vs : List Nat, Slots K wd H0 G H μ (L2.wipe σ vs) (wipeD sd vs)
  | [] => h
  | v :: vs => (h.wipe vs).setN
def XF : XT := fun _ _ _ => False
/-- no exception leaves the block -/
def Wd.calm (wd : Wd) : Wd := { wd with W := fun _ _ _ _ => False }
theorem Slots.cong {K : PySem.W.Frag} {wd wd' : Wd} (hc : wd'.cl = wd.cl) (hh : wd'.hnd = wd.hnd) (hfp : wd'.fp = wd.fp) {G : Gh} {H0 H : Hp} {μ : Mu} {σ : L2.St} {sd : SD} (h : Slots K wd H0 G H μ σ sd) : Slots K wd' H0 G H μ σ sd := by
  cases wd; cases wd'
  dsimp only at hc hh hfp
  subst hc hh hfp
  exact ⟨h.len, fun i s q => let ⟨v, h1, h2⟩ := h.at_ i s q; ⟨v, h1, by cases s <;> exact h2⟩, h.sep⟩
theorem xok_F {K : PySem.W.Frag} {wd : Wd} {G : Gh} {H : Hp} {μ : Mu} {σ : L2.St} : XOk K wd G H μ σ XF := fun _ _ _ q => q.elim
def wYes : WT := fun _ μ _ k => k true μ
structure QTs (wd : Wd) (X : Cx) (ifs : List Expr) (w : WT) : Prop where
  pts : PTs X ifs (rdT X.K wd w)
theorem qts_nil : QTs wd X [] wYes := ⟨⟨fun pins s σ H Q I ⟨G0, H0, μ0, G, μ, sd, x, k, hx, hs, hw, hk, hxo⟩ => pts_nil.run pins s σ H Q I (hk _ _ hw G H (.refl hx.rep))⟩⟩
theorem qts_one {c : Expr} (h : QT wd X c wt) : QTs wd X [c] wt := ⟨pts_one h.pt⟩
def wLc (wi : WI) (tg : Tg) (wt : WT) (we : WE) (vs : List Nat) : WE := fun sd μ x k => wi sd μ x fun ds L μ1 => ds.length ≤ sizeLine ∧ ∃ I : Nat → List D → Mu → Prop, I 0 [] μ1 ∧ (∀ n acc μ, I n acc μ → lkOk L μ) ∧
  (∀ n d acc μ, ds[n]? = some d → I n acc μ → tg.bind d (wipeD sd vs) fun sd' => wt sd' μ XF fun b μ2 => (b = true → we sd' μ2 XF fun r μ3 => withT r fun y => I (n + 1) (acc ++ [y]) μ3) ∧ (b = false → I (n + 1) acc μ2)) ∧
  ∀ acc μ, I ds.length acc μ → k (.new (.lst acc)) μ
theorem lc_red {tg : Tg} {vs : List Nat} {σ : L2.St} {H : Hp} {Q : VK} (hsub : ∀ i ∈ tg.slots, i ∈ vs) (h : rdE X.K wd (wLc wi tg wt w vs) σ H Q) : tLc (rdI X.K wd wi) (tg.g X.K) (rdT X.K wd.calm wt) (rdE X.K wd.calm w) vs σ H Q := by
  obtain ⟨G0, H0, μ0, G, μ, sd, x, k, hx, hs, hw, hk, hxo⟩ := h
  refine ⟨G0, H0, μ0, G, μ, sd, x, _, hx, hs, hw, fun ds L μ1 ⟨hlen, I, i0, lk, turn, fin⟩ J G1 H1 e1 goes D hD => ?_, hxo⟩
  obtain ⟨Gp, Y, wk, g1, g2⟩ := goes.ok
  obtain ⟨hgD, hmD⟩ := e1.rep.free hD
  have calm : ∀ {G : Gh} {H0 H : Hp} {μ : Mu} {σ : L2.St} {sd : SD}, Slots X.K wd H0 G H μ σ sd → Slots X.K wd.calm H0 G H μ σ sd := fun h => Slots.cong (wd := wd) (wd' := wd.calm) rfl rfl rfl h
  refine lc_it wk (fun n H => ∃ G μ us acc, Ext X.K wd.cl G1 H1 μ1 G H μ ∧ H D = some (.lst us) ∧ DenL X.K wd.cl G us acc ∧ G.fz D = none ∧ D ∉ G.ρ ∧ acc.length ≤ n ∧ I n acc μ)
    ⟨G1, μ1, [], [], Ext.loose e1.rep hD, upd_same, .nil, hgD, hmD, Nat.le_refl _, i0⟩ (fun i H _ ⟨G, μ, us, acc, e, _, _, _, _, _, q⟩ => g1 G H μ e.g e.rep (lk _ _ _ q)) ?_ ?_
  · intro i y H H' hi ⟨G, μ, us, acc, e, hu, hd, gD, mD, ha, q⟩ yy
    obtain ⟨G3, d, t1, t2, den⟩ := g2 i H y H' yy G μ e.g e.rep (lk _ _ _ q)
    obtain ⟨u1, u2, u3⟩ := t2.fr D _ hu gD mD
    have hs1 : Slots X.K wd H0 G3 H' μ (L2.wipe σ vs) (wipeD sd vs) := ((hs.step e1).step (e.trans t2)).wipe vs
    refine tg_run t2.rep hs1 den (turn i d acc μ t1 q) fun sd' q' σ' hs' hwp => ⟨by rw [hwp vs hsub, wipe_idem], ?_⟩
    refine ⟨G0, H0, μ0, G3, μ, sd', XF, _, (hx.trans e1).trans (e.trans t2), calm hs', q', fun b μ2 q2 G4 H4 e4 => ?_, xok_F⟩
    obtain ⟨w1, w2, w3⟩ := e4.fr D _ u1 u2 u3
    cases b with
    | false =>
      refine iteF ⟨G4, μ2, us, acc, (e.trans t2).trans e4, w1, DenL.mono (t2.g.trans e4.g) _ _ hd, w2, w3, Nat.le_succ_of_le ha, q2.2 rfl⟩
    | true =>
      refine iteT ⟨G0, H0, μ0, G4, μ2, sd', XF, _, ((hx.trans e1).trans (e.trans t2)).trans e4, calm (hs'.step e4), q2.1 rfl, fun r μ5 q5 v G5 H5 e5 rel => ?_, xok_F⟩
      obtain ⟨z, hz, q5⟩ := withT_tree q5
      obtain ⟨G6, e6, s6, den6⟩ := keep (wd := wd) e5 rel hz
      obtain ⟨z1, z2, z3⟩ := e6.fr D _ w1 w2 w3
      have hlu : us.length = acc.length := hd.len
      refine ⟨us, z1, by omega, G6, μ5, us ++ [v], acc ++ [z], ?_, upd_same, (DenL.mono ((t2.g.trans e4.g).trans e6.g) _ _ hd).app (.one den6), z2, z3, by rw [List.length_append, List.length_singleton]; omega, q5⟩
      exact Ext.write (((e.trans t2).trans e4).trans e6) hD z1 z2 z3
  · intro H ⟨G, μ, us, acc, e, hu, hd, gD, mD, ha, q⟩
    exact hk _ _ (fin acc μ q) _ G H (e1.trans e) ⟨D, _, rfl, e1.dom D hD, hu, hd, gD, mD⟩
theorem qe_lc {elt : Expr} {ifs : List Expr} {scope : Scope} {own : List (Str × Nat)} {t : Expr} {tg : Tg} (hc : X.calm = true) (hN : X.N.Nodup) (hi : QI wd X t iter wi) (ok : BlkOk X.N X.env.scope scope own)
    (hg : ∀ (s : Shared) (H : Hp) (C : Addr) (cl : List (Str × Addr)) (fp : List Addr), QG (X.blk s H scope (compEnvC scope cl C X.env) fp) t tg)
    (ht : ∀ (s : Shared) (H : Hp) (C : Addr) (cl : List (Str × Addr)) (fp : List Addr), QTs wd.calm (X.blk s H scope (compEnvC scope cl C X.env) fp) ifs wt)
    (he : ∀ (s : Shared) (H : Hp) (C : Addr) (cl : List (Str × Addr)) (fp : List Addr), QE wd.calm (X.blk s H scope (compEnvC scope cl C X.env) fp) elt w)
    (hsub : ∀ i ∈ tg.slots, i ∈ own.map (·.2) := by decide) (hs : ∀ x, foldedSetIterable iter X.env x = pure x := by intro _; rfl) :
    QE wd X (.ListComp elt [⟨t, iter, ifs, 0⟩] scope pos) (wLc wi tg wt w (own.map (·.2))) :=
  ⟨PE.imp (pe_lc hc hN hi.pi ok (fun s H C cl fp => (hg s H C cl fp).pg) (fun s H C cl fp => (ht s H C cl fp).pts) (fun s H C cl fp => (he s H C cl fp).pe) hs) fun σ H Q h => lc_red hsub h⟩
theorem qs_setLc {i : Nat} {y : Str} {py spos : Pos} {elt : Expr} {ifs : List Expr} {scope : Scope} {own : List (Str × Nat)} {t : Expr} {tg : Tg} (hc : X.calm = true) (hN : X.N.Nodup) (hi : QI wd X t iter wi) (ok : BlkOk X.N X.env.scope scope own)
    (hg : ∀ (s : Shared) (H : Hp) (C : Addr) (cl : List (Str × Addr)) (fp : List Addr), QG (X.blk s H scope (compEnvC scope cl C X.env) fp) t tg)
    (ht : ∀ (s : Shared) (H : Hp) (C : Addr) (cl : List (Str × Addr)) (fp : List Addr), QTs wd.calm (X.blk s H scope (compEnvC scope cl C X.env) fp) ifs wt)
    (he : ∀ (s : Shared) (H : Hp) (C : Addr) (cl : List (Str × Addr)) (fp : List Addr), QE wd.calm (X.blk s H scope (compEnvC scope cl C X.env) fp) elt w)
    (hsw : swapsWith (.ListComp elt [⟨t, iter, ifs, 0⟩] scope pos) (some (.Name y py)) spos.line X.env = pure true)
    (hy : X.N[i]? = some y := by rfl) (hyl : X.env.scope.names.lookup y = some .local := by rfl) (hsub : ∀ i ∈ tg.slots, i ∈ own.map (·.2) := by decide) (hs : ∀ x, foldedSetIterable iter X.env x = pure x := by intro _; rfl) :
    QS wd X (.Assign [.Name y py] (.ListComp elt [⟨t, iter, ifs, 0⟩] scope pos) spos) (wSet (.n i) (wLc wi tg wt w (own.map (·.2)))) :=
  ⟨PS.imp (ps_setLc hc hN hy hyl hsw hi.pi ok (fun s H C cl fp => (hg s H C cl fp).pg) (fun s H C cl fp => (ht s H C cl fp).pts) (fun s H C cl fp => (he s H C cl fp).pe) hs) fun D σ H h => by
    have h' := set_rel (tg := .n i) h
    exact lc_red hsub h'⟩
theorem qs_setLcO {i : Nat} {y : Str} {py spos : Pos} {elt : Expr} {ifs : List Expr} {scope : Scope} {own : List (Str × Nat)} {t : Expr} {tg : Tg} (hc : X.calm = true) (hN : X.N.Nodup) (hi : QI wd X t iter wi) (ok : BlkOk X.N X.env.scope scope own)
    (hg : ∀ (s : Shared) (H : Hp) (C : Addr) (cl : List (Str × Addr)) (fp : List Addr), QG (X.blk s H scope (compEnvC scope cl C X.env) fp) t tg)
    (ht : ∀ (s : Shared) (H : Hp) (C : Addr) (cl : List (Str × Addr)) (fp : List Addr), QTs wd.calm (X.blk s H scope (compEnvC scope cl C X.env) fp) ifs wt)
    (he : ∀ (s : Shared) (H : Hp) (C : Addr) (cl : List (Str × Addr)) (fp : List Addr), QE wd.calm (X.blk s H scope (compEnvC scope cl C X.env) fp) elt w)
    (hsw : swapsWith (.ListComp elt [⟨t, iter, ifs, 0⟩] scope pos) (some (.Name y py)) spos.line X.env = pure true)
    (hy : X.N[i]? = some y := by rfl) (hyl : X.env.scope.names.lookup y = some .local := by rfl) (hsub : ∀ i ∈ tg.slots, i ∈ own.map (·.2) := by decide) (hs : ∀ x, foldedSetIterable iter X.env x = pure x := by intro _; rfl) :
    QS wd X (.Assign [.Name y py] (.ListComp elt [⟨t, iter, ifs, 0⟩] scope pos) spos) (wSetO i (wLc wi tg wt w (own.map (·.2)))) :=
  ⟨PS.imp (ps_setLc hc hN hy hyl hsw hi.pi ok (fun s H C cl fp => (hg s H C cl fp).pg) (fun s H C cl fp => (ht s H C cl fp).pts) (fun s H C cl fp => (he s H C cl fp).pe) hs) fun D σ H h => by
    have h' := setO_rel h
    exact lc_red hsub h'⟩
end
end TL
/-! TL: defs, calls, methods, instances -/
namespace TL
open PySem PySem.Spec L2

abbrev TSp := List D → Mu → XT → (R → Mu → Prop) → Prop
/-- a def's promise, by trees -/
def spT (K : PySem.W.Frag) (cl : Cl) (n : Nat) (F : TSp) : Sp := fun vs H Q E => ∃ G μ ds x k, ds.length = n ∧ Rep K cl G H μ ∧ DenL K cl G vs ds ∧ F ds μ x k ∧
  (∀ r μ', k r μ' → ∀ v G' H', Ext K cl G H μ G' H' μ' → RelN K cl H G' H' μ' v r → Q v H') ∧
  (∀ c fs μ', x c fs μ' → ∀ C d G' H', cl c = some C → Ext K cl G H μ G' H' μ' → XdOk K cl G' H' μ' d fs → E (.ref C) d H')
def startD (n : Nat) (ds : List D) : SD := ds.map (fun d => some (SV.fz d)) ++ List.replicate (n - ds.length) none
/-- a def's body, run -/
def run (n : Nat) (ws : WS) : TSp := fun ds μ x k => ws ⟨fun _ μ' => k (.d .non) μ', k, fun _ _ => False, fun _ _ => False, fun c fs _ μ' => x c fs μ'⟩ (startD n ds) μ
theorem slots_start {K : PySem.W.Frag} {wd : Wd} {G : Gh} {H : Hp} {μ : Mu} {N : List Str} {vs : List V} {ds : List D} (h : DenL K wd.cl G vs ds) : Slots K wd H G H μ (L2.start N vs) (startD N.length ds) := by
  have hl := h.len
  have own : ∀ {j : Nat} {fs : D}, (startD N.length ds)[j]? = some (some (.own fs)) → False := fun {j fs} q => by
    unfold startD at q
    by_cases hj : j < ds.length
    · rw [List.getElem?_append_left (by rw [List.length_map]; exact hj), List.getElem?_map, List.getElem?_eq_getElem hj] at q
      cases q
    · rw [List.getElem?_append_right (by rw [List.length_map]; omega), List.getElem?_replicate] at q
      split at q <;> cases q
  refine ⟨?_, fun i s q => ?_, fun i j v' fs gs hjk q1 q2 q3 q4 => (own q1).elim⟩
  · unfold startD L2.start
    simp only [List.length_append, List.length_map, List.length_replicate]
    rw [hl]
  · unfold startD at q
    by_cases hi : i < ds.length
    · rw [List.getElem?_append_left (by rw [List.length_map]; exact hi), List.getElem?_map, List.getElem?_eq_getElem hi] at q
      cases q
      obtain ⟨v, h1, h2⟩ := h.get (List.getElem?_eq_getElem hi)
      refine ⟨v, ?_, h2⟩
      unfold L2.start
      rw [List.getElem?_append_left (by rw [List.length_map]; omega), List.getElem?_map, h1]
      rfl
    · rw [List.getElem?_append_right (by rw [List.length_map]; omega), List.getElem?_replicate] at q
      split at q <;> cases q

section
variable {P : Program} {w : World} {K : PySem.W.Frag} {mg : Str → Option Value} {base : Heap} {cl : Cl}
/-- a def of the text keeps what its body, read by trees, says -/
theorem fnT {x qual : Str} {st : Stmt} {f : Addr} {fd : FuncData} {N ps : List Str} {k : Nat} {ws : WS} (F : Fun K x qual st f fd) (S : FnScope N ps (defScope st))
    (hbody : ∀ (cdv : Value) (A : Around) (outer : List Env) (s : Shared) (H : Hp) (E : XK), Room k (A.deeper (PyProof.Rows.envOfC qual (defScope st) s.heap.objs.size f cdv)) →
      QSs ⟨cl, fun cls d _ H => E cls d H, none, fp0⟩ (cxOf (L2.CX P w) P w K mg base N qual (defScope st) f cdv A outer s H E) (defBody st) ws) :
    FnOk P w K mg base (L2.CX P w) (k + 1) f fd ps (spT K cl ps.length (run N.length ws)) := by
  refine F.okX S (fun vs H Q E ⟨G, μ, ds, x, k, hn, hr, hd, _⟩ => by rw [hd.len, hn]) fun cdv A outer s H vs Q E hr h => ⟨_, (hbody cdv A outer s H E hr).pss, ?_⟩
  obtain ⟨G, μ, ds, x, k, hn, rp, hd, hw, hk, hx⟩ := h
  refine ⟨G, H, μ, G, μ, startD N.length ds, _, .refl rp, slots_start hd, hw, ?_⟩
  exact ⟨fun sd μ' q σ G' H' e hs => hk _ _ q .non G' H' e Den.non, fun sd μ' q => q.elim, fun sd μ' q => q.elim, fun r μ' q v G' H' e rel => hk r μ' q v G' H' e rel, fun c fs sd μ' q C d σ G' H' hc e hs xd => hx c fs μ' q C d G' H' hc e xd⟩
end

section
variable {X : Cx} {wd : Wd} {e o a b c : Expr} {es rest : List Expr} {w wo wa wb wc : WE} {wt wu : WT} {ws : WA} {pos p apos : Pos} {st : Stmt} {sts body : List Stmt} {s1 s2 s3 : WS} {k : Nat} {f : Addr} {fd : FuncData} {ps : List Str} {Fn : TSp} {x m : Str}
/-- what a callee may let out is taken -/
def TakesE (wd : Wd) (X : Cx) : Prop := ∀ σ, PassesAt (L2.CX X.prog X.w) X σ (L2.WE wd.W σ)
theorem takesE_of (tk : Takes X wd.W) : TakesE wd X := fun σ => passAt tk σ
theorem takesE_blk {X : Cx} {wd : Wd} {s : Shared} {H : Hp} {scope : Scope} {cenv : Env} {fp : List Addr} : TakesE wd.calm (X.blk s H scope cenv fp) := fun σ => passAt takes0 σ

def wCall (n : Nat) (Fn : TSp) (ws : WA) : WE := fun sd μ x k => ws sd μ x fun ds μ1 => ds.length = n ∧ Fn ds μ1 x k
theorem call_red {n : Nat} {σ : L2.St} {H : Hp} {Q : VK} (h : rdE X.K wd (wCall n Fn ws) σ H Q) : rdA X.K wd ws σ H fun vs H1 => spT X.K wd.cl n Fn vs H1 Q (L2.WE wd.W σ) := by
  obtain ⟨G0, H0, μ0, G, μ, sd, x, k, hx, hs, hw, hk, hxo⟩ := h
  refine ⟨G0, H0, μ0, G, μ, sd, x, _, hx, hs, hw, fun ds μ1 q vs G1 H1 e1 hd => ?_, hxo⟩
  refine ⟨G1, μ1, ds, x, k, q.1, e1.rep, hd, q.2, fun r μ' q' v G' H' e' rel => ?_, fun c fs μ' q' C d G' H' hc e' xd => ?_⟩
  · exact hk r μ' q' v G' H' (e1.trans e') (rel.back fun a z => e1.dom a z).rel
  · exact hxo c fs μ' q' C d G' H' hc (e1.trans e') xd
theorem qe_call (F : FnOk X.prog X.w X.K X.mg X.base (L2.CX X.prog X.w) k f fd ps (spT X.K wd.cl ps.length Fn)) (hr : Room k X.A) (hm : X.mg x = some (.ref f)) (hk : PySem.W.keepIn X.K (.ref f) = true) (hb : Binds X.K fd ps []) (tk : TakesE wd X)
    (ha : QA wd X (e :: es) ws) (hg : Gl X x := by rfl) (hdb : (x == ("__debug__" : Str)) = false := by decide) (he : starEach (e :: es) X.env = (false, eval e X.env) :: starEach es X.env := by rfl) (hpl : (backTo pos (starEach es X.env)).any (·.1) = false := by rfl) :
    QE wd X (.Call (.Name x p) (e :: es) [] pos) (wCall ps.length Fn ws) :=
  ⟨PE.imp (pe_callS F hr hg hm hk hb tk ha.pa hdb he hpl) fun σ H Q h => call_red h⟩
theorem qe_call0 (F : FnOk X.prog X.w X.K X.mg X.base (L2.CX X.prog X.w) k f fd ps (spT X.K wd.cl ps.length Fn)) (hr : Room k X.A) (hm : X.mg x = some (.ref f)) (hk : PySem.W.keepIn X.K (.ref f) = true) (hb : Binds X.K fd ps []) (tk : TakesE wd X)
    (hg : Gl X x := by rfl) (hdb : (x == ("__debug__" : Str)) = false := by decide) : QE wd X (.Call (.Name x p) [] [] pos) (wCall ps.length Fn wNil) := by
  refine ⟨⟨fun pins s σ H Q I h => ?_⟩⟩
  obtain ⟨G0, H0, μ0, G, μ, sd, x', k', hx, hs, hw, hk', hxo⟩ := h
  refine wpAny_Call_Name_kw (ld_glob I hg hm ?_ hdb)
  refine PySem.W.callWith_K0 I.kIn hk (run_fnS (us := []) F hr hb (tk σ) I .nil ?_)
  exact ⟨G, μ, [], x', k', hw.1, hx.rep, .nil, hw.2, fun r μ' q' v G' H' e' rel => hk' r μ' q' v G' H' e' rel.rel, fun c fs μ' q' C d G' H' hc e' xd => hxo c fs μ' q' C d G' H' hc e' xd⟩

/-! ### methods -/
/-- the classes whose method m one may meet -/
def MethT (X : Cx) (cl : Cl) (cs : List Nat) (m : Str) (n : Nat) (Fs : Nat → TSp) : Prop := ∀ c, cs.elem c = true → ∀ C, cl c = some C → Cls X.K C ∧ ∃ f fd ps k, Meth X.K C m f ∧ ps.length = n + 1 ∧
  FnOk X.prog X.w X.K X.mg X.base (L2.CX X.prog X.w) k f fd ps (spT X.K cl (n + 1) (Fs c)) ∧ Room k X.A ∧ Binds X.K fd ps []
def wMeth (cs : List Nat) (n : Nat) (Fs : Nat → TSp) (wo : WE) (ws : WA) : WE := fun sd μ x k => wo sd μ x fun r μ1 => match r with
  | .d (.obj c fs) => cs.elem c = true ∧ ws sd μ1 x fun ds μ2 => ds.length = n ∧ Fs c (.obj c fs :: ds) μ2 x k
  | .d (.ref a) => ∃ c fs, μ1[a]? = some (.ins c fs) ∧ cs.elem c = true ∧ ws sd μ1 x fun ds μ2 => ds.length = n ∧ Fs c (.ref a :: ds) μ2 x k
  | _ => False
/-- what getMethod meets -/
def tMeet (K : PySem.W.Frag) (to : TE) (m : Str) (Qm : Addr → Addr → Hp → Prop) : St → Hp → Prop := fun σ H => to σ H fun x H1 => ∃ a C dx fs f, x = .ref a ∧ H1 a = some (.ins C dx fs) ∧ Cls K C ∧ Meth K C m f ∧ fs.lookup m = none ∧ Qm a f H1
theorem qe_meth {cs : List Nat} {n : Nat} {Fs : Nat → TSp} {pl : Sem Bool} (ho : QE wd X o wo) (hM : MethT X wd.cl cs m n Fs) (tk : TakesE wd X) (ha : QA wd X (e :: es) ws) (hnf : ∀ k < 32, fnm k ≠ m := by decide +kernel)
    (hst : starEach (e :: es) X.env = (false, eval e X.env) :: starEach es X.env := by rfl) (hpl : (backTo pos (starEach es X.env)).any (·.1) = false := by rfl)
    (ht : eval (.Call (.Attribute o m apos) (e :: es) [] pos) X.env = (do
      let ov ← eval o X.env
      standAt apos.atName
      let (f, first) ← holding [ov] (getMethod ov m pl)
      callWith pos f first (backTo pos (starEach (e :: es) X.env)) (backToKw pos (keywordEach [] X.env))) := by rfl) :
    QE wd X (.Call (.Attribute o m apos) (e :: es) [] pos) (wMeth cs n Fs wo ws) := by
  refine ⟨⟨fun pins s σ H Q I h => ?_⟩⟩
  obtain ⟨G0, H0, μ0, G, μ, sd, x, k, hx, hs, hw, hk, hxo⟩ := h
  refine PySem.W.methodCall_KW (pl := pl) (thn (ho.pe.run pins s σ H (fun v H1 => ∃ r μ1 G1, Ext X.K wd.cl G H μ G1 H1 μ1 ∧ RelR X.K wd.cl H G1 H1 μ1 σ sd v r ∧ _) I ⟨G0, H0, μ0, G, μ, sd, x, _, hx, hs, hw, fun r μ1 q v G1 H1 e1 rel => ⟨r, μ1, G1, e1, rel, q⟩, hxo⟩) fun u s1 hh => ?_) ht
  obtain ⟨v, H1, I1, rv, r, μ1, G1, e1, rel, q⟩ := hh
  -- what is common
  have fin : ∀ (a C dx : Addr) (vs0 : List (Str × V)) (fs : List (Nat × D)) (c : Nat) (d0 : D), v = .ref a → H1 a = some (.ins C dx vs0) → DenF X.K wd.cl G1 vs0 fs → wd.cl c = some C → cs.elem c = true → Den X.K wd.cl G1 v d0 →
      (ws sd μ1 x fun ds μ2 => ds.length = n ∧ Fs c (d0 :: ds) μ2 x k) →
      wpAny (model X.prog X.w) X.A (getMethod u m pl) (fun p s2 => wpAny (model X.prog X.w) X.A (callWith pos p.1 p.2 (backTo pos (starEach (e :: es) X.env)) (backToKw pos (keywordEach [] X.env))) (EP X pins σ Q) X.xe s2) X.xe s1 := by
    intro a C dx vs0 fs c d0 ev ha1 hf hc hcs hd q
    subst ev
    obtain rfl : u = Value.ref a := rv
    obtain ⟨hC, f, fd, ps, k', hm, hl, F, hr, hb⟩ := hM c hcs C hc
    refine getmeth_ok I1 ha1 hC hm (hf.look0 hnf) ?_
    refine PySem.W.callWith_K (first := [.ref a]) (h₀ := X.base) I.ok.mod.kin hm.kp (thn (ha.pa.run pos pins s1 σ H1 (fun vs H2 => spT X.K wd.cl (n + 1) (Fs c) (.ref a :: vs) H2 Q (L2.WE wd.W σ)) I1 ?_) fun us s2 ⟨vs, H2, I2, r, q2⟩ => ⟨I2.kIn, ?_⟩) hst hpl
    · refine ⟨G0, H0, μ0, G1, μ1, sd, x, _, hx.trans e1, hs.step e1, q, fun ds μ2 q2 vs G2 H2 e2 hd2 => ?_, hxo.step e1⟩
      refine ⟨G2, μ2, d0 :: ds, x, k, by rw [List.length_cons, q2.1], e2.rep, .cons (Den.mono e2.g _ _ hd) hd2, q2.2, fun r μ' q' v G' H' e' rel => ?_, fun c fs μ' q' C d G' H' hc e' xd => ?_⟩
      · exact hk r μ' q' v G' H' ((e1.trans e2).trans e') (rel.back fun a z => (e1.trans e2).dom a z).rel
      · exact hxo c fs μ' q' C d G' H' hc ((e1.trans e2).trans e') xd
    · exact run_fnS (us := .ref a :: us) (vs := .ref a :: vs) F hr hb (tk σ) I2 (.cons rfl r) q2
  cases r with
  | «at» i => exact q.elim
  | new ds => exact q.elim
  | d y =>
    cases y <;> try exact q.elim
    · rename_i c fs
      have rel' := rel
      cases rel with
      | @obj a C dx _ vs _ h1 h2 h3 => exact fin a C dx vs fs c _ rfl (e1.rep.sub _ _ h2) h3 h1 q.1 rel' q.2
    · rename_i a
      obtain ⟨c, fs, hm, hc, q⟩ := q
      have rel' := rel
      cases rel with
      | @ref a' _ hn =>
      obtain ⟨C, dx, vs, n1, ho, n2⟩ := e1.rep.ins hn hm
      exact fin a' _ _ _ fs c _ rfl ho n2 n1 hc rel' q
theorem qe_meth0 {cs : List Nat} {Fs : Nat → TSp} {pl : Sem Bool} (ho : QE wd X o wo) (hM : MethT X wd.cl cs m 0 Fs) (tk : TakesE wd X) (hnf : ∀ k < 32, fnm k ≠ m := by decide +kernel)
    (ht : eval (.Call (.Attribute o m apos) [] [] pos) X.env = (do
      let ov ← eval o X.env
      standAt apos.atName
      let (f, first) ← holding [ov] (getMethod ov m pl)
      callWith pos f first (backTo pos (starEach [] X.env)) (backToKw pos (keywordEach [] X.env))) := by rfl) :
    QE wd X (.Call (.Attribute o m apos) [] [] pos) (wMeth cs 0 Fs wo wNil) := by
  refine ⟨⟨fun pins s σ H Q I h => ?_⟩⟩
  obtain ⟨G0, H0, μ0, G, μ, sd, x, k, hx, hs, hw, hk, hxo⟩ := h
  refine PySem.W.methodCall_KW (pl := pl) (thn (ho.pe.run pins s σ H (fun v H1 => ∃ r μ1 G1, Ext X.K wd.cl G H μ G1 H1 μ1 ∧ RelR X.K wd.cl H G1 H1 μ1 σ sd v r ∧ _) I ⟨G0, H0, μ0, G, μ, sd, x, _, hx, hs, hw, fun r μ1 q v G1 H1 e1 rel => ⟨r, μ1, G1, e1, rel, q⟩, hxo⟩) fun u s1 hh => ?_) ht
  obtain ⟨v, H1, I1, rv, r, μ1, G1, e1, rel, q⟩ := hh
  have fin : ∀ (a C dx : Addr) (vs0 : List (Str × V)) (fs : List (Nat × D)) (c : Nat) (d0 : D), v = .ref a → H1 a = some (.ins C dx vs0) → DenF X.K wd.cl G1 vs0 fs → wd.cl c = some C → cs.elem c = true → Den X.K wd.cl G1 v d0 →
      Fs c [d0] μ1 x k →
      wpAny (model X.prog X.w) X.A (getMethod u m pl) (fun p s2 => wpAny (model X.prog X.w) X.A (callWith pos p.1 p.2 (backTo pos (starEach [] X.env)) (backToKw pos (keywordEach [] X.env))) (EP X pins σ Q) X.xe s2) X.xe s1 := by
    intro a C dx vs0 fs c d0 ev ha1 hf hc hcs hd q
    subst ev
    obtain rfl : u = Value.ref a := rv
    obtain ⟨hC, f, fd, ps, k', hm, hl, F, hr, hb⟩ := hM c hcs C hc
    refine getmeth_ok I1 ha1 hC hm (hf.look0 hnf) ?_
    refine PySem.W.callWith_K0 (first := [.ref a]) I1.kIn hm.kp (run_fnS (us := [.ref a]) (vs := [.ref a]) F hr hb (tk σ) I1 (.cons rfl .nil) ?_)
    refine ⟨G1, μ1, [d0], x, k, rfl, e1.rep, .one hd, q, fun r μ' q' v G' H' e' rel => ?_, fun c fs μ' q' C d G' H' hc e' xd => ?_⟩
    · exact hk r μ' q' v G' H' (e1.trans e') (rel.back fun a z => e1.dom a z).rel
    · exact hxo c fs μ' q' C d G' H' hc (e1.trans e') xd
  cases r with
  | «at» i => exact q.elim
  | new ds => exact q.elim
  | d y =>
    cases y <;> try exact q.elim
    · rename_i c fs
      have rel' := rel
      cases rel with
      | @obj a C dx _ vs _ h1 h2 h3 => exact fin a C dx vs fs c _ rfl (e1.rep.sub _ _ h2) h3 h1 q.1 rel' q.2.2
    · rename_i a
      obtain ⟨c, fs, hm, hc, q⟩ := q
      have rel' := rel
      cases rel with
      | @ref a' _ hn =>
      obtain ⟨C, dx, vs, n1, ho, n2⟩ := e1.rep.ins hn hm
      exact fin a' _ _ _ fs c _ rfl ho n2 n1 hc rel' q.2
/-- C.m(..), m a def of the class C -/
theorem qe_cfn {C : Addr} {mc : Value} {pl : Sem Bool} {p2 : Pos} (hm : X.mg x = some (.ref C)) (r : ClX.CRead X.K C mc) (c : ClX.CVal X.K C mc m (.ref f) (.ref f)) (F : FnOk X.prog X.w X.K X.mg X.base (L2.CX X.prog X.w) k f fd ps (spT X.K wd.cl ps.length Fn)) (hr : Room k X.A)
    (hk : PySem.W.keepIn X.K (.ref f) = true) (hb : Binds X.K fd ps []) (tk : TakesE wd X) (ha : QA wd X (e :: es) ws) (hg : Gl X x := by rfl) (hdb : (x == ("__debug__" : Str)) = false := by decide)
    (hst : starEach (e :: es) X.env = (false, eval e X.env) :: starEach es X.env := by rfl) (hpl : (backTo pos (starEach es X.env)).any (·.1) = false := by rfl)
    (ht : eval (.Call (.Attribute (.Name x p2) m apos) (e :: es) [] pos) X.env = (do
      let ov ← eval (.Name x p2) X.env
      standAt apos.atName
      let (f, first) ← holding [ov] (getMethod ov m pl)
      callWith pos f first (backTo pos (starEach (e :: es) X.env)) (backToKw pos (keywordEach [] X.env))) := by rfl) :
    QE wd X (.Call (.Attribute (.Name x p2) m apos) (e :: es) [] pos) (wCall ps.length Fn ws) := by
  refine ⟨⟨fun pins s σ H Q I h => ?_⟩⟩
  have h' := call_red h
  refine PySem.W.methodCall_KW (pl := pl) (ld_glob I hg hm ?_ hdb) ht
  refine PySem.W.method_cls I.kIn r.ga (ClX.getcval_ok I r c fun s1 I1 => ?_)
  refine PySem.W.callWith_K (first := []) (h₀ := X.base) I.ok.mod.kin hk (thn (ha.pa.run pos pins s1 σ H _ I1 h') fun us s2 ⟨vs, H1, I2, rv, q⟩ => ⟨I2.kIn, ?_⟩) hst hpl
  exact run_fnS F hr hb (tk σ) I2 rv q
end
end TL
/-! TL: instances made and changed, exceptions, the law's end -/
namespace TL
open PySem PySem.Spec L2

section
variable {K : PySem.W.Frag} {cl : Cl} {G0 G G1 G2 : Gh} {H0 H H1 H2 : Hp} {μ0 μ μ1 μ2 : Mu}
/-- a new thing that may change -/
theorem Ext.node (r : Rep K cl G H μ) {p : Addr} {o : HO} {n : Nd} (h : H p = none) (ok : NdOk K cl (gnew G p) p o n) : Ext K cl G H μ (gnew G p) (upd H p o) (μ ++ [n]) := by
  obtain ⟨hg, hm⟩ := r.free h
  have e := Ext.loose (o := o) r h
  refine ⟨gle_new, ⟨e.rep.sub, by show (G.ρ ++ [p]).length = _; rw [List.length_append, List.length_append, r.len]; rfl, ?_, fun m a q => ?_⟩, e.dom, fun a u q g m => ?_⟩
  · show (G.ρ ++ [p]).Nodup
    rw [List.nodup_append]
    refine ⟨r.nd, by simp, fun a ha b hb => ?_⟩
    rw [List.mem_singleton] at hb
    subst hb
    exact fun z => hm (z ▸ ha)
  · have q : (G.ρ ++ [p])[m]? = some a := q
    by_cases hb : m < G.ρ.length
    · rw [List.getElem?_append_left hb] at q
      obtain ⟨ga, m', u, q1, q2, ok'⟩ := e.rep.node m a q
      exact ⟨ga, m', u, by rw [List.getElem?_append_left (by rw [← r.len]; exact hb)]; exact q1, q2, ok'.mono gle_new⟩
    · rw [List.getElem?_append_right (by omega)] at q
      have e1 : m - G.ρ.length = 0 := by
        cases k : m - G.ρ.length with
        | zero => rfl
        | succ j => rw [k] at q; simp at q
      rw [e1] at q
      cases q
      refine ⟨hg, n, o, ?_, upd_same, ok⟩
      rw [List.getElem?_append_right (by rw [← r.len]; omega), ← r.len, e1]
      rfl
  · have hb : a ≠ p := ne_of_none q h
    refine ⟨by rw [upd_ne hb]; exact q, g, fun z => ?_⟩
    have z : a ∈ G.ρ ++ [p] := z
    rw [List.mem_append, List.mem_singleton] at z
    rcases z with z | z
    · exact m z
    · exact hb z
theorem nodup_at {l : List Addr} (h : l.Nodup) {i j : Nat} {a : Addr} (hi : l[i]? = some a) (hj : l[j]? = some a) : i = j :=
  (List.getElem?_inj (List.getElem?_eq_some_iff.mp hi).1 h).mp (hi.trans hj.symm)
/-- a thing that may change is changed -/
theorem Ext.chg (x : Ext K cl G0 H0 μ0 G H μ) {p : Addr} {o' : HO} {i : Nat} {n' : Nd} (h : G.ρ[i]? = some p) (ok : NdOk K cl G p o' n') : Ext K cl G0 H0 μ0 G (upd H p o') (μ.set i n') := by
  obtain ⟨hg, m, o, hm, ho, _⟩ := x.rep.node i p h
  refine ⟨x.g, ⟨fun b u e => ?_, by rw [List.length_set]; exact x.rep.len, x.rep.nd, fun j a e => ?_⟩, fun a q => ?_, fun a u q g m => ?_⟩
  · have hb : b ≠ p := ne_of_none e hg
    rw [upd_ne hb]; exact x.rep.sub b u e
  · by_cases hb : j = i
    · subst hb
      rw [h] at e
      cases e
      exact ⟨hg, n', o', List.getElem?_set_self (List.getElem?_eq_some_iff.mp hm).1, upd_same, ok⟩
    · have hc : a ≠ p := fun z => hb (nodup_at x.rep.nd e (z ▸ h))
      obtain ⟨ga, m', u, q1, q2, ok⟩ := x.rep.node j a e
      exact ⟨ga, m', u, by rw [List.getElem?_set_ne (Ne.symm hb)]; exact q1, by rw [upd_ne hc]; exact q2, ok⟩
  · by_cases hb : a = p
    · subst hb; rw [upd_same] at q; cases q
    · rw [upd_ne hb] at q; exact x.dom a q
  · obtain ⟨e1, e2, e3⟩ := x.fr a u q g m
    have hb : a ≠ p := fun z => e3 (z ▸ List.mem_of_getElem? h)
    exact ⟨by rw [upd_ne hb]; exact e1, e2, e3⟩
theorem Slots.chgN {wd : Wd} {σ : L2.St} {sd : SD} (hs : Slots K wd H0 G H μ σ sd) {p : Addr} {o' : HO} {i : Nat} {n' : Nd} (h : G.ρ[i]? = some p) : Slots K wd H0 G (upd H p o') (μ.set i n') σ sd := by
  have hp := List.mem_of_getElem? h
  refine ⟨hs.len, fun i s q => ?_, hs.sep⟩
  obtain ⟨v, q1, q2⟩ := hs.at_ i s q
  refine ⟨v, q1, ?_⟩
  cases s with
  | fz d => exact q2
  | own ds =>
    obtain ⟨p', vs', rfl, r2, r3, r4, r5, r6⟩ := q2
    have hb : p' ≠ p := fun z => r5 (z ▸ hp)
    exact ⟨p', vs', rfl, by rw [upd_ne hb]; exact r2, r3, r4, r5, r6⟩
  | exc c fs =>
    obtain ⟨a, C, d, r1, r2, r3, r4⟩ := q2
    refine ⟨a, C, d, r1, r2, r3, ?_⟩
    rcases r4 with r4 | ⟨dd, ws, t1, t2, t3, t4, t5⟩
    · exact .inl r4
    · have hb : dd ≠ p := fun z => t5 (z ▸ hp)
      exact .inr ⟨dd, ws, t1, by rw [upd_ne hb]; exact t2, t3, t4, t5⟩
  | fn caps => exact q2
/-- the things made since are told of no more -/
def gcut (G G1 : Gh) : Gh := ⟨G.fz, G1.ρ⟩
theorem gsh_cut (x : GLe G1 G) (l : G1.ρ.length = μ1.length) : GSh μ1.length G (gcut G G1) := ⟨Same.refl _, fun m a hm h => by
  show G1.ρ[m]? = some a
  obtain ⟨t, e⟩ := x.pre
  rw [← e, List.getElem?_append_left (by omega)] at h
  exact h⟩
theorem Ext.cut (x : Ext K cl G0 H0 μ0 G1 H1 μ1) (y : Ext K cl G1 H1 μ1 G H μ) (h : μ.take μ1.length = μ1) : Ext K cl G0 H0 μ0 (gcut G G1) H μ1 := by
  refine ⟨⟨x.g.fz.trans y.g.fz, x.g.pre⟩, ⟨y.rep.sub, x.rep.len, x.rep.nd, fun n a e => ?_⟩, fun a q => x.dom a (y.dom a q), fun a u q g m => ?_⟩
  · have e : G1.ρ[n]? = some a := e
    obtain ⟨ga, m, u, q1, q2, ok⟩ := y.rep.node n a (y.g.at e)
    obtain ⟨_, m', u', q1', _, ok'⟩ := x.rep.node n a e
    have hn : n < μ1.length := by rw [← x.rep.len]; exact (List.getElem?_eq_some_iff.mp e).1
    have em : m = m' := by
      have z := q1'
      rw [← h, List.getElem?_take, if_pos hn, q1] at z
      exact Option.some.inj z
    subst em
    refine ⟨ga, m, u, q1', q2, NdOk.shrink (gsh_cut y.g x.rep.len) ?_ ok⟩
    have b := ok'.bel
    rw [x.rep.len] at b
    exact b
  · obtain ⟨e1, e2, e3⟩ := x.fr a u q g m
    obtain ⟨f1, f2, f3⟩ := y.fr a u e1 e2 e3
    exact ⟨f1, f2, e3⟩
/-- what a field of a thing that nobody changes any more holds -/
def res1 (n : Nat) (μ : Mu) (d : D) : Option D := if below n d = true then some d else match d with
  | .ref m => (match μ[m]? with
    | some (.box c) => if below n c = true then some c else none
    | _ => none)
  | _ => none
def resF (n : Nat) (μ : Mu) : List (Nat × D) → Option (List (Nat × D))
  | [] => some []
  | (f, d) :: r => match res1 n μ d, resF n μ r with
    | some d', some r' => some ((f, d') :: r')
    | _, _ => none
theorem res1_ok (x : Ext K cl G0 H0 μ0 G1 H1 μ1) (y : Ext K cl G1 H1 μ1 G H μ) {G' : Gh} (z : Ext K cl G0 H0 μ0 G' H μ1) (hz : GLe (gcut G G1) G') {v : V} {d d' : D} (hd : Den K cl G v d) (e : res1 μ1.length μ d = some d') :
    ∃ G2, Ext K cl G0 H0 μ0 G2 H μ1 ∧ GLe G' G2 ∧ Den K cl G2 v d' := by
  unfold res1 at e
  have sh := gsh_cut y.g x.rep.len
  split at e
  · rename_i b
    cases e
    exact ⟨G', z, GLe.refl _, Den.mono hz _ _ (Den.shrink sh _ _ b hd)⟩
  · rename_i nb
    cases d <;> try cases e
    rename_i m
    cases hd with
    | @ref a _ hm =>
    have e : (match μ[m]? with
      | some (.box c) => if below μ1.length c = true then some c else none
      | _ => none) = some d' := e
    obtain ⟨ga, nn, o, q1, q2, ok⟩ := y.rep.node m a hm
    rw [q1] at e
    cases nn with
    | ins c fs => cases e
    | tab q' => cases e
    | tp ds => cases e
    | box c =>
      dsimp only at e
      split at e
      · rename_i b
        have ec := Option.some.inj e
        subst ec
        have ok2 : CtOk K cl G' a o c := CtOk.mono hz (CtOk.shrink sh b ok)
        cases hg : G'.fz a with
        | some o2 =>
          have e2 := z.rep.sub a o2 hg
          rw [q2] at e2
          cases e2
          exact ⟨G', z, GLe.refl _, ok2.den hg⟩
        | none =>
          have na : a ∉ G'.ρ := by
            intro ha
            obtain ⟨j, hj⟩ := List.mem_iff_getElem?.mp ha
            have lj : j < μ1.length := by rw [← z.rep.len]; exact (List.getElem?_eq_some_iff.mp hj).1
            have hj1 : G1.ρ[j]? = some a := by
              have l1 : j < G1.ρ.length := by rw [x.rep.len]; exact lj
              have : G'.ρ[j]? = some (G1.ρ[j]) := hz.at (List.getElem?_eq_getElem l1)
              rw [hj] at this
              rw [List.getElem?_eq_getElem l1]
              exact this.symm
            have := nodup_at y.rep.nd (y.g.at hj1) hm
            subst this
            simp [below, lj] at nb
          have n1 : H1 a = none := by
            cases h1 : H1 a with
            | none => rfl
            | some u =>
              have g1 : G1.fz a = none := y.g.fz.free ga
              have r1 : a ∉ G1.ρ := by
                intro ha
                obtain ⟨j, hj⟩ := List.mem_iff_getElem?.mp ha
                have := nodup_at y.rep.nd (y.g.at hj) hm
                subst this
                have lj : j < μ1.length := by rw [← x.rep.len]; exact (List.getElem?_eq_some_iff.mp hj).1
                simp [below, lj] at nb
              exact ((y.fr a u h1 g1 r1).2.2 (List.mem_of_getElem? hm)).elim
          have s1 : GLe G' (gput G' a o) := gle_put hg
          exact ⟨_, z.freezeX (x.dom a n1) q2 hg na, s1, (ok2.mono s1).den upd_same⟩
      · cases e
theorem resF_ok (x : Ext K cl G0 H0 μ0 G1 H1 μ1) (y : Ext K cl G1 H1 μ1 G H μ) : ∀ {vs : List (Str × V)} {fs fs' : List (Nat × D)} {G' : Gh}, Ext K cl G0 H0 μ0 G' H μ1 → GLe (gcut G G1) G' → DenF K cl G vs fs → resF μ1.length μ fs = some fs' →
    ∃ G2, Ext K cl G0 H0 μ0 G2 H μ1 ∧ GLe G' G2 ∧ DenF K cl G2 vs fs'
  | _, _, _, G', z, hz, .nil, e => by cases e; exact ⟨G', z, GLe.refl _, .nil⟩
  | _, _, fs', G', z, hz, .cons (f := f) h0 h1 h2, e => by
    rw [resF] at e
    split at e
    · rename_i d' r' e1 e2
      cases e
      obtain ⟨G2, z2, g2, den⟩ := res1_ok x y z hz h1 e1
      obtain ⟨G3, z3, g3, denF⟩ := resF_ok x y z2 (hz.trans g2) h2 e2
      exact ⟨G3, z3, g2.trans g3, .cons h0 (Den.mono g3 _ _ den) denF⟩
    · cases e
/-- .. is changed by nobody any more -/
theorem Ext.still (x : Ext K cl G0 H0 μ0 G1 H1 μ1) (y : Ext K cl G1 H1 μ1 G H μ) {p : Addr} {c : Nat} {fs fs' : List (Nat × D)} (ht : μ.take μ1.length = μ1) (hp : G.ρ[μ1.length]? = some p) (h : μ[μ1.length]? = some (.ins c fs)) (hr : resF μ1.length μ fs = some fs') :
    ∃ G2, Ext K cl G0 H0 μ0 G2 H μ1 ∧ Den K cl G2 (.ref p) (.obj c fs') := by
  obtain ⟨C, dx, vs, hc, ho, hf⟩ := y.rep.ins hp h
  have z := Ext.cut x y ht
  obtain ⟨G2, z2, g2, den⟩ := resF_ok x y z (GLe.refl _) hf hr
  obtain ⟨ga, _⟩ := y.rep.node _ p hp
  have nr1 : p ∉ G1.ρ := by
    intro ha
    obtain ⟨j, hj⟩ := List.mem_iff_getElem?.mp ha
    have := nodup_at y.rep.nd (y.g.at hj) hp
    have lj : j < μ1.length := by rw [← x.rep.len]; exact (List.getElem?_eq_some_iff.mp hj).1
    omega
  cases hg : G2.fz p with
  | some o2 =>
    have e2 := z2.rep.sub p o2 hg
    rw [ho] at e2
    cases e2
    exact ⟨G2, z2, .obj hc hg den⟩
  | none =>
    have na : p ∉ G2.ρ := by
      intro ha
      obtain ⟨j, hj⟩ := List.mem_iff_getElem?.mp ha
      have lj : j < G1.ρ.length := by rw [x.rep.len, ← z2.rep.len]; exact (List.getElem?_eq_some_iff.mp hj).1
      have : G2.ρ[j]? = some (G1.ρ[j]) := g2.at (List.getElem?_eq_getElem lj)
      rw [hj] at this
      exact nr1 (List.mem_iff_getElem?.mpr ⟨j, by rw [List.getElem?_eq_getElem lj]; exact this.symm⟩)
    have n1 : H1 p = none := by
      cases h1 : H1 p with
      | none => rfl
      | some u => exact ((y.fr p u h1 (y.g.fz.free ga) nr1).2.2 (List.mem_of_getElem? hp)).elim
    have s1 : GLe G2 (gput G2 p (.ins C dx vs)) := gle_put hg
    exact ⟨_, z2.freezeX (x.dom p n1) ho hg na, .obj hc upd_same (DenF.mono s1 _ _ den)⟩
end

section
variable {X : Cx} {wd : Wd} {e o a b c : Expr} {es rest : List Expr} {w wo wa wb wc : WE} {wt wu : WT} {ws : WA} {pos p apos : Pos} {st : Stmt} {sts body : List Stmt} {s1 s2 s3 : WS} {k : Nat} {f C : Addr} {fd : FuncData} {ps : List Str} {Fn : TSp} {x m : Str}

/-! ### o.f = e -/
def wPutF (cs : List Nat) (f : Nat) (wv wo : WE) : WS := fun E sd μ => wv sd μ (E.x sd) fun r μ1 => withT r fun y => wo sd μ1 (E.x sd) fun r2 μ2 => match r2 with
  | .d (.ref a) => ∃ c fs, μ2[a]? = some (.ins c fs) ∧ cs.elem c = true ∧ fs.length < 1000 ∧ E.nx sd (μ2.set a (.ins c (fput f y fs)))
  | _ => False
theorem qs_putF {cs : List Nat} {f : Nat} {n : Str} {p' : Pos} (hT : FldT X.K wd.cl cs f) (ho : QE wd X o wo) (he : QE wd X e w) (hf : f < 32 := by decide) (hn : fnm f = n := by rfl) (hs : swapsWith e (some (.Attribute o n p')) pos.line X.env = pure false := by rfl) :
    QS wd X (.Assign [.Attribute o n p'] e pos) (wPutF cs f w wo) := by
  subst hn
  refine ⟨PS.imp (ps_fld ho.pe he.pe hs) fun D σ H ⟨G0, H0, μ0, G, μ, sd, E, hx, hsl, hw, hE⟩ => ?_⟩
  refine ⟨G0, H0, μ0, G, μ, sd, _, _, hx, hsl, hw, fun r μ' q v G' H' e' rel => ?_, hE.xok hx hsl⟩
  obtain ⟨y, hy, q⟩ := withT_tree q
  obtain ⟨G1, e1, s1, den⟩ := keep e' rel hy
  refine ⟨G0, H0, μ0, G1, μ', sd, _, _, hx.trans e1, hsl.step e1, q, fun r2 μ2 q2 v2 G2 H2 e2 rel2 => ?_, hE.xok (hx.trans e1) (hsl.step e1)⟩
  cases r2 with
  | «at» j => exact q2.elim
  | new fs => exact q2.elim
  | d z =>
    cases z <;> try exact q2.elim
    rename_i a
    obtain ⟨c, fs, hm, hc, hl, q2⟩ := q2
    cases rel2 with
    | @ref p _ hn =>
    obtain ⟨C, dx, vs, k1, ho, k2⟩ := e2.rep.ins hn hm
    obtain ⟨t1, t2⟩ := hT c hc _ k1
    refine ⟨p, C, dx, vs, rfl, ho, t1, t2, by rw [k2.len]; exact hl, ?_⟩
    have ok' : NdOk X.K wd.cl G2 p (.ins C dx (putF (fnm f) v vs)) (.ins c (fput f y fs)) := ⟨k1, k2.put hf (Den.mono e2.g _ _ den)⟩
    exact hE.nx _ _ q2 σ G2 _ (Ext.chg ((hx.trans e1).trans e2) hn ok') (((hsl.step e1).step e2).chgN hn)

/-! ### C(..) -/
theorem run_makeS {pins : List (Addr × Obj)} {σ : L2.St} {H : Hp} {s : Shared} {Q : VK} {us : List Value} {vs dvs : List V} {ds : List Value} {sp : Sp} {CX : CXT} {E : L2.St → XK} (M : Mk X.K C f) (F : FnOk X.prog X.w X.K X.mg X.base CX k f fd ps sp) (hr : Room (k + 1) X.A) (hb : Binds X.K fd ps ds) (hd : Vals dvs ds)
    (hx : PassesAt CX X σ (E σ)) (I : Inv X pins σ H s) (r : Vals vs us)
    (h : ∀ x dx, H x = none → H dx = none → dx ≠ x → sp (.ref x :: (vs ++ dvs)) (upd (upd H dx (.own x)) x (.ins C dx [])) (fun v H2 => v = .non ∧ Q (.ref x) H2) (E σ)) :
    wpAny (model X.prog X.w) X.A (call (.ref C) us) (EP X pins σ Q) X.xe s := by
  have hq := h (s.heap.objs.size + 1) s.heap.objs.size (I.hok.fresh (Nat.le_succ _)) (I.hok.fresh (Nat.le_refl _)) (Nat.ne_of_lt (Nat.lt_succ_self _))
  have I2 := Inv.made (C := C) I
  have r2 : Vals (V.ref (s.heap.objs.size + 1) :: (vs ++ dvs)) (Value.ref (s.heap.objs.size + 1) :: (us ++ ds)) := .cons rfl (r.append hd)
  have hl : (Value.ref (s.heap.objs.size + 1) :: us ++ ds).length = ps.length := by
    have e := r2.length
    rw [F.len _ _ _ _ hq] at e
    exact e.symm
  refine wpAny_call (make_map (f := f) I.kIn M.makes M.init (beq_iff_eq.mp M.fn) (codeAny_mono (F.run _ X.stack _ _ ⟨Value.ref (s.heap.objs.size + 1) :: us, []⟩ (Value.ref (s.heap.objs.size + 1) :: (us ++ ds)) _ _ (E σ) (hr.make C us [])
    (I2.env0.make C us []) (hb _ (Value.ref (s.heap.objs.size + 1) :: us) I2.kIn hl) r2 hq) fun r s' hq' => ?_))
  cases r with
  | error e => exact hx pins _ _ e s' I2 hq'
  | ok fl =>
    cases fl with
    | ret u =>
      obtain ⟨v, H', I3, rv, ev, q3⟩ := I2.after hq'
      subst ev
      exact ⟨rv, ⟨V.ref (s.heap.objs.size + 1), H', I3, rfl, q3⟩⟩
    | next => exact False.elim hq'
    | brk => exact False.elim hq'
    | cont => exact False.elim hq'
def tMakeS (C : Addr) (sp : Sp) (dvs : List V) (E : L2.St → XK) (t : TA) : TE := fun σ H Q => t σ H fun vs H1 => ∀ x dx, H1 x = none → H1 dx = none → dx ≠ x →
  sp (.ref x :: (vs ++ dvs)) (upd (upd H1 dx (.own x)) x (.ins C dx [])) (fun v H2 => v = .non ∧ Q (.ref x) H2) (E σ)
theorem pe_makeS {dvs : List V} {ds : List Value} {sp : Sp} {CX : CXT} {E : L2.St → XK} {t : TA} (M : Mk X.K C f) (F : FnOk X.prog X.w X.K X.mg X.base CX k f fd ps sp) (hr : Room (k + 1) X.A) (hg : Gl X x) (hm : X.mg x = some (.ref C)) (hb : Binds X.K fd ps ds) (hd : Vals dvs ds) (hx : ∀ σ, PassesAt CX X σ (E σ))
    (ha : PA X (e :: es) t) (hdb : (x == ("__debug__" : Str)) = false := by decide) (he : starEach (e :: es) X.env = (false, eval e X.env) :: starEach es X.env := by rfl) (hpl : (backTo pos (starEach es X.env)).any (·.1) = false := by rfl) :
    PE X (.Call (.Name x p) (e :: es) [] pos) (tMakeS C sp dvs E t) := by
  refine ⟨fun pins s σ H Q I h => ?_⟩
  refine wpAny_Call_Name_kw (ld_glob I hg hm ?_ hdb)
  refine PySem.W.callWith_K (h₀ := X.base) I.ok.mod.kin M.kp (thn (ha.run pos pins s σ H _ I h) fun us s1 ⟨vs, H1, I1, r, q⟩ => ⟨I1.kIn, ?_⟩) he hpl
  exact run_makeS M F hr hb hd (hx σ) I1 r q
theorem pe_makeS0 {dvs : List V} {ds : List Value} {sp : Sp} {CX : CXT} {E : L2.St → XK} (M : Mk X.K C f) (F : FnOk X.prog X.w X.K X.mg X.base CX k f fd ps sp) (hr : Room (k + 1) X.A) (hg : Gl X x) (hm : X.mg x = some (.ref C)) (hb : Binds X.K fd ps ds) (hd : Vals dvs ds) (hx : ∀ σ, PassesAt CX X σ (E σ))
    (hdb : (x == ("__debug__" : Str)) = false := by decide) : PE X (.Call (.Name x p) [] [] pos) (tMakeS C sp dvs E tNil) := by
  refine ⟨fun pins s σ H Q I h => ?_⟩
  refine wpAny_Call_Name_kw (ld_glob I hg hm ?_ hdb)
  exact PySem.W.callWith_K0 I.kIn M.kp (run_makeS (us := []) M F hr hb hd (hx σ) I .nil h)
/-- defaults as trees -/
abbrev DDen (K : PySem.W.Frag) (cl : Cl) (dvs : List V) (dd : List D) : Prop := ∀ G, DenL K cl G dvs dd
def wMake (c n : Nat) (Fn : TSp) (dd : List D) (ws : WA) : WE := fun sd μ x k => ws sd μ x fun ds μ1 => (ds ++ dd).length = n ∧ Fn (.ref μ1.length :: (ds ++ dd)) (μ1 ++ [.ins c []]) x fun r μ2 => match r with
  | .d .non => k (.d (.ref μ1.length)) μ2
  | _ => False
/-- .. that nobody changes any more -/
def wMakeF (c n : Nat) (Fn : TSp) (dd : List D) (ws : WA) : WE := fun sd μ x k => ws sd μ x fun ds μ1 => (ds ++ dd).length = n ∧ Fn (.ref μ1.length :: (ds ++ dd)) (μ1 ++ [.ins c []]) (fun c' fs μ2 => μ2.take μ1.length = μ1 ∧ belowF μ1.length fs = true ∧ x c' fs μ1) fun r μ2 => match r with
  | .d .non => μ2.take μ1.length = μ1 ∧ ∃ fs fs', μ2[μ1.length]? = some (.ins c fs) ∧ resF μ1.length μ2 fs = some fs' ∧ k (.d (.obj c fs')) μ1
  | _ => False
theorem Ext.made {K : PySem.W.Frag} {cl : Cl} {G : Gh} {H : Hp} {μ : Mu} {c : Nat} {C a dx : Addr} (r : Rep K cl G H μ) (ha : H a = none) (hd : H dx = none) (hne : dx ≠ a) (hc : cl c = some C) : Ext K cl G H μ (gnew G a) (upd (upd H dx (.own a)) a (.ins C dx [])) (μ ++ [.ins c []]) := by
  have e1 := Ext.loose (o := .own a) r hd
  exact e1.trans (Ext.node e1.rep (by rw [upd_ne (Ne.symm hne)]; exact ha) ⟨hc, .nil⟩)
theorem gnew_at {K : PySem.W.Frag} {cl : Cl} {G : Gh} {H : Hp} {μ : Mu} {a : Addr} (r : Rep K cl G H μ) : (gnew G a).ρ[μ.length]? = some a := by
  show (G.ρ ++ [a])[μ.length]? = some a
  rw [← r.len, List.getElem?_append_right (Nat.le_refl _), Nat.sub_self]
  rfl
theorem make_red {c n : Nat} {dd : List D} {dvs : List V} {σ : L2.St} {H : Hp} {Q : VK} (hc : wd.cl c = some C) (hdd : DDen X.K wd.cl dvs dd) (h : rdE X.K wd (wMake c n Fn dd ws) σ H Q) :
    tMakeS C (spT X.K wd.cl (n + 1) Fn) dvs (L2.WE wd.W) (rdA X.K wd ws) σ H Q := by
  obtain ⟨G0, H0, μ0, G, μ, sd, x, k, hx, hs, hw, hk, hxo⟩ := h
  refine ⟨G0, H0, μ0, G, μ, sd, x, _, hx, hs, hw, fun ds μ1 q vs G1 H1 e1 hd a dx ha hdx hne => ?_, hxo⟩
  have em := Ext.made (c := c) e1.rep ha hdx hne hc
  have hat := gnew_at (a := a) e1.rep
  refine ⟨_, _, .ref μ1.length :: (ds ++ dd), x, _, by rw [List.length_cons, q.1], em.rep, .cons (.ref hat) ((DenL.mono em.g _ _ hd).app (hdd _)), q.2, fun r μ' q' v G' H' e' rel => ?_, fun c fs μ' q' C d G' H' hc e' xd => ?_⟩
  · cases r with
    | «at» i => exact q'.elim
    | new fs => exact q'.elim
    | d y =>
      cases y <;> try exact q'.elim
      cases rel
      exact ⟨rfl, hk _ μ' q' _ G' H' (e1.trans (em.trans e')) (Den.ref (e'.g.at hat))⟩
  · exact hxo c fs μ' q' C d G' H' hc (e1.trans (em.trans e')) xd
theorem makeF_red {c n : Nat} {dd : List D} {dvs : List V} {σ : L2.St} {H : Hp} {Q : VK} (hc : wd.cl c = some C) (hdd : DDen X.K wd.cl dvs dd) (h : rdE X.K wd (wMakeF c n Fn dd ws) σ H Q) :
    tMakeS C (spT X.K wd.cl (n + 1) Fn) dvs (L2.WE wd.W) (rdA X.K wd ws) σ H Q := by
  obtain ⟨G0, H0, μ0, G, μ, sd, x, k, hx, hs, hw, hk, hxo⟩ := h
  refine ⟨G0, H0, μ0, G, μ, sd, x, _, hx, hs, hw, fun ds μ1 q vs G1 H1 e1 hd a dx ha hdx hne => ?_, hxo⟩
  have em := Ext.made (c := c) e1.rep ha hdx hne hc
  have hat := gnew_at (a := a) e1.rep
  refine ⟨_, _, .ref μ1.length :: (ds ++ dd), _, _, by rw [List.length_cons, q.1], em.rep, .cons (.ref hat) ((DenL.mono em.g _ _ hd).app (hdd _)), q.2, fun r μ' q' v G' H' e' rel => ?_, fun c fs μ' q' C d G' H' hc e' xd => ?_⟩
  · cases r with
    | «at» i => exact q'.elim
    | new fs => exact q'.elim
    | d y =>
      cases y <;> try exact q'.elim
      cases rel
      obtain ⟨ht, fs, fs', hm, hr, q'⟩ := q'
      obtain ⟨G2, e2, den⟩ := Ext.still e1 (em.trans e') ht (e'.g.at hat) hm hr
      exact ⟨rfl, hk _ _ q' _ _ H' e2 den⟩
  · obtain ⟨ht, hb, q'⟩ := q'
    have e2 := Ext.cut e1 (em.trans e') ht
    have sh := gsh_cut (em.trans e').g e1.rep.len
    refine hxo c fs μ1 q' C d _ H' hc e2 ?_
    rcases xd with xd | ⟨dd, vs, t1, t2, t3, t4, t5⟩
    · exact .inl xd
    · exact .inr ⟨dd, vs, t1, t2, DenF.shrink sh _ _ hb t3, t4, fun z => t5 ((em.trans e').g.pre.subset z)⟩
theorem qe_make {c n : Nat} {dd : List D} {dvs : List V} {dsv : List Value} (hc : wd.cl c = some C) (M : Mk X.K C f) (F : FnOk X.prog X.w X.K X.mg X.base (L2.CX X.prog X.w) k f fd ps (spT X.K wd.cl (n + 1) Fn)) (hr : Room (k + 1) X.A) (hm : X.mg x = some (.ref C)) (hb : Binds X.K fd ps dsv) (hd : Vals dvs dsv) (hdd : DDen X.K wd.cl dvs dd) (tk : TakesE wd X)
    (ha : QA wd X (e :: es) ws) (hg : Gl X x := by rfl) (hdb : (x == ("__debug__" : Str)) = false := by decide) (he : starEach (e :: es) X.env = (false, eval e X.env) :: starEach es X.env := by rfl) (hpl : (backTo pos (starEach es X.env)).any (·.1) = false := by rfl) :
    QE wd X (.Call (.Name x p) (e :: es) [] pos) (wMake c n Fn dd ws) := ⟨PE.imp (pe_makeS M F hr hg hm hb hd tk ha.pa hdb he hpl) fun σ H Q h => make_red hc hdd h⟩
theorem qe_makeF {c n : Nat} {dd : List D} {dvs : List V} {dsv : List Value} (hc : wd.cl c = some C) (M : Mk X.K C f) (F : FnOk X.prog X.w X.K X.mg X.base (L2.CX X.prog X.w) k f fd ps (spT X.K wd.cl (n + 1) Fn)) (hr : Room (k + 1) X.A) (hm : X.mg x = some (.ref C)) (hb : Binds X.K fd ps dsv) (hd : Vals dvs dsv) (hdd : DDen X.K wd.cl dvs dd) (tk : TakesE wd X)
    (ha : QA wd X (e :: es) ws) (hg : Gl X x := by rfl) (hdb : (x == ("__debug__" : Str)) = false := by decide) (he : starEach (e :: es) X.env = (false, eval e X.env) :: starEach es X.env := by rfl) (hpl : (backTo pos (starEach es X.env)).any (·.1) = false := by rfl) :
    QE wd X (.Call (.Name x p) (e :: es) [] pos) (wMakeF c n Fn dd ws) := ⟨PE.imp (pe_makeS M F hr hg hm hb hd tk ha.pa hdb he hpl) fun σ H Q h => makeF_red hc hdd h⟩
theorem qa_nil' : PA X [] (rdA X.K wd wNil) := qa_nil.pa

/-! ### raise -/
/-- what the text says of an exception class without fields -/
structure ExcT (K : PySem.W.Frag) (mg : Str → Option Value) (x : Str) (C : Addr) : Prop where
  gC : mg x = some (.ref C)
  ex : PySem.W.excIn K C [.type "ValueError", .type "Exception", .type "BaseException", .type "object"] "ValueError.__new__" = true
  kC : PySem.W.keepIn K (.ref C) = true
  sub : PySem.W.subIn K (.ref C) (.type "BaseException") = some true
  ty : PySem.W.typeIn K (.ref C) = some (.type "type")
def wRaise (c : Nat) : WS := fun E sd μ => E.ex c [] sd μ
theorem qs_raise {c : Nat} {mm : Str} {j : Nat} {p p2 pos2 : Pos} (hc : wd.cl c = some C) (T : ExcT X.K X.mg x C) (hcalm : X.calm = true) (tk : Takes X wd.W) (hg : Gl X x := by rfl) (hdb : (x == ("__debug__" : Str)) = false := by decide) :
    QS wd X (.Raise (some (.Call (.Name x p) [.Constant (.str mm) j p2] [] pos)) none pos2) (wRaise c) :=
  ⟨PS.imp (ps_raise hcalm tk (pmk_own PySem.F.excBase_ValueError T.ex T.gC T.kC (raises_own T.sub T.ty) hg hdb)) fun D σ H ⟨G0, H0, μ0, G, μ, sd, E, hx, hs, hw, hE⟩ => hE.ex c [] sd μ hw C none σ G H hc hx hs (.inl ⟨rfl, rfl⟩)⟩
/-- an exception class whose __init__ keeps its one argument -/
def spX1 (K : PySem.W.Frag) (C : Addr) (f : Str) : Sp := fun vs H Q _ => ∃ (a : Addr) (v : V), vs = [.ref a, v] ∧ H a = some (exo a C none) ∧ ∀ dx, H dx = none → dx ≠ a → Q .non (upd (upd H dx (exd dx [(f, v)])) a (exo a C (some dx)))
def wRaise1 (c f : Nat) (w : WE) : WS := fun E sd μ => w sd μ (E.x sd) fun r μ' => withT r fun y => E.ex c [(f, y)] sd μ'
theorem upd_del {H : Hp} {a dx : Addr} {o1 o2 u1 u2 : HO} (ha : H a = none) (hne : dx ≠ a) : upd (L2.del (upd (upd (upd H a o1) dx u1) a o2) a) dx u2 = upd H dx u2 := by
  funext b
  by_cases e1 : b = dx
  · subst e1; rw [upd_same, upd_same]
  · rw [upd_ne e1, upd_ne e1]
    by_cases e2 : b = a
    · subst e2; rw [del_same, ha]
    · rw [del_ne e2, upd_ne e2, upd_ne e1, upd_ne e2]
theorem qs_raise1 {c f : Nat} {fI : Addr} {n : Str} {p pos2 : Pos} {psI : List Str} (hc : wd.cl c = some C) (T : OexC X.K C) (iC : PySem.W.findIn X.K (.ref C) "__init__" = some (some (.ref fI))) (tI : PySem.W.typeIn X.K (.ref fI) = some (.type "function"))
    (F1 : FnOk X.prog X.w X.K X.mg X.base (L2.CX X.prog X.w) k fI fd psI (spX1 X.K C n)) (hr : Room (k + 1) X.A) (hb : Binds X.K fd psI []) (hm : X.mg x = some (.ref C)) (hcalm : X.calm = true) (tk : Takes X wd.W) (he : QE wd X e w) (hf : f < 32 := by decide) (hn : fnm f = n := by rfl)
    (hg : Gl X x := by rfl) (hdb : (x == ("__debug__" : Str)) = false := by decide) (hst : starEach [e] X.env = (false, eval e X.env) :: starEach [] X.env := by rfl) (hpl : (backTo pos (starEach [] X.env)).any (·.1) = false := by rfl) :
    QS wd X (.Raise (some (.Call (.Name x p) [e] [] pos)) none pos2) (wRaise1 c f w) := by
  subst hn
  refine ⟨PS.imp (ps_raise hcalm tk (pmk_oex (dvs := []) T iC tI F1 hr hb .nil passL hg hm (pa_cons he.pe pa_nil hst) hdb hst hpl)) fun D σ H ⟨G0, H0, μ0, G, μ, sd, E, hx, hs, hw, hE⟩ => ?_⟩
  refine ⟨G0, H0, μ0, G, μ, sd, _, _, hx, hs, hw, fun r μ1 q v G1 H1 e1 rel => ?_, hE.xok hx hs⟩
  obtain ⟨y, hy, q⟩ := withT_tree q
  obtain ⟨G2, e2, s2, den⟩ := keep e1 rel hy
  refine ⟨by show 1 ≤ 1000; decide, fun a ha => ⟨a, v, rfl, upd_same, fun dx hdx hne => ⟨rfl, dx, _, upd_same, by rw [upd_ne hne, upd_same], by rw [upd_ne hne] at hdx; exact hdx, ?_⟩⟩⟩
  rw [upd_ne hne] at hdx
  rw [upd_del ha hne]
  have e3 := Ext.loose (o := .xd [(fnm f, v)]) e2.rep hdx
  obtain ⟨r1, r2⟩ := e2.rep.free hdx
  exact hE.ex c [(f, y)] sd μ1 q C (some dx) σ G2 _ hc ((hx.trans e2).trans e3) ((hs.step e2).step e3) (.inr ⟨dx, _, rfl, upd_same, .cons hf den .nil, r1, r2⟩)
end

/-! ### the law's end -/
theorem law_end {K : PySem.W.Frag} {cl : Cl} {F : TSp} (h : ∀ ns : List Int, ns.length ≤ 63 → (∀ z ∈ ns, Builtin.Int.intBits z ≤ 1048576) → F [.lst (ns.map D.int)] [] (fun _ _ _ => False) (fun r _ => match r with | .d (.bl true) => True | _ => False)) (H : Hp) (a : Addr) (ns : List Int)
    (hl : ns.length ≤ 63) (hb : ∀ z ∈ ns, Builtin.Int.intBits z ≤ 1048576) (hS : SqL K H a (ns.map V.int)) : spT K cl 1 F [.ref a] H (fun v _ => v = .bl true) fun _ _ _ => False := by
  refine ⟨⟨H, []⟩, [], _, _, _, rfl, ⟨Same.refl _, rfl, List.nodup_nil, fun _ _ q => by simp at q⟩, .one (.lst hS (DenL.ints ns)), h ns hl hb, fun r μ' q v G' H' e rel => ?_, fun c fs μ' q => q.elim⟩
  cases r with
  | «at» i => exact q.elim
  | new ds => exact q.elim
  | d y =>
    cases y <;> try exact q.elim
    rename_i bb
    cases bb <;> try exact q.elim
    cases rel
    rfl
end TL
/-! TL: try, the exception in hand -/
namespace TL
open PySem PySem.Spec L2

def noExc : SD → Bool
  | [] => true
  | some (.exc _ _) :: _ => false
  | some (.fn _) :: r => noExc r
  | _ :: r => noExc r
theorem noExc_at : ∀ {sd : SD} {i : Nat} {c : Nat} {fs : List (Nat × D)}, noExc sd = true → sd[i]? ≠ some (some (.exc c fs))
  | [], i, c, fs, _ => by simp
  | none :: r, 0, c, fs, _ => by simp
  | some (.fz _) :: r, 0, c, fs, _ => by simp
  | some (.own _) :: r, 0, c, fs, _ => by simp
  | some (.exc _ _) :: r, _, c, fs, h => by simp [noExc] at h
  | some (.fn _) :: r, 0, c, fs, _ => by simp
  | some (.fn _) :: r, i + 1, c, fs, h => by simpa using noExc_at (sd := r) (i := i) h
  | none :: r, i + 1, c, fs, h => by simpa using noExc_at (sd := r) (i := i) h
  | some (.fz _) :: r, i + 1, c, fs, h => by simpa using noExc_at (sd := r) (i := i) h
  | some (.own _) :: r, i + 1, c, fs, h => by simpa using noExc_at (sd := r) (i := i) h
section
variable {K : PySem.W.Frag} {wd wd' : Wd} {G : Gh} {H0 H : Hp} {μ : Mu} {σ : L2.St} {sd : SD}
/-- slots without an exception -/
theorem Slots.plain (h : Slots K wd H0 G H μ σ sd) (hn : ∀ (i c : Nat) (fs : List (Nat × D)), sd[i]? ≠ some (some (.exc c fs))) (hcl : wd'.cl = wd.cl := by rfl) (hfp : wd'.fp = wd.fp := by rfl) : Slots K wd' H0 G H μ σ sd := by
  obtain ⟨cl, W, hd, fp⟩ := wd
  obtain ⟨cl', W', hd', fp'⟩ := wd'
  dsimp only at hcl hfp
  subst hcl hfp
  refine ⟨h.len, fun i s q => ?_, h.sep⟩
  obtain ⟨v, h1, h2⟩ := h.at_ i s q
  refine ⟨v, h1, ?_⟩
  cases s with
  | fz d => exact h2
  | own ds => exact h2
  | exc c fs => exact (hn i c fs q).elim
  | fn caps => exact h2
theorem Slots.noHnd (h : Slots K wd H0 G H μ σ sd) (hh : wd.hnd = none) : ∀ (i c : Nat) (fs : List (Nat × D)), sd[i]? ≠ some (some (.exc c fs)) := fun i c fs q => by
  obtain ⟨v, h1, a, C, d, e, _⟩ := h.at_ i _ q
  rw [hh] at e
  cases e
/-- the slot of an except clause's name -/
theorem Slots.setX {i : Nat} {a C : Addr} {d : Option Addr} {c : Nat} {fs : List (Nat × D)} (hcl : wd'.cl = wd.cl) (hfp : wd'.fp = wd.fp) (hh : wd.hnd = none) (hh' : wd'.hnd = some (a, .ref C, d)) (h : Slots K wd H0 G H μ σ sd) (hc : wd.cl c = some C) (hx : XdOk K wd.cl G H μ d fs) :
    Slots K wd' H0 G H μ (σ.set i (some (.ref a))) (sd.set i (some (.exc c fs))) := by
  have h' : Slots K wd' H0 G H μ σ sd := h.plain (h.noHnd hh) hcl hfp
  refine ⟨by rw [List.length_set, List.length_set]; exact h.len, fun j s q => ?_, fun j k v' ds es hjk q1 q2 q3 q4 => ?_⟩
  · by_cases e : i = j
    · subst e
      have hi : i < sd.length := by
        have := (List.getElem?_eq_some_iff.mp q).1
        rwa [List.length_set] at this
      rw [List.getElem?_set_self hi] at q
      cases q
      exact ⟨_, List.getElem?_set_self (by rw [← h.len]; exact hi), a, C, d, hh', rfl, by rw [hcl]; exact hc, by rw [hcl]; exact hx⟩
    · rw [List.getElem?_set_ne e] at q
      obtain ⟨u, q1, q2⟩ := h'.at_ j s q
      exact ⟨u, by rw [List.getElem?_set_ne e]; exact q1, q2⟩
  · have ne : ∀ {j : Nat} {ds : D}, (sd.set i (some (.exc c fs)))[j]? = some (some (.own ds)) → i ≠ j := fun {j ds} q e => by
      subst e
      have hi : i < sd.length := by
        have := (List.getElem?_eq_some_iff.mp q).1
        rwa [List.length_set] at this
      rw [List.getElem?_set_self hi] at q
      cases q
    have e1 := ne q1
    have e2 := ne q2
    rw [List.getElem?_set_ne e1] at q1 q3
    rw [List.getElem?_set_ne e2] at q2 q4
    exact h.sep j k v' ds es hjk q1 q2 q3 q4
end

section
variable {X : Cx} {wd : Wd} {e : Expr} {w : WE} {body suite : List Stmt} {b₀ : Stmt} {s1 s2 : WS} {x n : Str} {cv : Value} {np pos pos' : Pos} {i : Nat}
def exS (E : TEn) : TEn := { E with nx := fun sd μ => noExc sd = true ∧ E.nx sd μ, bk := fun sd μ => noExc sd = true ∧ E.bk sd μ, ct := fun sd μ => noExc sd = true ∧ E.ct sd μ, ex := fun _ _ _ _ => False }
def exN (i : Nat) (E : TEn) : TEn := { E with nx := fun sd μ => noExc (sd.set i none) = true ∧ E.nx (sd.set i none) μ, bk := fun sd μ => noExc (sd.set i none) = true ∧ E.bk (sd.set i none) μ, ct := fun sd μ => noExc (sd.set i none) = true ∧ E.ct (sd.set i none) μ, ex := fun _ _ _ _ => False }
def wTry (exm : Nat → Option Bool) (sb ss : WS) : WS := fun E sd μ => sb { E with ex := fun c fs sd' μ' => match exm c with
  | some true => ss (exS E) sd' μ'
  | some false => E.ex c fs sd' μ'
  | none => False } sd μ
def wTryAs (exm : Nat → Option Bool) (i : Nat) (sb ss : WS) : WS := fun E sd μ => sb { E with ex := fun c fs sd' μ' => match exm c with
  | some true => ss (exN i E) (sd'.set i (some (.exc c fs))) μ'
  | some false => E.ex c fs sd' μ'
  | none => False } sd μ
/-- which classes the clause names -/
def ExmT (X : Cx) (cl : Cl) (cv : Value) (exm : Nat → Option Bool) : Prop := ∀ c C b, cl c = some C → exm c = some b → PySem.W.exmOne X.K (.ref C) cv = some b
theorem qs_try {exm : Nat → Option Bool} (hh : wd.hnd = none) (hs : X.stack = X.env :: X.outer) (hf : X.env.frame = some X.env.locals) (hc : Names X x cv) (tk : Takes X wd.W) (hx : ExmT X wd.cl cv exm)
    (hb : ∀ (W : WX) (pn : List (Addr × Obj)) (xe : Value → Shared → Prop), Takes (X.tr pn xe) W → PassesOwn (model X.prog X.w) X.A X.env xe → QSs ⟨wd.cl, W, none, wd.fp⟩ (X.tr pn xe) body s1)
    (hsu : ∀ (a : Addr) (oe : Obj) (cls : Value) (d : Option Addr) (pn : List (Addr × Obj)), Zc cls d oe → (∃ vs, oe.data = .fields vs) → QSs ⟨wd.cl, fun _ _ _ _ => False, some (a, cls, d), wd.fp⟩ (X.suite a ((a, oe) :: pn)) (b₀ :: suite) s2) :
    QS wd X (.Try body [.ExceptHandler (some (.Name x np)) none (b₀ :: suite) pos'] [] [] pos) (wTry exm s1 s2) := by
  refine ⟨PS.imp (ps_try_only (tb := fun W => rdS X.K ⟨wd.cl, W, none, wd.fp⟩ s1) (ts := fun a cls d => rdS X.K ⟨wd.cl, fun _ _ _ _ => False, some (a, cls, d), wd.fp⟩ s2) hs hf hc tk (fun W pn xe t p => (hb W pn xe t p).pss) (fun a oe cls d pn z f => (hsu a oe cls d pn z f).pss)) fun D σ H ⟨G0, H0, μ0, G, μ, sd, E, hxt, hsl, hw, hE⟩ => ?_⟩
  refine ⟨G0, H0, μ0, G, μ, sd, _, hxt, hsl.plain (hsl.noHnd hh), hw, ?_⟩
  have bk : ∀ {W : WX} {H0 : Hp} {G : Gh} {H : Hp} {μ : Mu} {σ : L2.St} {sd : SD}, Slots X.K ⟨wd.cl, W, none, wd.fp⟩ H0 G H μ σ sd → Slots X.K wd H0 G H μ σ sd := fun {W _ _ _ _ _ _} h => h.plain (h.noHnd rfl)
  refine ⟨fun sd μ q σ G H hx hs => hE.nx sd μ q σ G H hx (bk hs), fun sd μ q σ G H hx hs => hE.bk sd μ q σ G H hx (bk hs), fun sd μ q σ G H hx hs => hE.ct sd μ q σ G H hx (bk hs), hE.rt, fun c fs sd μ q C d σ G H hcl hxt hs xd => ?_⟩
  have q' : (match exm c with | some true => s2 (exS E) sd μ | some false => E.ex c fs sd μ | none => False) := q
  cases em : exm c with
  | none => rw [em] at q'; exact q'.elim
  | some b =>
    rw [em] at q'
    refine ⟨b, hx c C b hcl em, fun eb a ha => ?_, fun eb => ?_⟩
    · subst eb
      refine ⟨G0, H0, μ0, G, μ, sd, _, hxt, (bk hs).plain ((bk hs).noHnd hh), q', ?_⟩
      have bk2 : ∀ {H0 : Hp} {G : Gh} {H : Hp} {μ : Mu} {σ : L2.St} {sd : SD}, Slots X.K ⟨wd.cl, fun _ _ _ _ => False, some (a, .ref C, d), wd.fp⟩ H0 G H μ σ sd → noExc sd = true → Slots X.K wd H0 G H μ σ sd := fun {_ _ _ _ _ _} h hn => h.plain fun i c fs => noExc_at hn
      exact ⟨fun sd μ q σ G H hx hs => hE.nx sd μ q.2 σ G H hx (bk2 hs q.1), fun sd μ q σ G H hx hs => hE.bk sd μ q.2 σ G H hx (bk2 hs q.1), fun sd μ q σ G H hx hs => hE.ct sd μ q.2 σ G H hx (bk2 hs q.1), hE.rt, fun c fs sd μ q => q.elim⟩
    · subst eb
      exact hE.ex c fs sd μ q' C d σ G H hcl hxt (bk hs) xd
theorem qs_tryAs {exm : Nat → Option Bool} (hh : wd.hnd = none) (hs : X.stack = X.env :: X.outer) (hf : X.env.frame = some X.env.locals) (hN : X.N.Nodup) (hc : Names X x cv) (tk : Takes X wd.W) (hx : ExmT X wd.cl cv exm)
    (hb : ∀ (W : WX) (pn : List (Addr × Obj)) (xe : Value → Shared → Prop), Takes (X.tr pn xe) W → PassesOwn (model X.prog X.w) X.A X.env xe → QSs ⟨wd.cl, W, none, wd.fp⟩ (X.tr pn xe) body s1)
    (hsu : ∀ (a : Addr) (oe : Obj) (cls : Value) (d : Option Addr) (pn : List (Addr × Obj)), Zc cls d oe → (∃ vs, oe.data = .fields vs) → QSs ⟨wd.cl, fun _ _ _ _ => False, some (a, cls, d), wd.fp⟩ (X.suite a ((a, oe) :: pn)) (b₀ :: suite) s2)
    (hi : X.N[i]? = some n := by rfl) (hln : X.env.kindOf n = some .local := by rfl) :
    QS wd X (.Try body [.ExceptHandler (some (.Name x np)) (some n) (b₀ :: suite) pos'] [] [] pos) (wTryAs exm i s1 s2) := by
  refine ⟨PS.imp (ps_try_as (i := i) (tb := fun W => rdS X.K ⟨wd.cl, W, none, wd.fp⟩ s1) (ts := fun a cls d => rdS X.K ⟨wd.cl, fun _ _ _ _ => False, some (a, cls, d), wd.fp⟩ s2) hs hf hN hi hln hc tk (fun W pn xe t p => (hb W pn xe t p).pss) (fun a oe cls d pn z f => (hsu a oe cls d pn z f).pss)) fun D σ H ⟨G0, H0, μ0, G, μ, sd, E, hxt, hsl, hw, hE⟩ => ?_⟩
  refine ⟨G0, H0, μ0, G, μ, sd, _, hxt, hsl.plain (hsl.noHnd hh), hw, ?_⟩
  have bk : ∀ {W : WX} {H0 : Hp} {G : Gh} {H : Hp} {μ : Mu} {σ : L2.St} {sd : SD}, Slots X.K ⟨wd.cl, W, none, wd.fp⟩ H0 G H μ σ sd → Slots X.K wd H0 G H μ σ sd := fun {W _ _ _ _ _ _} h => h.plain (h.noHnd rfl)
  refine ⟨fun sd μ q σ G H hx hs => hE.nx sd μ q σ G H hx (bk hs), fun sd μ q σ G H hx hs => hE.bk sd μ q σ G H hx (bk hs), fun sd μ q σ G H hx hs => hE.ct sd μ q σ G H hx (bk hs), hE.rt, fun c fs sd μ q C d σ G H hcl hxt hs xd => ?_⟩
  have q' : (match exm c with | some true => s2 (exN i E) (sd.set i (some (.exc c fs))) μ | some false => E.ex c fs sd μ | none => False) := q
  cases em : exm c with
  | none => rw [em] at q'; exact q'.elim
  | some b =>
    rw [em] at q'
    refine ⟨b, hx c C b hcl em, fun eb a ha => ?_, fun eb => ?_⟩
    · subst eb
      refine ⟨G0, H0, μ0, G, μ, _, _, hxt, Slots.setX (wd := wd) (wd' := ⟨wd.cl, fun _ _ _ _ => False, some (a, .ref C, d), wd.fp⟩) rfl rfl hh rfl (bk hs) hcl xd, q', ?_⟩
      have bk2 : ∀ {H0 : Hp} {G : Gh} {H : Hp} {μ : Mu} {σ : L2.St} {sd : SD}, Slots X.K ⟨wd.cl, fun _ _ _ _ => False, some (a, .ref C, d), wd.fp⟩ H0 G H μ σ sd → noExc (sd.set i none) = true → Slots X.K wd H0 G H μ (σ.set i none) (sd.set i none) := fun {_ _ _ _ _ _} h hn => h.setN.plain fun i c fs => noExc_at hn
      exact ⟨fun sd μ q σ G H hx hs => hE.nx _ μ q.2 _ G H hx (bk2 hs q.1), fun sd μ q σ G H hx hs => hE.bk _ μ q.2 _ G H hx (bk2 hs q.1), fun sd μ q σ G H hx hs => hE.ct _ μ q.2 _ G H hx (bk2 hs q.1), hE.rt, fun c fs sd μ q => q.elim⟩
    · subst eb
      exact hE.ex c fs sd μ q' C d σ G H hcl hxt (bk hs) xd

/-! ### isinstance(e, T), e.f: e the exception in hand -/
def rIsE2 (K : PySem.W.Frag) (D a : Addr) (d : Option Addr) : List V → Hp → VK → Prop := fun xs H Q => ∃ (c : V) (cv : Value) (b : Bool), xs = [.ref a, c] ∧ (∀ u, RelV c u → u = cv) ∧ PySem.W.kitOne K (.ref D) cv = some b ∧
  (d = none ∨ ∃ dd vs, d = some dd ∧ H dd = some (.xd vs)) ∧ Q (.bl b) H
theorem call_isE2 {a D : Addr} {d : Option Addr} {oe : Obj} {pn : List (Addr × Obj)} (C : ExcC X.K D) (hz : Zc (.ref D) d oe) (hf : ∃ vs, oe.data = .fields vs) : CallR (X.suite a ((a, oe) :: pn)) (.builtin "isinstance") (rIsE2 X.K D a d) := by
  intro pins s σ H xs us Q I r h
  obtain ⟨c, cv, b, rfl, hcv, e, hd, q⟩ := h
  cases r with
  | cons rx rr =>
    cases rr with
    | cons rt rr =>
      cases rr
      cases rx
      have ec := hcv _ rt
      subst ec
      obtain ⟨hget, _⟩ := I.pin (a, oe) (List.mem_append.mpr (.inl List.mem_cons_self))
      obtain ⟨vs, hv⟩ := hf
      have J : ∃ od, PySem.W.InstAt s.heap a oe D od := by
        obtain ⟨h1, h2⟩ := hz
        have hno : PySem.W.notCls oe = true := by unfold PySem.W.notCls; rw [hv] <;> rfl
        rcases hd with hd | ⟨dd, ws, hd, hH⟩
        · subst hd
          exact ⟨none, hget, h1, hno, by rw [h2]; trivial⟩
        · subst hd
          obtain ⟨mA, hns, _⟩ := (show ObjOk X.prog X.w H s.heap dd (.xd ws) from I.hok dd _ hH)
          obtain ⟨od, ho, _⟩ := lookIn_ns hns
          exact ⟨some od, hget, h1, hno, by rw [h2]; exact ho⟩
      obtain ⟨od, J⟩ := J
      have hcl : (PySem.W.clsIn X.K D).isSome = true := by
        have h0 := C.hd
        unfold PySem.W.hasDictIn at h0
        cases q : PySem.W.clsIn X.K D with
        | none => rw [q] at h0; cases h0
        | some cd => rfl
      exact PySem.W.kia_one (PySem.W.kitx_exc hcl C.hg C.hk C.hs C.ha C.hn C.ht C.hm) I.kIn J e (fun z => nomatch z) fun tk => ⟨.bl b, H, I.kept (t' := tk) fun _ _ z => z, rfl, q⟩
/-- which classes T is a base of -/
def wIsE (i : Nat) (isx : Nat → Option Bool) : WE := fun sd μ _ k => match sd[i]? with
  | some (some (.exc c _)) => ∃ b, isx c = some b ∧ k (.d (.bl b)) μ
  | _ => False
def IsxT (K : PySem.W.Frag) (cl : Cl) (tv : Value) (isx : Nat → Option Bool) : Prop := ∀ c C b, cl c = some C → isx c = some b → ExcC K C ∧ PySem.W.kitOne K (.ref C) tv = some b
theorem qe_isE {a : Addr} {oe : Obj} {cls : Value} {d : Option Addr} {pn : List (Addr × Obj)} {xi T : Str} {p p1 p2 : Pos} {tV : V} {tv : Value} {isx : Nat → Option Bool} (hz : Zc cls d oe) (hf : ∃ vs, oe.data = .fields vs) (hT : IsxT X.K wd.cl tv isx)
    (hm : X.mg xi = none) (heT : PE (X.suite a ((a, oe) :: pn)) (.Name T p2) (tC tV)) (hr : ∀ u, RelV tV u → u = tv)
    (hN : X.N[i]? = some x := by rfl) (hv : Vis X.env.scope x := by first | exact Or.inl rfl | exact Or.inr (Or.inl rfl) | exact Or.inr (Or.inr rfl)) (hd : (x == ("__debug__" : Str)) = false := by decide) (hcd : (x == ("__classdict__" : Str)) = false := by decide)
    (hg : Gl X xi := by rfl) (hvI : bootBuiltins xi = some (.builtin "isinstance") := by decide +kernel) (hn : xi ≠ "__name__" := by decide) (hdb : (xi == ("__debug__" : Str)) = false := by decide)
    (he1 : starEach [.Name x p1, .Name T p2] X.env = (false, eval (.Name x p1) X.env) :: starEach [.Name T p2] X.env := by rfl) (he2 : starEach [.Name T p2] X.env = (false, eval (.Name T p2) X.env) :: starEach [] X.env := by rfl)
    (hpl : (backTo pos (starEach [.Name T p2] X.env)).any (·.1) = false := by rfl) :
    QE ⟨wd.cl, wd.W, some (a, cls, d), wd.fp⟩ (X.suite a ((a, oe) :: pn)) (.Call (.Name xi p) [.Name x p1, .Name T p2] [] pos) (wIsE i isx) := by
  refine ⟨⟨fun pins s σ H Q I ⟨G0, H0, μ0, G, μ, sd, x', k, hx, hs, hw, hk, hxo⟩ => ?_⟩⟩
  unfold wIsE at hw
  split at hw
  · rename_i c fs q
    obtain ⟨b, hb, hw⟩ := hw
    obtain ⟨v, hv1, a', C', d', e1, rfl, hc, xd⟩ := hs.at_ i _ q
    cases e1
    obtain ⟨t1, t2⟩ := hT c C' b hc hb
    have P := pe_callB (X := X.suite a ((a, oe) :: pn)) (r := rIsE2 X.K C' a d) (call_isE2 t1 hz hf) hg hm hvI (pa_cons (pe_var (X := X.suite a ((a, oe) :: pn)) (i := i) hN hv hd hcd) (pa_cons heT pa_nil he2) he1) hn hdb he1 hpl (pos := pos) (p := p)
    refine P.run pins s σ H Q I ⟨.ref a, hv1, tV, tv, b, rfl, hr, t2, ?_, hk _ _ hw _ G H (.refl hx.rep) (Den.bl _)⟩
    rcases xd with ⟨_, h0⟩ | ⟨dd, ws, h1, h2, _⟩
    · exact .inl h0
    · exact .inr ⟨dd, ws, h1, h2⟩
  · exact hw.elim
def wXf (i c f : Nat) : WE := fun sd μ _ k => match sd[i]? with
  | some (some (.exc c' fs)) => c' = c ∧ ∃ y, fs.lookup f = some y ∧ k (.d y) μ
  | _ => False
theorem qe_xf {a C : Addr} {oe : Obj} {cls : Value} {d : Option Addr} {pn : List (Addr × Obj)} {p1 : Pos} {f c : Nat} {nf : Str} (hz : Zc cls d oe) (hf : ∃ vs, oe.data = .fields vs) (hc : wd.cl c = some C) (T : XfC X.K C) (hno : PySem.W.findIn X.K (.ref C) nf = some none)
    (hN : X.N[i]? = some x := by rfl) (hv : Vis X.env.scope x := by first | exact Or.inl rfl | exact Or.inr (Or.inl rfl) | exact Or.inr (Or.inr rfl)) (hd : (x == ("__debug__" : Str)) = false := by decide) (hcd : (x == ("__classdict__" : Str)) = false := by decide)
    (hf3 : f < 32 := by decide) (hn : fnm f = nf := by rfl) (hb : attributeBase (.Name x p1) nf X.env (eval (.Name x p1) X.env) = eval (.Name x p1) X.env := by rfl) :
    QE ⟨wd.cl, wd.W, some (a, cls, d), wd.fp⟩ (X.suite a ((a, oe) :: pn)) (.Attribute (.Name x p1) nf pos) (wXf i c f) := by
  subst hn
  refine ⟨PE.imp (pe_xf (X := X) (C := C) T hno hz hf (pe_var (X := X.suite a ((a, oe) :: pn)) (i := i) hN hv hd hcd) hb) fun σ H Q ⟨G0, H0, μ0, G, μ, sd, x', k, hx, hs, hw, hk, hxo⟩ => ?_⟩
  unfold wXf at hw
  split at hw
  · rename_i c' fs q
    obtain ⟨rfl, y, hy, hw⟩ := hw
    obtain ⟨v, hv1, a', C', d', e1, rfl, hc', xd⟩ := hs.at_ i _ q
    cases e1
    have e2 : some C' = some C := hc'.symm.trans hc
    cases e2
    rcases xd with ⟨h0, _⟩ | ⟨dd, ws, h1, h2, h3, _⟩
    · rw [h0] at hy; cases hy
    · obtain ⟨u, hu, den⟩ := h3.look hf3 hy
      exact ⟨_, hv1, rfl, rfl, dd, ws, u, h1, h2, hu, hk _ _ hw u G H (.refl hx.rep) den⟩
  · exact hw.elim
end
end TL
/-! TL: lists that may change, in the store; data seen through the store -/
namespace TL
open PySem PySem.Spec L2

section
variable {X : Cx} {wd : Wd} {e o a b c : Expr} {es rest : List Expr} {w wo wa wb wc wi : WE} {wt wu : WT} {ws : WA} {pos p apos cpos : Pos} {x m : Str}
theorem Ext.tell {K : PySem.W.Frag} {cl : Cl} {G0 G : Gh} {H0 H : Hp} {μ0 μ : Mu} (e : Ext K cl G0 H0 μ0 G H μ) {p : Addr} {o : HO} {c : D} (h0 : H0 p = none) (hp : H p = some o) (hg : G.fz p = none) (hm : p ∉ G.ρ) (hd : CtOk K cl G p o c) :
    Ext K cl G0 H0 μ0 (gnew G p) H (μ ++ [.box c]) := by
  refine ⟨e.g.trans gle_new, ⟨e.rep.sub, by show (G.ρ ++ [p]).length = _; rw [List.length_append, List.length_append, e.rep.len]; rfl, ?_, fun m a q => ?_⟩, e.dom, fun a u q g m => ?_⟩
  · show (G.ρ ++ [p]).Nodup
    rw [List.nodup_append]
    refine ⟨e.rep.nd, by simp, fun a ha b hb => ?_⟩
    rw [List.mem_singleton] at hb
    subst hb
    exact fun z => hm (z ▸ ha)
  · have q : (G.ρ ++ [p])[m]? = some a := q
    by_cases hb : m < G.ρ.length
    · rw [List.getElem?_append_left hb] at q
      obtain ⟨ga, m', u, q1, q2, ok'⟩ := e.rep.node m a q
      exact ⟨ga, m', u, by rw [List.getElem?_append_left (by rw [← e.rep.len]; exact hb)]; exact q1, q2, ok'.mono gle_new⟩
    · rw [List.getElem?_append_right (by omega)] at q
      have e1 : m - G.ρ.length = 0 := by
        cases k : m - G.ρ.length with
        | zero => rfl
        | succ j => rw [k] at q; simp at q
      rw [e1] at q
      cases q
      refine ⟨hg, .box c, o, ?_, hp, hd.mono gle_new⟩
      rw [List.getElem?_append_right (by rw [← e.rep.len]; omega), ← e.rep.len, e1]
      rfl
  · obtain ⟨e1, e2, e3⟩ := e.fr a u q g m
    have hb : a ≠ p := ne_of_none q h0
    refine ⟨e1, e2, fun z => ?_⟩
    have z : a ∈ G.ρ ++ [p] := z
    rw [List.mem_append, List.mem_singleton] at z
    rcases z with z | z
    · exact e3 z
    · exact hb z
/-- a new list or dict that may change -/
def wNode (w : WE) : WE := fun sd μ x k => w sd μ x fun r μ1 => match r with
  | .new c => k (.d (.ref μ1.length)) (μ1 ++ [.box c])
  | _ => False
theorem qe_node (h : QE wd X e w) : QE wd X e (wNode w) := by
  refine ⟨PE.imp h.pe fun σ H Q ⟨G0, H0, μ0, G, μ, sd, x, k, hx, hs, hw, hk, hxo⟩ => ?_⟩
  refine ⟨G0, H0, μ0, G, μ, sd, x, _, hx, hs, hw, fun r μ1 q v G1 H1 e1 rel => ?_, hxo⟩
  cases r with
  | d y => exact q.elim
  | «at» i => exact q.elim
  | new ds =>
    obtain ⟨p, vs, rfl, h1, h2, h3, h4, h5⟩ := rel
    exact hk _ _ q _ _ H1 (e1.tell h1 h2 h4 h5 h3) (Den.ref (gnew_at e1.rep))
/-- data, its lists seen through the store (two levels) -/
def see1 (μ : Mu) : D → D
  | .ref a => match μ[a]? with
    | some (.box (.lst ds)) => .lst ds
    | _ => .ref a
  | d => d
def see2 (μ : Mu) : D → D
  | .ref a => match μ[a]? with
    | some (.box (.lst ds)) => .lst (ds.map (see1 μ))
    | _ => .ref a
  | .tup ds => .tup (ds.map (see1 μ))
  | .lst ds => .lst (ds.map (see1 μ))
  | d => d
def wSee (f : Bool → Bool) (wa wb : WE) : WE := fun sd μ x k => wa sd μ x fun r1 μ1 => wb sd μ1 x fun r2 μ2 => okD 12 (see2 μ2 (vw μ2 sd r1)) ∧ okD 12 (see2 μ2 (vw μ2 sd r2)) ∧ k (.d (.bl (f (deq (see2 μ2 (vw μ2 sd r1)) (see2 μ2 (vw μ2 sd r2)))))) μ2
theorem see1_den {K : PySem.W.Frag} {cl : Cl} {G : Gh} {H : Hp} {μ : Mu} (r : Rep K cl G H μ) {v : V} {d : D} (h : Den K cl G v d) : Den K cl ⟨H, G.ρ⟩ v (see1 μ d) := by
  cases d <;> try exact Den.mono r.gle _ _ h
  rename_i n
  have h0 := Den.mono r.gle _ _ h
  cases h with
  | @ref a _ hn =>
  show Den K cl ⟨H, G.ρ⟩ (.ref a) (match μ[n]? with | some (.box (.lst ds)) => .lst ds | _ => .ref n)
  split
  · rename_i ds e
    obtain ⟨o, ho, ok⟩ := r.box hn e
    exact (ok.mono r.gle).den ho
  · exact h0
theorem see1_denL {K : PySem.W.Frag} {cl : Cl} {G : Gh} {H : Hp} {μ : Mu} (r : Rep K cl G H μ) : ∀ {vs : List V} {ds : List D}, DenL K cl G vs ds → DenL K cl ⟨H, G.ρ⟩ vs (ds.map (see1 μ))
  | _, _, .nil => .nil
  | _, _, .cons h1 h2 => .cons (see1_den r h1) (see1_denL r h2)
theorem see2_den {K : PySem.W.Frag} {cl : Cl} {G : Gh} {H : Hp} {μ : Mu} (r : Rep K cl G H μ) {v : V} {d : D} (h : Den1 K cl G H v d) : Den K cl ⟨H, G.ρ⟩ v (see2 μ d) := by
  cases d with
  | lst ds =>
    obtain ⟨a, vs, rfl, h1, h2⟩ := h
    exact .lst h1 (see1_denL r h2)
  | tup ds =>
    cases h with
    | tup h1 h2 => exact .tup (sqT_same r.sub h1) (see1_denL r h2)
  | ref n =>
    have h0 := Den.mono r.gle _ _ h
    cases h with
    | @ref a _ hn =>
    show Den K cl ⟨H, G.ρ⟩ (.ref a) (match μ[n]? with | some (.box (.lst ds)) => .lst (ds.map (see1 μ)) | _ => .ref n)
    split
    · rename_i ds e
      obtain ⟨o, ho, ok⟩ := r.box hn e
      obtain ⟨vs, rfl, h3⟩ := ok.lst
      exact .lst (SqL.of ho) (see1_denL r h3)
    · exact h0
  | _ => exact Den1.den r.sub h
theorem see_red {f : Bool → Bool} {r : R2} {σ : L2.St} {H : Hp} {Q : VK} (ha : QE wd X a wa) (hb : QE wd X b wb)
    (hr : ∀ (x y : V) (H : Hp) (Q : VK) (d e : PyData), Dp X.K H x d → Dp X.K H y e → SeqAt.shaped d = true → SeqAt.shaped e = true → Q (.bl (f (PyData.eqv d e))) H → r x y H Q) (h : rdE X.K wd (wSee f wa wb) σ H Q) :
    rdE X.K wd wa σ H fun x H1 => rdE X.K wd wb σ H1 fun y H2 => r x y H2 Q := by
  obtain ⟨G0, H0, μ0, G, μ, sd, x, k, hx, hs, hw, hk, hxo⟩ := h
  refine ⟨G0, H0, μ0, G, μ, sd, x, _, hx, hs, hw, fun r1 μ1 q1 v1 G1 H1 e1 rel1 => ?_, hxo⟩
  obtain ⟨G1', e1', s1, hold1⟩ := hold hs e1 rel1
  refine ⟨G0, H0, μ0, G1', μ1, sd, x, _, hx.trans e1', hs.step e1', q1, fun r2 μ2 q2 v2 G2 H2 e2 rel2 => ?_, hxo.step e1'⟩
  obtain ⟨G2', e2', s2, hold2⟩ := hold (hs.step e1') e2 rel2
  obtain ⟨o1, o2, q2⟩ := q2
  obtain ⟨p, t1, t2⟩ := shaped_of o1 (by decide)
  obtain ⟨q, t3, t4⟩ := shaped_of o2 (by decide)
  refine hr v1 v2 H2 Q p q (Den.dp _ _ _ (see2_den e2'.rep (hold1 _ _ _ e2')) t1) (Den.dp _ _ _ (see2_den e2'.rep (hold2 _ _ _ (.refl e2'.rep))) t3) t2 t4 ?_
  rw [deq_pd _ _ _ _ t1 t3]
  exact hk _ _ q2 _ G2' H2 (e1'.trans e2') (Den.bl _)
theorem qe_seeEq (hu : X.A.units + 64 < cLine) (ha : QE wd X a wa) (hb : QE wd X b wb) (hm : behindInMarks .Eq b = false := by rfl) : QE wd X (.Compare a [.Eq] [b] pos) (wSee (fun b => b) wa wb) :=
  ⟨PE.imp (pe_cmpR (op_eqD hu) ha.pe hb.pe hm) fun σ H Q h => see_red ha hb (fun x y H Q d e h1 h2 h3 h4 q => ⟨d, e, h1, h2, h3, h4, q⟩) h⟩
theorem qe_seeNe (hu : X.A.units + 64 < cLine) (ha : QE wd X a wa) (hb : QE wd X b wb) (hm : behindInMarks .NotEq b = false := by rfl) : QE wd X (.Compare a [.NotEq] [b] pos) (wSee (fun b => !b) wa wb) :=
  ⟨PE.imp (pe_cmpR (op_neD hu) ha.pe hb.pe hm) fun σ H Q h => see_red ha hb (fun x y H Q d e h1 h2 h3 h4 q => ⟨d, e, h1, h2, h3, h4, q⟩) h⟩
theorem qt_seeEq (hu : X.A.units + 64 < cLine) (ha : QE wd X a wa) (hb : QE wd X b wb) (hm : behindInMarks .Eq b = false := by rfl) : QT wd X (.Compare a [.Eq] [b] pos) (wTst (wSee (fun b => b) wa wb)) :=
  ⟨PT.imp (pt_cmpR (op_eqD hu) ha.pe hb.pe hm) fun σ H Q h => see_red (Q := fun x H' => ∃ c, x = .bl c ∧ Q c H') ha hb (fun x y H Q d e h1 h2 h3 h4 q => ⟨d, e, h1, h2, h3, h4, q⟩) (tst_of h)⟩
theorem qt_seeNe (hu : X.A.units + 64 < cLine) (ha : QE wd X a wa) (hb : QE wd X b wb) (hm : behindInMarks .NotEq b = false := by rfl) : QT wd X (.Compare a [.NotEq] [b] pos) (wTst (wSee (fun b => !b) wa wb)) :=
  ⟨PT.imp (pt_cmpR (op_neD hu) ha.pe hb.pe hm) fun σ H Q h => see_red (Q := fun x H' => ∃ c, x = .bl c ∧ Q c H') ha hb (fun x y H Q d e h1 h2 h3 h4 q => ⟨d, e, h1, h2, h3, h4, q⟩) (tst_of h)⟩

/-! ### lists in the store -/
/-- o.append(e) -/
def wAppM (wo we : WE) : WS := fun E sd μ => wo sd μ (E.x sd) fun r μ1 => match r with
  | .d (.ref a) => ∃ ds0, μ1[a]? = some (.box (.lst ds0)) ∧ we sd μ1 (E.x sd) fun r2 μ2 => withT r2 fun y => ∃ ds, μ2[a]? = some (.box (.lst ds)) ∧ ds.length < sizeLine ∧ E.nx sd (μ2.set a (.box (.lst (ds ++ [y]))))
  | _ => False
theorem node_lst {K : PySem.W.Frag} {cl : Cl} {G : Gh} {H : Hp} {μ : Mu} (r : Rep K cl G H μ) {n : Nat} {a : Addr} {ds : List D} (hn : G.ρ[n]? = some a) (h : μ[n]? = some (.box (.lst ds))) : ∃ vs, H a = some (.lst vs) ∧ DenL K cl G vs ds := by
  obtain ⟨o, ho, ok⟩ := r.box hn h
  obtain ⟨vs, rfl, h3⟩ := ok.lst
  exact ⟨vs, ho, h3⟩
theorem qs_appM (ho : QE wd X o wo) (he : QE wd X e w) (hst : starEach [e] X.env = (false, eval e X.env) :: starEach [] X.env := by rfl)
    (hbase : attributeBase o "append" X.env (eval o X.env) = eval o X.env := by rfl)
    (hfew : ((backTo cpos (starEach [e] X.env)).all (fun x => !x.1) && (backToKw cpos (keywordEach [] X.env)).all (fun x => x.1.isSome)
      && decide ([e].length + ([] : List Keyword).length + (if ([] : List Keyword).isEmpty then 0 else 1) < 30)) = true := by rfl)
    (hline : (apos.endLine == cpos.line) = true := by rfl) (hplain : (backTo cpos (starEach [] X.env)).any (·.1) = false := by rfl) (hs : swapsWith (.Call (.Attribute o "append" apos) [e] [] cpos) none pos.line X.env = pure false := by rfl) :
    QS wd X (.Expr (.Call (.Attribute o "append" apos) [e] [] cpos) pos) (wAppM wo w) := by
  refine ⟨PS.imp (ps_expr (pe_bm PySem.F.plainAttrs_list PySem.F.slot_list_append PySem.F.type_list_append mt_append ho.pe (pa_cons he.pe pa_nil hst) hbase hfew hline hst hplain) hs) fun D σ H ⟨G0, H0, μ0, G, μ, sd, E, hx, hsl, hw, hE⟩ => ?_⟩
  refine ⟨G0, H0, μ0, G, μ, sd, _, _, hx, hsl, hw, fun r μ1 q v G1 H1 e1 rel => ?_, hE.xok hx hsl⟩
  cases r with
  | «at» i => exact q.elim
  | new ds => exact q.elim
  | d y =>
    cases y <;> try exact q.elim
    rename_i n
    cases rel with
    | @ref a _ hn =>
    obtain ⟨ds0, hm0, q⟩ := q
    obtain ⟨vs0, hv0, _⟩ := node_lst e1.rep hn hm0
    refine ⟨.inl ⟨rfl, vs0, SqL.of hv0⟩, ?_⟩
    refine ⟨G0, H0, μ0, G1, μ1, sd, _, _, hx.trans e1, hsl.step e1, q, fun r2 μ2 q2 v2 G2 H2 e2 rel2 => ?_, hE.xok (hx.trans e1) (hsl.step e1)⟩
    obtain ⟨y, hy, q2⟩ := withT_tree q2
    obtain ⟨G3, e3, s3, den⟩ := keep e2 rel2 hy
    obtain ⟨ds, hm, hl, q2⟩ := q2
    obtain ⟨vs, hv, hd⟩ := node_lst e3.rep (e3.g.at hn) hm
    refine ⟨a, vs, v2, rfl, rfl, hv, by rw [hd.len]; exact hl, ?_⟩
    exact hE.nx _ _ q2 σ G3 _ (Ext.chg ((hx.trans e1).trans e3) (e3.g.at hn) (o' := .lst (vs ++ [v2])) (hd.app (.one den))) (((hsl.step e1).step e3).chgN (e3.g.at hn))
/-- o.clear() -/
def wClrM (wo : WE) : WS := fun E sd μ => wo sd μ (E.x sd) fun r μ1 => match r with
  | .d (.ref a) => ∃ ds, μ1[a]? = some (.box (.lst ds)) ∧ E.nx sd (μ1.set a (.box (.lst [])))
  | _ => False
theorem qs_clrM (ho : QE wd X o wo) (hbase : attributeBase o "clear" X.env (eval o X.env) = eval o X.env := by rfl) (hline : (apos.endLine == cpos.line) = true := by rfl) (hs : swapsWith (.Call (.Attribute o "clear" apos) [] [] cpos) none pos.line X.env = pure false := by rfl) :
    QS wd X (.Expr (.Call (.Attribute o "clear" apos) [] [] cpos) pos) (wClrM wo) := by
  refine ⟨PS.imp (ps_expr (pe_bm0 PySem.F.plainAttrs_list PySem.F.slot_list_clear PySem.F.type_list_clear mt_clear ho.pe hbase hline) hs) fun D σ H ⟨G0, H0, μ0, G, μ, sd, E, hx, hsl, hw, hE⟩ => ?_⟩
  refine ⟨G0, H0, μ0, G, μ, sd, _, _, hx, hsl, hw, fun r μ1 q v G1 H1 e1 rel => ?_, hE.xok hx hsl⟩
  cases r with
  | «at» i => exact q.elim
  | new ds => exact q.elim
  | d y =>
    cases y <;> try exact q.elim
    rename_i n
    cases rel with
    | @ref a _ hn =>
    obtain ⟨ds, hm, q⟩ := q
    obtain ⟨vs, hv, hd⟩ := node_lst e1.rep hn hm
    refine ⟨.inl ⟨rfl, vs, SqL.of hv⟩, a, vs, rfl, rfl, hv, ?_⟩
    exact hE.nx _ _ q σ G1 _ (Ext.chg (hx.trans e1) hn (o' := .lst []) (.nil : DenL X.K wd.cl G1 [] [])) ((hsl.step e1).chgN hn)
/-- o.pop(i), a value -/
def wPopM (wo wi : WE) : WE := fun sd μ x k => wo sd μ x fun r μ1 => match r with
  | .d (.ref a) => ∃ ds0, μ1[a]? = some (.box (.lst ds0)) ∧ wi sd μ1 x fun r2 μ2 => match r2 with
    | .d (.int i) => -(2 ^ 63) ≤ i ∧ i < 2 ^ 63 ∧ ∃ ds j d, μ2[a]? = some (.box (.lst ds)) ∧ seqIndex? i ds.length = some j ∧ ds[j]? = some d ∧ k (.d d) (μ2.set a (.box (.lst (ds.eraseIdx j))))
    | _ => False
  | _ => False
theorem qe_popM (ho : QE wd X o wo) (he : QE wd X e wi) (hst : starEach [e] X.env = (false, eval e X.env) :: starEach [] X.env := by rfl)
    (hbase : attributeBase o "pop" X.env (eval o X.env) = eval o X.env := by rfl)
    (hfew : ((backTo cpos (starEach [e] X.env)).all (fun x => !x.1) && (backToKw cpos (keywordEach [] X.env)).all (fun x => x.1.isSome)
      && decide ([e].length + ([] : List Keyword).length + (if ([] : List Keyword).isEmpty then 0 else 1) < 30)) = true := by rfl)
    (hline : (apos.endLine == cpos.line) = true := by rfl) (hplain : (backTo cpos (starEach [] X.env)).any (·.1) = false := by rfl) :
    QE wd X (.Call (.Attribute o "pop" apos) [e] [] cpos) (wPopM wo wi) := by
  refine ⟨PE.imp (pe_bm PySem.F.plainAttrs_list PySem.F.slot_list_pop PySem.F.type_list_pop mt_popAt ho.pe (pa_cons he.pe pa_nil hst) hbase hfew hline hst hplain) fun σ H Q ⟨G0, H0, μ0, G, μ, sd, x, k, hx, hs, hw, hk, hxo⟩ => ?_⟩
  refine ⟨G0, H0, μ0, G, μ, sd, x, _, hx, hs, hw, fun r μ1 q v G1 H1 e1 rel => ?_, hxo⟩
  cases r with
  | «at» i => exact q.elim
  | new ds => exact q.elim
  | d y =>
    cases y <;> try exact q.elim
    rename_i n
    cases rel with
    | @ref a _ hn =>
    obtain ⟨ds0, hm0, q⟩ := q
    obtain ⟨vs0, hv0, _⟩ := node_lst e1.rep hn hm0
    refine ⟨.inl ⟨rfl, vs0, SqL.of hv0⟩, ?_⟩
    refine ⟨G0, H0, μ0, G1, μ1, sd, x, _, hx.trans e1, hs.step e1, q, fun r2 μ2 q2 v2 G2 H2 e2 rel2 => ?_, hxo.step e1⟩
    cases r2 with
    | «at» i => exact q2.elim
    | new ds => exact q2.elim
    | d z =>
      cases z <;> try exact q2.elim
      cases rel2
      obtain ⟨b1, b2, ds, j, d, hm, hj, hd, q2⟩ := q2
      obtain ⟨vs, hv, hdl⟩ := node_lst e2.rep (e2.g.at hn) hm
      obtain ⟨v, hv2, den⟩ := hdl.get hd
      refine ⟨a, vs, _, j, v, rfl, rfl, hv, b1, b2, by rw [hdl.len]; exact hj, hv2, ?_⟩
      exact hk _ _ q2 v G2 _ (Ext.chg (e1.trans e2) (e2.g.at hn) (o' := .lst (vs.eraseIdx j)) (hdl.erase j)) den
/-- o[i] = e -/
def wPutM (wo wi wv : WE) : WS := fun E sd μ => wv sd μ (E.x sd) fun r μ1 => withT r fun y => wo sd μ1 (E.x sd) fun r2 μ2 => match r2 with
  | .d (.ref a) => wi sd μ2 (E.x sd) fun r3 μ3 => match r3 with
    | .d (.int i) => ∃ ds j, μ3[a]? = some (.box (.lst ds)) ∧ ixN ds.length i = some j ∧ E.nx sd (μ3.set a (.box (.lst (ds.set j y))))
    | _ => False
  | _ => False
theorem qs_putM {ei : Expr} {tpos : Pos} (ho : QE wd X o wo) (hi : QE wd X ei wi) (he : QE wd X e w)
    (ha : ∀ v, assign (.Subscript o ei tpos) X.env v = (do
      let ov ← holding [v] (eval o X.env)
      let iv ← holding [v, ov] (eval ei X.env)
      standAt tpos
      holding [v, ov, iv] (setItem ov iv v)
      release [v, ov, iv] []) := by intro _; rfl)
    (hs : swapsWithSole [.Subscript o ei tpos] e pos.line X.env = pure false := by rfl) (hw : swappedStores [.Subscript o ei tpos] e X.env = pure none := by rfl)
    (h1 : (assignEach [.Subscript o ei tpos] X.env).map (·.2) = [assign (.Subscript o ei tpos) X.env] := by rfl) :
    QS wd X (.Assign [.Subscript o ei tpos] e pos) (wPutM wo wi w) := by
  refine ⟨PS.imp (ps_asg he.pe (pg_sub ho.pe hi.pe set_list ha) hs hw h1) fun D σ H ⟨G0, H0, μ0, G, μ, sd, E, hx, hsl, hw, hE⟩ => ?_⟩
  refine ⟨G0, H0, μ0, G, μ, sd, _, _, hx, hsl, hw, fun r μ1 q v G1 H1 e1 rel => ?_, hE.xok hx hsl⟩
  obtain ⟨y, hy, q⟩ := withT_tree q
  obtain ⟨G1', e1', s1, den⟩ := keep e1 rel hy
  refine ⟨G0, H0, μ0, G1', μ1, sd, _, _, hx.trans e1', hsl.step e1', q, fun r2 μ2 q2 v2 G2 H2 e2 rel2 => ?_, hE.xok (hx.trans e1') (hsl.step e1')⟩
  cases r2 with
  | «at» i => exact q2.elim
  | new ds => exact q2.elim
  | d z =>
    cases z <;> try exact q2.elim
    rename_i n
    cases rel2 with
    | @ref a _ hn =>
    refine ⟨G0, H0, μ0, G2, μ2, sd, _, _, (hx.trans e1').trans e2, (hsl.step e1').step e2, q2, fun r3 μ3 q3 v3 G3 H3 e3 rel3 => ?_, hE.xok ((hx.trans e1').trans e2) ((hsl.step e1').step e2)⟩
    cases r3 with
    | «at» i => exact q3.elim
    | new ds => exact q3.elim
    | d z =>
      cases z <;> try exact q3.elim
      cases rel3
      obtain ⟨ds, j, hm, hj, q3⟩ := q3
      obtain ⟨vs, hv, hd⟩ := node_lst e3.rep (e3.g.at hn) hm
      refine ⟨a, vs, _, j, rfl, rfl, hv, by rw [hd.len]; exact hj, ?_⟩
      exact hE.nx _ _ q3 σ G3 _ (Ext.chg (((hx.trans e1').trans e2).trans e3) (e3.g.at hn) (o' := .lst (vs.set j v)) (hd.set j (Den.mono (e2.g.trans e3.g) _ _ den))) ((((hsl.step e1').step e2).step e3).chgN (e3.g.at hn))
/-- target = x.pop(), x's own list -/
def wPopSet (i : Nat) (tg : Tg) : WS := fun E sd μ => match sd[i]? with
  | some (some (.own (.lst ds))) => ∃ d, ds[ds.length - 1]? = some d ∧ tg.bind d (sd.set i (some (.own (.lst ds.dropLast)))) fun sd' => E.nx sd' μ
  | _ => False
theorem qs_popSet {i : Nat} {t : Expr} {tg : Tg} (hg : QG X t tg) (hN : X.N[i]? = some x := by rfl) (hv : Vis X.env.scope x := by first | exact Or.inl rfl | exact Or.inr (Or.inl rfl) | exact Or.inr (Or.inr rfl)) (hd : (x == ("__debug__" : Str)) = false := by decide)
    (hcd : (x == ("__classdict__" : Str)) = false := by decide) (hbase : attributeBase (.Name x p) "pop" X.env (eval (.Name x p) X.env) = eval (.Name x p) X.env := by rfl) (hline : (apos.endLine == cpos.line) = true := by rfl)
    (hs : swapsWithSole [t] (.Call (.Attribute (.Name x p) "pop" apos) [] [] cpos) pos.line X.env = pure false := by rfl) (hw : swappedStores [t] (.Call (.Attribute (.Name x p) "pop" apos) [] [] cpos) X.env = pure none := by rfl)
    (h1 : (assignEach [t] X.env).map (·.2) = [assign t X.env] := by rfl) : QS wd X (.Assign [t] (.Call (.Attribute (.Name x p) "pop" apos) [] [] cpos) pos) (wPopSet i tg) := by
  refine ⟨PS.imp (ps_asg (pe_bm0 PySem.F.plainAttrs_list PySem.F.slot_list_pop PySem.F.type_list_pop mt_pop (pe_var (i := i) hN hv hd hcd) hbase hline) hg.pg hs hw h1) fun D σ H ⟨G0, H0, μ0, G, μ, sd, E, hx, hsl, hw, hE⟩ => ?_⟩
  unfold wPopSet at hw
  split at hw
  · rename_i ds q
    obtain ⟨d, hd, hw⟩ := hw
    obtain ⟨p, o, r1, r2, r3, r4, r5, r6⟩ := hsl.own q
    obtain ⟨vs, rfl, r3⟩ := r3.lst
    obtain ⟨v, hv, den⟩ := r3.get hd
    refine ⟨.ref p, r1, .inl ⟨rfl, vs, SqL.of r2⟩, p, vs, v, rfl, rfl, r2, by rw [r3.len]; exact hv, ?_⟩
    obtain ⟨x1, x2⟩ := Slots.chg (es := .lst ds.dropLast) (us := .lst vs.dropLast) hx hsl q r1 r2 (fun _ z => by cases z) r4 r5 r6 r3.dropLast
    exact tg_run x1.rep x2 den hw fun sd' q' σ' hs' _ => hE.nx _ _ q' σ' G _ x1 hs'
  · exact hw.elim
end
end TL
/-! TL: what a generated text uses -/
namespace TL
open PySem PySem.Spec L2

/-- the def at f keeps F, by level k -/
def OkF (P : Program) (w : World) (K : PySem.W.Frag) (mg : Str → Option Value) (base : Heap) (cl : Cl) (k : Nat) (f : Addr) (ps : List Str) (F : TSp) : Prop :=
  ∃ fd, FnOk P w K mg base (L2.CX P w) k f fd ps (spT K cl ps.length F) ∧ Binds K fd ps [] ∧ PySem.W.keepIn K (.ref f) = true
section
variable {P : Program} {w : World} {K : PySem.W.Frag} {mg : Str → Option Value} {base : Heap} {cl : Cl}
theorem OkF.mono {j k : Nat} {f : Addr} {ps : List Str} {F : TSp} (h : OkF P w K mg base cl j f ps F) (hk : j ≤ k) : OkF P w K mg base cl k f ps F :=
  let ⟨fd, a, b, c⟩ := h
  ⟨fd, a.mono hk, b, c⟩
/-- the methods m of the classes cs -/
def MethO (P : Program) (w : World) (K : PySem.W.Frag) (mg : Str → Option Value) (base : Heap) (cl : Cl) (cs : List Nat) (m : Str) (n k : Nat) (Fs : Nat → TSp) : Prop :=
  ∀ c, cs.elem c = true → ∀ C, cl c = some C → Cls K C ∧ ∃ f ps, Meth K C m f ∧ ps.length = n + 1 ∧ OkF P w K mg base cl k f ps (Fs c)
theorem methO_nil {m : Str} {n k : Nat} {Fs : Nat → TSp} : MethO P w K mg base cl [] m n k Fs := fun c h => by simp at h
theorem methO_cons {m : Str} {n k c : Nat} {cs : List Nat} {Fs : Nat → TSp} (h : ∀ C, cl c = some C → Cls K C ∧ ∃ f ps, Meth K C m f ∧ ps.length = n + 1 ∧ OkF P w K mg base cl k f ps (Fs c)) (t : MethO P w K mg base cl cs m n k Fs) : MethO P w K mg base cl (c :: cs) m n k Fs := fun c' hc C e => by
  by_cases q : c' = c
  · subst q; exact h C e
  · refine t c' ?_ C e
    have q' : (c' == c) = false := by simpa using q
    rw [List.elem_cons, q'] at hc
    exact hc
theorem fldT_nil {f : Nat} : FldT K cl [] f := fun c h => by simp at h
theorem fldT_cons {f c : Nat} {cs : List Nat} (h : ∀ C, cl c = some C → Cls K C ∧ NoAttr K C (fnm f)) (t : FldT K cl cs f) : FldT K cl (c :: cs) f := fun c' hc C e => by
  by_cases q : c' = c
  · subst q; exact h C e
  · refine t c' ?_ C e
    have q' : (c' == c) = false := by simpa using q
    rw [List.elem_cons, q'] at hc
    exact hc
end
section
variable {X : Cx} {wd : Wd} {e o : Expr} {es : List Expr} {w wo : WE} {ws : WA} {pos p apos : Pos} {k n : Nat} {f C : Addr} {ps : List Str} {Fn : TSp} {x m : Str} {cs : List Nat} {Fs : Nat → TSp}
theorem MethO.at {cl : Cl} (h : MethO X.prog X.w X.K X.mg X.base cl cs m n k Fs) (hr : Room k X.A) : MethT X cl cs m n Fs := fun c hc C e => by
  obtain ⟨hC, f, ps, hm, hl, fd, F, b, kp⟩ := h c hc C e
  exact ⟨hC, f, fd, ps, k, hm, hl, by rw [← hl]; exact F, hr, b⟩
theorem qe_callO (O : OkF X.prog X.w X.K X.mg X.base wd.cl k f ps Fn) (hr : Room k X.A) (hm : X.mg x = some (.ref f)) (tk : TakesE wd X) (ha : QA wd X (e :: es) ws) (hg : Gl X x := by rfl) (hdb : (x == ("__debug__" : Str)) = false := by decide)
    (he : starEach (e :: es) X.env = (false, eval e X.env) :: starEach es X.env := by rfl) (hpl : (backTo pos (starEach es X.env)).any (·.1) = false := by rfl) :
    QE wd X (.Call (.Name x p) (e :: es) [] pos) (wCall ps.length Fn ws) := by
  obtain ⟨fd, F, b, kp⟩ := O
  exact qe_call F hr hm kp b tk ha hg hdb he hpl
theorem qe_makeO {c : Nat} (O : OkF X.prog X.w X.K X.mg X.base wd.cl k f ps Fn) (hn : ps.length = n + 1) (hc : wd.cl c = some C) (M : Mk X.K C f) (hr : Room (k + 1) X.A) (hm : X.mg x = some (.ref C)) (tk : TakesE wd X) (ha : QA wd X (e :: es) ws) (hg : Gl X x := by rfl) (hdb : (x == ("__debug__" : Str)) = false := by decide)
    (he : starEach (e :: es) X.env = (false, eval e X.env) :: starEach es X.env := by rfl) (hpl : (backTo pos (starEach es X.env)).any (·.1) = false := by rfl) :
    QE wd X (.Call (.Name x p) (e :: es) [] pos) (wMake c n Fn [] ws) := by
  obtain ⟨fd, F, b, kp⟩ := O
  rw [hn] at F
  exact qe_make (dvs := []) hc M F hr hm b .nil (fun _ => .nil) tk ha hg hdb he hpl
theorem qe_makeFO {c : Nat} (O : OkF X.prog X.w X.K X.mg X.base wd.cl k f ps Fn) (hn : ps.length = n + 1) (hc : wd.cl c = some C) (M : Mk X.K C f) (hr : Room (k + 1) X.A) (hm : X.mg x = some (.ref C)) (tk : TakesE wd X) (ha : QA wd X (e :: es) ws) (hg : Gl X x := by rfl) (hdb : (x == ("__debug__" : Str)) = false := by decide)
    (he : starEach (e :: es) X.env = (false, eval e X.env) :: starEach es X.env := by rfl) (hpl : (backTo pos (starEach es X.env)).any (·.1) = false := by rfl) :
    QE wd X (.Call (.Name x p) (e :: es) [] pos) (wMakeF c n Fn [] ws) := by
  obtain ⟨fd, F, b, kp⟩ := O
  rw [hn] at F
  exact qe_makeF (dvs := []) hc M F hr hm b .nil (fun _ => .nil) tk ha hg hdb he hpl
theorem qe_cfnO {mc : Value} {pl : Sem Bool} {p2 : Pos} (O : OkF X.prog X.w X.K X.mg X.base wd.cl k f ps Fn) (hm : X.mg x = some (.ref C)) (r : ClX.CRead X.K C mc) (c : ClX.CVal X.K C mc m (.ref f) (.ref f)) (hr : Room k X.A)
    (tk : TakesE wd X) (ha : QA wd X (e :: es) ws) (hg : Gl X x := by rfl) (hdb : (x == ("__debug__" : Str)) = false := by decide)
    (hst : starEach (e :: es) X.env = (false, eval e X.env) :: starEach es X.env := by rfl) (hpl : (backTo pos (starEach es X.env)).any (·.1) = false := by rfl)
    (ht : eval (.Call (.Attribute (.Name x p2) m apos) (e :: es) [] pos) X.env = (do
      let ov ← eval (.Name x p2) X.env
      standAt apos.atName
      let (f, first) ← holding [ov] (getMethod ov m pl)
      callWith pos f first (backTo pos (starEach (e :: es) X.env)) (backToKw pos (keywordEach [] X.env))) := by rfl) :
    QE wd X (.Call (.Attribute (.Name x p2) m apos) (e :: es) [] pos) (wCall ps.length Fn ws) := by
  obtain ⟨fd, F, b, kp⟩ := O
  exact qe_cfn hm r c F hr kp b tk ha hg hdb hst hpl ht
end
/-- the law's promise -/
def spLawB (K : PySem.W.Frag) : Sp := fun vs H Q _ => ∃ (a : Addr) (ns : List Int), vs = [.ref a] ∧ SqL K H a (ns.map V.int) ∧ ns.length ≤ 63 ∧ (∀ z ∈ ns, Builtin.Int.intBits z ≤ 1048576) ∧ ∀ H', Q (.bl true) H'
def Holds (F : TSp) : Prop := ∀ ns : List Int, ns.length ≤ 63 → (∀ z ∈ ns, Builtin.Int.intBits z ≤ 1048576) → F [.lst (ns.map D.int)] [] (fun _ _ _ => False) (fun r _ => match r with | .d (.bl true) => True | _ => False)
theorem law_fn {P : Program} {w : World} {K : PySem.W.Frag} {mg : Str → Option Value} {base : Heap} {cl : Cl} {k : Nat} {f : Addr} {fd : FuncData} {ps : List Str} {F : TSp} (h : Holds F) (O : FnOk P w K mg base (L2.CX P w) k f fd ps (spT K cl 1 F)) :
    FnOk P w K mg base (L2.CX P w) k f fd ps (spLawB K) := O.imp fun vs H Q E ⟨a, ns, e, hS, hl, hb, hQ⟩ => by
  subst e
  obtain ⟨G, μ, ds, x, k, q1, q2, q3, q4, q5, q6⟩ := law_end (cl := cl) h H a ns hl hb hS
  exact ⟨G, μ, ds, x, k, q1, q2, q3, q4, fun r μ' q v G' H' e rel => by rw [q5 r μ' q v G' H' e rel]; exact hQ H', fun c fs μ' q C d G' H' hc e xd => (q6 c fs μ' q C d G' H' hc e xd).elim⟩
theorem cx_out (P : Program) (w : World) (H : Hp) (s : Shared) (e : Value) (s' : Shared) (h : L2.CX P w [] H s (fun _ _ _ => False) e s') : False := by
  obtain ⟨_, _, _, _, _, _, _, _, _, _, _, _, z⟩ := h
  exact z
end TL
/-! TL: odds and ends for generated texts -/
namespace TL
open PySem PySem.Spec L2
def lkB (l : List (Nat × Bool)) : Nat → Option Bool := fun c => l.lookup c
theorem exmT_nil {X : Cx} {cl : Cl} {cv : Value} : ExmT X cl cv (lkB []) := fun c C b _ h => by cases h
theorem exmT_cons {X : Cx} {cl : Cl} {cv : Value} {c : Nat} {b : Bool} {l : List (Nat × Bool)} (h : ∀ C, cl c = some C → PySem.W.exmOne X.K (.ref C) cv = some b) (t : ExmT X cl cv (lkB l)) : ExmT X cl cv (lkB ((c, b) :: l)) := fun c' C b' hc hb => by
  unfold lkB at hb
  rw [List.lookup_cons] at hb
  by_cases q : c' = c
  · subst q
    rw [beq_self_eq_true] at hb
    cases hb
    exact h C hc
  · have q' : (c' == c) = false := by simpa using q
    rw [q'] at hb
    exact t c' C b' hc hb
theorem isxT_nil {K : PySem.W.Frag} {cl : Cl} {tv : Value} : IsxT K cl tv (lkB []) := fun c C b _ h => by cases h
theorem isxT_cons {K : PySem.W.Frag} {cl : Cl} {tv : Value} {c : Nat} {b : Bool} {l : List (Nat × Bool)} (h : ∀ C, cl c = some C → ExcC K C ∧ PySem.W.kitOne K (.ref C) tv = some b) (t : IsxT K cl tv (lkB l)) : IsxT K cl tv (lkB ((c, b) :: l)) := fun c' C b' hc hb => by
  unfold lkB at hb
  rw [List.lookup_cons] at hb
  by_cases q : c' = c
  · subst q
    rw [beq_self_eq_true] at hb
    cases hb
    exact h C hc
  · have q' : (c' == c) = false := by simpa using q
    rw [q'] at hb
    exact t c' C b' hc hb
theorem units64 {k : Nat} {A : Around} (hr : Room k A) : A.units + 64 < cLine := hr.units
theorem units65 {k : Nat} {A : Around} (hr : Room k A) : A.units + 65 < cLine := by have := hr.un; omega
/-- an exception's own __init__ -/
def OkX (P : Program) (w : World) (K : PySem.W.Frag) (mg : Str → Option Value) (base : Heap) (k : Nat) (f : Addr) (ps : List Str) (sp : Sp) : Prop :=
  ∃ fd, FnOk P w K mg base (L2.CX P w) k f fd ps sp ∧ Binds K fd ps [] ∧ PySem.W.keepIn K (.ref f) = true
theorem raise1O {X : Cx} {wd : Wd} {e : Expr} {w : WE} {c f k : Nat} {fI C : Addr} {n x : Str} {p pos pos2 : Pos} {psI : List Str} (hc : wd.cl c = some C) (T : OexC X.K C) (iC : PySem.W.findIn X.K (.ref C) "__init__" = some (some (.ref fI))) (tI : PySem.W.typeIn X.K (.ref fI) = some (.type "function"))
    (O : OkX X.prog X.w X.K X.mg X.base k fI psI (spX1 X.K C n)) (hr : Room (k + 1) X.A) (hm : X.mg x = some (.ref C)) (hcalm : X.calm = true) (tk : Takes X wd.W) (he : QE wd X e w) (hf : f < 32 := by decide) (hn : fnm f = n := by rfl)
    (hg : Gl X x := by rfl) (hdb : (x == ("__debug__" : Str)) = false := by decide) (hst : starEach [e] X.env = (false, eval e X.env) :: starEach [] X.env := by rfl) (hpl : (backTo pos (starEach [] X.env)).any (·.1) = false := by rfl) :
    QS wd X (.Raise (some (.Call (.Name x p) [e] [] pos)) none pos2) (wRaise1 c f w) := by
  obtain ⟨fd, F, b, kp⟩ := O
  exact qs_raise1 hc T iC tI F hr b hm hcalm tk he hf hn hg hdb hst hpl
theorem exm_ref {K : PySem.W.Frag} {C D : Addr} {b : Bool} (h1 : PySem.W.subIn K (.ref D) (.type "BaseException") = some true) (h2 : PySem.W.isClsIn K D = true) (h3 : PySem.W.typeIn K (.ref D) = some (.type "type")) (h4 : PySem.W.subIn K (.ref C) (.ref D) = some b) :
    PySem.W.exmOne K (.ref C) (.ref D) = some b := by
  unfold PySem.W.exmOne PySem.W.kitCls
  have h2' : (PySem.W.clsIn K D).isSome = true := h2
  simp only [h1, h2', h3, beq_self_eq_true, Bool.and_self, if_true]
  exact h4
theorem exm_type {K : PySem.W.Frag} {C : Addr} {T : String} {b : Bool} (h1 : PySem.W.subIn K (.type T) (.type "BaseException") = some true) (h2 : PySem.W.kitMeta T = true) (h4 : PySem.W.subIn K (.ref C) (.type T) = some b) :
    PySem.W.exmOne K (.ref C) (.type T) = some b := by
  unfold PySem.W.exmOne PySem.W.kitCls
  simp only [h1, h2, beq_self_eq_true, if_true]
  exact h4
theorem kit_ref {K : PySem.W.Frag} {C D : Addr} {b : Bool} (h2 : PySem.W.isClsIn K D = true) (h3 : PySem.W.typeIn K (.ref D) = some (.type "type")) (hs : PySem.W.subIn K (.ref D) (.ref D) = some true) (h4 : PySem.W.subIn K (.ref C) (.ref D) = some b) :
    PySem.W.kitOne K (.ref C) (.ref D) = some b := by
  unfold PySem.W.kitOne PySem.W.kitCls
  have h2' : (PySem.W.clsIn K D).isSome = true := h2
  by_cases e : (Value.ref C == Value.ref D) = true
  · rw [if_pos e]
    have e' : Value.ref C = Value.ref D := eq_of_beq e
    rw [e'] at h4
    rw [hs] at h4
    exact h4
  · rw [if_neg e]
    simp only [h2', h3, beq_self_eq_true, Bool.and_self, if_true]
    exact h4
theorem kit_type {K : PySem.W.Frag} {C : Addr} {T : String} {b : Bool} (h2 : PySem.W.kitMeta T = true) (h4 : PySem.W.subIn K (.ref C) (.type T) = some b) :
    PySem.W.kitOne K (.ref C) (.type T) = some b := by
  unfold PySem.W.kitOne PySem.W.kitCls
  have e : ¬ (Value.ref C == Value.type T) = true := fun h => by
    have := eq_of_beq h
    cases this
  rw [if_neg e]
  simp only [h2, if_true]
  exact h4
end TL
/-! TL: readings as functions -/
namespace TL
open PySem PySem.Spec L2
open Classical
noncomputable section

inductive Out (α : Type) where
  | ok (a : α) (μ : Mu) | ex (c : Nat) (fs : List (Nat × D)) (μ : Mu) | no
def Out.bind {α β : Type} (o : Out α) (f : α → Mu → Out β) : Out β := match o with
  | .ok a μ => f a μ
  | .ex c fs μ => .ex c fs μ
  | .no => .no
def Out.sat {α : Type} (o : Out α) (x : XT) (k : α → Mu → Prop) : Prop := match o with
  | .ok a μ => k a μ
  | .ex c fs μ => x c fs μ
  | .no => False
def Out.of {α : Type} (o : Option α) (μ : Mu) : Out α := match o with
  | some a => .ok a μ
  | none => .no
@[simp] theorem bind_ok {α β : Type} {a : α} {μ : Mu} {f : α → Mu → Out β} : (Out.ok a μ).bind f = f a μ := rfl
@[simp] theorem bind_ex {α β : Type} {c : Nat} {fs : List (Nat × D)} {μ : Mu} {f : α → Mu → Out β} : (Out.ex c fs μ : Out α).bind f = .ex c fs μ := rfl
@[simp] theorem bind_no {α β : Type} {f : α → Mu → Out β} : (Out.no : Out α).bind f = .no := rfl
@[simp] theorem of_some {α : Type} {a : α} {μ : Mu} : Out.of (some a) μ = .ok a μ := rfl
@[simp] theorem of_none {α : Type} {μ : Mu} : Out.of (none : Option α) μ = .no := rfl
theorem sat_bind {α β : Type} {o : Out α} {f : α → Mu → Out β} {x : XT} {k : β → Mu → Prop} (h : (o.bind f).sat x k) : o.sat x fun a μ => (f a μ).sat x k := by
  cases o <;> exact h
theorem sat_of {α : Type} {o : Option α} {μ : Mu} {x : XT} {k : α → Mu → Prop} (h : (Out.of o μ).sat x k) : ∃ a, o = some a ∧ k a μ := by
  cases o with
  | none => exact h.elim
  | some a => exact ⟨a, rfl, h⟩
theorem sat_mono {α : Type} {o : Out α} {x : XT} {k k' : α → Mu → Prop} (h : o.sat x k) (q : ∀ a μ, k a μ → k' a μ) : o.sat x k' := by
  cases o <;> first | exact q _ _ h | exact h
theorem sat_ite {α : Type} {c : Prop} [Decidable c] {o : Out α} {x : XT} {k : α → Mu → Prop} (h : (if c then o else .no).sat x k) : c ∧ o.sat x k := by
  by_cases q : c
  · rw [if_pos q] at h; exact ⟨q, h⟩
  · rw [if_neg q] at h; exact h.elim
inductive OS where
  | nx (sd : SD) (μ : Mu) | rt (r : R) (μ : Mu) | bk (sd : SD) (μ : Mu) | ct (sd : SD) (μ : Mu) | ex (c : Nat) (fs : List (Nat × D)) (sd : SD) (μ : Mu) | no
def OS.sat (o : OS) (E : TEn) : Prop := match o with
  | .nx sd μ => E.nx sd μ
  | .rt r μ => E.rt r μ
  | .bk sd μ => E.bk sd μ
  | .ct sd μ => E.ct sd μ
  | .ex c fs sd μ => E.ex c fs sd μ
  | .no => False
abbrev FE := SD → Mu → Out R
abbrev FT := SD → Mu → Out Bool
abbrev FA := SD → Mu → Out (List D)
abbrev FI := SD → Mu → Out (List D × Lk)
abbrev FO := SD → Mu → Out (Option Int)
abbrev FS := SD → Mu → OS
abbrev FF := List D → Mu → Out R
def ofE (F : FE) : WE := fun sd μ x k => (F sd μ).sat x k
def ofT (F : FT) : WT := fun sd μ x k => (F sd μ).sat x k
def ofA (F : FA) : WA := fun sd μ x k => (F sd μ).sat x k
def ofO (F : FO) : WO := fun sd μ x k => (F sd μ).sat x k
def ofI (F : FI) : WI := fun sd μ x k => (F sd μ).sat x fun p μ' => k p.1 p.2 μ'
def ofS (F : FS) : WS := fun E sd μ => (F sd μ).sat E
def ofF (F : FF) : TSp := fun ds μ x k => (F ds μ).sat x k
/-- a value, then the rest of a statement -/
def thenS {α : Type} (o : Out α) (sd : SD) (f : α → Mu → OS) : OS := match o with
  | .ok a μ => f a μ
  | .ex c fs μ => .ex c fs sd μ
  | .no => .no
@[simp] theorem thenS_ok {α : Type} {a : α} {μ : Mu} {sd : SD} {f : α → Mu → OS} : thenS (.ok a μ) sd f = f a μ := rfl
@[simp] theorem thenS_ex {α : Type} {c : Nat} {fs : List (Nat × D)} {μ : Mu} {sd : SD} {f : α → Mu → OS} : thenS (.ex c fs μ : Out α) sd f = .ex c fs sd μ := rfl
@[simp] theorem thenS_no {α : Type} {sd : SD} {f : α → Mu → OS} : thenS (.no : Out α) sd f = .no := rfl
theorem sat_thenS {α : Type} {o : Out α} {sd : SD} {f : α → Mu → OS} {E : TEn} (h : (thenS o sd f).sat E) : o.sat (E.x sd) fun a μ => (f a μ).sat E := by
  cases o <;> exact h
theorem sat_iteS {c : Prop} [Decidable c] {o : OS} {E : TEn} (h : (if c then o else .no).sat E) : c ∧ o.sat E := by
  by_cases q : c
  · rw [if_pos q] at h; exact ⟨q, h⟩
  · rw [if_neg q] at h; exact h.elim

section
variable {X : Cx} {wd : Wd} {e a b c : Expr} {es : List Expr} {st : Stmt} {sts : List Stmt}
theorem QE.imp {w w' : WE} (h : QE wd X e w) (q : ∀ sd μ x k, w' sd μ x k → w sd μ x k) : QE wd X e w' := ⟨PE.imp h.pe fun σ H Q ⟨G0, H0, μ0, G, μ, sd, x, k, hx, hs, hw, hk, hxo⟩ => ⟨G0, H0, μ0, G, μ, sd, x, k, hx, hs, q _ _ _ _ hw, hk, hxo⟩⟩
theorem QT.imp {w w' : WT} (h : QT wd X e w) (q : ∀ sd μ x k, w' sd μ x k → w sd μ x k) : QT wd X e w' := ⟨PT.imp h.pt fun σ H Q ⟨G0, H0, μ0, G, μ, sd, x, k, hx, hs, hw, hk, hxo⟩ => ⟨G0, H0, μ0, G, μ, sd, x, k, hx, hs, q _ _ _ _ hw, hk, hxo⟩⟩
theorem QW.imp {w w' : WT} (h : QW wd X e w) (q : ∀ sd μ x k, w' sd μ x k → w sd μ x k) : QW wd X e w' := ⟨PW.imp h.pw fun σ H Q ⟨G0, H0, μ0, G, μ, sd, x, k, hx, hs, hw, hk, hxo⟩ => ⟨G0, H0, μ0, G, μ, sd, x, k, hx, hs, q _ _ _ _ hw, hk, hxo⟩⟩
theorem QA.imp {w w' : WA} (h : QA wd X es w) (q : ∀ sd μ x k, w' sd μ x k → w sd μ x k) : QA wd X es w' := ⟨PA.imp h.pa fun σ H Q ⟨G0, H0, μ0, G, μ, sd, x, k, hx, hs, hw, hk, hxo⟩ => ⟨G0, H0, μ0, G, μ, sd, x, k, hx, hs, q _ _ _ _ hw, hk, hxo⟩⟩
theorem QB.imp {w w' : WA} (h : QB wd X es w) (q : ∀ sd μ x k, w' sd μ x k → w sd μ x k) : QB wd X es w' := ⟨PA.imp h.pa fun σ H Q ⟨G0, H0, μ0, G, μ, sd, x, k, hx, hs, hw, hk, hxo⟩ => ⟨G0, H0, μ0, G, μ, sd, x, k, hx, hs, q _ _ _ _ hw, hk, hxo⟩⟩
theorem QO.imp {eo : Option Expr} {w w' : WO} (h : QO wd X eo w) (q : ∀ sd μ x k, w' sd μ x k → w sd μ x k) : QO wd X eo w' := ⟨PO.imp h.po fun σ H Q ⟨G0, H0, μ0, G, μ, sd, x, k, hx, hs, hw, hk, hxo⟩ => ⟨G0, H0, μ0, G, μ, sd, x, k, hx, hs, q _ _ _ _ hw, hk, hxo⟩⟩
theorem QI.imp {tg : Expr} {w w' : WI} (h : QI wd X tg e w) (q : ∀ sd μ x k, w' sd μ x k → w sd μ x k) : QI wd X tg e w' := ⟨PI.imp h.pi fun σ H R ⟨G0, H0, μ0, G, μ, sd, x, k, hx, hs, hw, hk, hxo⟩ => ⟨G0, H0, μ0, G, μ, sd, x, k, hx, hs, q _ _ _ _ hw, hk, hxo⟩⟩
theorem QS.imp {w w' : WS} (h : QS wd X st w) (q : ∀ E sd μ, w' E sd μ → w E sd μ) : QS wd X st w' := ⟨PS.imp h.ps fun D σ H ⟨G0, H0, μ0, G, μ, sd, E, hx, hs, hw, hE⟩ => ⟨G0, H0, μ0, G, μ, sd, E, hx, hs, q _ _ _ hw, hE⟩⟩
theorem QSs.imp {w w' : WS} (h : QSs wd X sts w) (q : ∀ E sd μ, w' E sd μ → w E sd μ) : QSs wd X sts w' := ⟨PSs.imp h.pss fun D σ H ⟨G0, H0, μ0, G, μ, sd, E, hx, hs, hw, hE⟩ => ⟨G0, H0, μ0, G, μ, sd, E, hx, hs, q _ _ _ hw, hE⟩⟩
end

section
variable {X : Cx} {wd : Wd} {e o a b c : Expr} {es rest : List Expr} {pos p apos cpos : Pos} {st : Stmt} {sts body : List Stmt} {A B C O I : FE} {T U : FT} {As : FA} {S S1 S2 : FS} {x m : Str}

/-! ### expressions -/
def fC (d : D) : FE := fun _ μ => .ok (.d d) μ
theorem fe_int {i : Int} {j : Nat} : QE wd X (.Constant (.int i) j pos) (ofE (fC (.int i))) := qe_int
theorem fe_bl {i : Bool} {j : Nat} : QE wd X (.Constant (.bool i) j pos) (ofE (fC (.bl i))) := qe_bl
theorem fe_non {j : Nat} : QE wd X (.Constant .none j pos) (ofE (fC .non)) := qe_non
theorem fe_str {i : Str} {j : Nat} : QE wd X (.Constant (.str i) j pos) (ofE (fC (.str i))) := qe_str
def fV (i : Nat) : FE := fun sd μ => match sd[i]? with
  | some (some (.fz d)) => .ok (.d d) μ
  | some (some (.own _)) => .ok (.at i) μ
  | _ => .no
theorem fv_le {i : Nat} {sd : SD} {μ : Mu} {x : XT} {k : R → Mu → Prop} (h : ofE (fV i) sd μ x k) : wV i sd μ x k := by
  unfold ofE fV at h
  unfold wV
  generalize sd[i]? = z at h ⊢
  match z, h with
  | some (some (.fz d)), h => exact h
  | some (some (.own _)), h => exact h
  | some (some (.exc _ _)), h => exact h.elim
  | some (some (.fn _)), h => exact h.elim
  | some none, h => exact h.elim
  | none, h => exact h.elim
theorem fv (i : Nat) {x : Str} (hN : X.N[i]? = some x := by rfl) (hv : Vis X.env.scope x := by first | exact Or.inl rfl | exact Or.inr (Or.inl rfl) | exact Or.inr (Or.inr rfl)) (hd : (x == ("__debug__" : Str)) = false := by decide)
    (hcd : (x == ("__classdict__" : Str)) = false := by decide) : QE wd X (.Name x pos) (ofE (fV i)) := (qv i hN hv hd hcd).imp fun sd μ x k h => fv_le h
abbrev FOp := D → D → Option R
def OpF (o : OP) (f : FOp) : Prop := ∀ a b r k, f a b = some r → k r → o a b k
def fBin (f : FOp) (A B : FE) : FE := fun sd μ => (A sd μ).bind fun r1 μ1 => (B sd μ1).bind fun r2 μ2 => Out.of (f (vw μ2 sd r1) (vw μ2 sd r2)) μ2
theorem fBin_le {o : OP} {f : FOp} (hf : OpF o f) {sd : SD} {μ : Mu} {x : XT} {k : R → Mu → Prop} (h : ofE (fBin f A B) sd μ x k) : wBin o (ofE A) (ofE B) sd μ x k :=
  sat_mono (sat_bind h) fun r1 μ1 h => sat_mono (sat_bind h) fun r2 μ2 h => let ⟨r, e, q⟩ := sat_of h; hf _ _ r _ e q
def foI (C : Int → Int → Prop) (g : Int → Int → Int) : FOp := fun a b => match a, b with
  | .int i, .int j => if C i j then some (.d (.int (g i j))) else none
  | _, _ => none
def foB (g : Int → Int → Bool) : FOp := fun a b => match a, b with
  | .int i, .int j => some (.d (.bl (g i j)))
  | _, _ => none
theorem of_I {C : Int → Int → Prop} {g : Int → Int → Int} : OpF (oI C g) (foI C g) := fun a b r k e q => by
  unfold foI at e
  split at e
  · split at e
    · rename_i h; cases e; exact ⟨h, q⟩
    · cases e
  · cases e
theorem of_B {g : Int → Int → Bool} : OpF (oB g) (foB g) := fun a b r k e q => by
  unfold foB at e
  split at e
  · cases e; exact q
  · cases e
def foSub : FOp := foI (fun _ _ => True) fun i j => i - j
def foMod : FOp := foI (fun _ j => 0 < j) fun i j => i % j
def foDiv : FOp := foI CDivW fun i j => i / j
def foPow : FOp := foI CPow fun i j => i ^ j.toNat
def foShl : FOp := foI CShl fun i j => i * 2 ^ j.toNat
def foShr : FOp := foI (fun _ j => 0 ≤ j) fun i j => i / 2 ^ j.toNat
def foAnd : FOp := foI (fun _ _ => True) Builtin.bitAnd
def foOr : FOp := foI (fun _ _ => True) Builtin.bitOr
def foXor : FOp := foI (fun _ _ => True) Builtin.bitXor
def foLt : FOp := foB fun i j => decide (i < j)
def foLe : FOp := foB fun i j => decide (i ≤ j)
def foGt : FOp := foB fun i j => decide (j < i)
def foGe : FOp := foB fun i j => decide (j ≤ i)
def foAdd : FOp := fun a b => match a, b with
  | .int i, .int j => some (.d (.int (i + j)))
  | .str i, .str j => if i.length + j.length ≤ sizeLine then some (.d (.str (i ++ j))) else none
  | .lst xs, .lst ys => if xs.length + ys.length ≤ sizeLine then some (.new (.lst (xs ++ ys))) else none
  | .tup xs, .tup ys => if xs.length + ys.length ≤ sizeLine then some (.d (.tup (xs ++ ys))) else none
  | _, _ => none
theorem of_add : OpF oAdd foAdd := fun a b r k e q => by
  unfold foAdd at e
  split at e <;> first | (cases e; done) | (cases e; exact q) | (split at e; (rename_i h; cases e; exact ⟨h, q⟩); cases e)
/-- bounds of a range's ends, a list's copies, a place popped -/
def Rg1 (j : Int) : Prop := j < 2 ^ 62 ∧ -(2 ^ 62) ≤ j
def Rg2 (i j : Int) : Prop := -(2 ^ 62) ≤ i ∧ i < 2 ^ 62 ∧ -(2 ^ 62) ≤ j ∧ j < 2 ^ 62
def Cp6 (j : Int) (n : Nat) : Prop := -(2 ^ 63) ≤ j ∧ j < 2 ^ 63 ∧ n * j.toNat ≤ sizeLine
def Pp6 (i : Int) : Prop := -(2 ^ 63) ≤ i ∧ i < 2 ^ 63
def foMul : FOp := fun a b => match a, b with
  | .int i, .int j => if CMulX i j then some (.d (.int (i * j))) else none
  | .lst xs, .int j => if Cp6 j xs.length then some (.new (.lst (List.replicate j.toNat xs).flatten)) else none
  | _, _ => none
theorem of_mul : OpF oMul foMul := fun a b r k e q => by
  unfold foMul at e
  split at e
  · split at e
    · rename_i h; cases e; exact ⟨h, q⟩
    · cases e
  · split at e
    · rename_i h; cases e; exact ⟨h.1, h.2.1, h.2.2, q⟩
    · cases e
  · cases e
def okB : Nat → D → Bool
  | _, .non => true
  | _, .bl _ => true
  | _, .int _ => true
  | _, .str x => PyData.strOk x
  | n + 1, .lst ds => ds.all (okB n)
  | n + 1, .tup ds => ds.all (okB n)
  | _, _ => false
theorem okB_ok : ∀ (n : Nat) (d : D), okB n d = true → okD n d
  | n, .non, _ => by cases n <;> trivial
  | n, .bl _, _ => by cases n <;> trivial
  | n, .int _, _ => by cases n <;> trivial
  | n, .str x, h => by cases n <;> simpa [okB, okD] using h
  | n + 1, .lst ds, h => fun d hd => okB_ok n d (by simp only [okB, List.all_eq_true] at h; exact h d hd)
  | n + 1, .tup ds, h => fun d hd => okB_ok n d (by simp only [okB, List.all_eq_true] at h; exact h d hd)
  | 0, .lst ds, h => by simp [okB] at h
  | 0, .tup ds, h => by simp [okB] at h
  | 0, .dic _ _, h => by simp [okB] at h
  | 0, .obj _ _, h => by simp [okB] at h
  | 0, .ref _, h => by simp [okB] at h
  | n + 1, .dic _ _, h => by simp [okB] at h
  | n + 1, .obj _ _, h => by simp [okB] at h
  | n + 1, .ref _, h => by simp [okB] at h
def foEq (f : Bool → Bool) : FOp := fun a b => if okB 12 a = true ∧ okB 12 b = true then some (.d (.bl (f (deq a b)))) else none
theorem of_eq : OpF oEq (foEq fun b => b) := fun a b r k e q => by
  unfold foEq at e
  split at e
  · rename_i h; cases e; exact ⟨okB_ok _ _ h.1, okB_ok _ _ h.2, q⟩
  · cases e
theorem of_ne : OpF oNe (foEq fun b => !b) := fun a b r k e q => by
  unfold foEq at e
  split at e
  · rename_i h; cases e; exact ⟨okB_ok _ _ h.1, okB_ok _ _ h.2, q⟩
  · cases e
def foIn (f : Bool → Bool) : FOp := fun a b => match b with
  | .lst ds => if okB 10 a = true ∧ okB 12 (.lst ds) = true then some (.d (.bl (f (anyD a ds)))) else none
  | .tup ds => if fltD a = true ∧ ds.all fltD = true then some (.d (.bl (f (anyD a ds)))) else none
  | _ => none
theorem of_in {f : Bool → Bool} : OpF (oInG f) (foIn f) := fun a b r k e q => by
  unfold foIn at e
  split at e
  · split at e
    · rename_i h; cases e; exact ⟨okB_ok _ _ h.1, okB_ok _ _ h.2, q⟩
    · cases e
  · split at e
    · rename_i h; cases e; exact ⟨h.1, List.all_eq_true.mp h.2, q⟩
    · cases e
  · cases e
def foIs (f : Bool → Bool) : FOp := fun a b => match a, b with
  | .bl x, .bl y => some (.d (.bl (f (decide (x = y)))))
  | a, .non => some (.d (.bl (f (isNon a))))
  | _, _ => none
theorem of_is : OpF oIs (foIs fun b => b) := fun a b r k e q => by
  unfold foIs at e
  split at e
  · cases e; exact q
  · cases e
    rename_i a' h
    unfold oIs
    cases a <;> exact q
  · cases e
theorem of_isNot : OpF oIsNot (foIs fun b => !b) := fun a b r k e q => by
  unfold foIs at e
  split at e
  · cases e; exact q
  · cases e
    unfold oIsNot
    cases a <;> exact q
  · cases e
def foIx : FOp := fun a b => match a, b with
  | .lst ds, .int i => (atI ds i).map R.d
  | .tup ds, .int i => (atI ds i).map R.d
  | .str z, .int i => if z.length ≤ sizeLine then (atI z.cps.toList i).map fun c => .d (.str ⟨#[c]⟩) else none
  | _, _ => none
theorem of_ix : OpF oIx foIx := fun a b r k e q => by
  unfold foIx at e
  split at e
  · obtain ⟨d, h, rfl⟩ := Option.map_eq_some_iff.mp e; exact ⟨d, h, q⟩
  · obtain ⟨d, h, rfl⟩ := Option.map_eq_some_iff.mp e; exact ⟨d, h, q⟩
  · split at e
    · rename_i hl; obtain ⟨d, h, rfl⟩ := Option.map_eq_some_iff.mp e; exact ⟨hl, d, h, q⟩
    · cases e
  · cases e
theorem fe_op {op : Operator} {o : OP} {f : FOp} (ho : OpT wd X (binaryOp op) o) (hf : OpF o f) (ha : QE wd X a (ofE A)) (hb : QE wd X b (ofE B)) : QE wd X (.BinOp a op b pos) (ofE (fBin f A B)) := (qe_op ho ha hb).imp fun sd μ x k h => fBin_le hf h
theorem fe_cmp {op : CmpOp} {o : OP} {f : FOp} (ho : OpT wd X (compareOp op) o) (hf : OpF o f) (ha : QE wd X a (ofE A)) (hb : QE wd X b (ofE B)) (hm : behindInMarks op b = false := by rfl) : QE wd X (.Compare a [op] [b] pos) (ofE (fBin f A B)) := (qe_cmp ho ha hb hm).imp fun sd μ x k h => fBin_le hf h
theorem fe_ix (ha : QE wd X a (ofE A)) (hb : QE wd X b (ofE B)) (hs : PlainIx b := by intro _ _; rfl) : QE wd X (.Subscript a b pos) (ofE (fBin foIx A B)) := (qe_ix ha hb hs).imp fun sd μ x k h => fBin_le of_ix h
abbrev FUp := D → Option R
def fUn (f : FUp) (A : FE) : FE := fun sd μ => (A sd μ).bind fun r1 μ1 => Out.of (f (vw μ1 sd r1)) μ1
def UpF (o : UP) (f : FUp) : Prop := ∀ a r k, f a = some r → k r → o a k
theorem fUn_le {o : UP} {f : FUp} (hf : UpF o f) {sd : SD} {μ : Mu} {x : XT} {k : R → Mu → Prop} (h : ofE (fUn f A) sd μ x k) : wUn o (ofE A) sd μ x k :=
  sat_mono (sat_bind h) fun r1 μ1 h => let ⟨r, e, q⟩ := sat_of h; hf _ r _ e q
def foNeg : FUp := fun a => match a with | .int i => some (.d (.int (-i))) | _ => none
def foInv : FUp := fun a => match a with | .int i => some (.d (.int (Builtin.bitNot i))) | _ => none
def foNot : FUp := fun a => match a with | .bl b => some (.d (.bl (!b))) | _ => none
theorem of_neg : UpF oNeg foNeg := fun a r k e q => by unfold foNeg at e; split at e <;> first | (cases e; exact q) | cases e
theorem of_inv : UpF oInv foInv := fun a r k e q => by unfold foInv at e; split at e <;> first | (cases e; exact q) | cases e
theorem of_not : UpF oNot foNot := fun a r k e q => by unfold foNot at e; split at e <;> first | (cases e; exact q) | cases e
theorem fe_neg (ha : QE wd X a (ofE A)) : QE wd X (.UnaryOp .USub a pos) (ofE (fUn foNeg A)) := (qe_neg ha).imp fun sd μ x k h => fUn_le of_neg h
theorem fe_inv (ha : QE wd X a (ofE A)) : QE wd X (.UnaryOp .Invert a pos) (ofE (fUn foInv A)) := (qe_inv ha).imp fun sd μ x k h => fUn_le of_inv h
theorem fe_not (ha : QE wd X a (ofE A)) : QE wd X (.UnaryOp .Not a pos) (ofE (fUn foNot A)) := (qe_not ha).imp fun sd μ x k h => fUn_le of_not h
def foIsi (t : Ty) : FUp := fun a => (isTy a t).map fun b => .d (.bl b)
theorem of_isi {t : Ty} : UpF (oIsi t) (foIsi t) := fun a r k e q => by
  unfold foIsi at e
  obtain ⟨b, h, rfl⟩ := Option.map_eq_some_iff.mp e
  exact ⟨b, h, q⟩
/-! tests -/
def bOf (r : R) : Option Bool := match r with
  | .d (.bl b) => some b
  | _ => none
@[simp] theorem bOf_bl {b : Bool} : bOf (.d (.bl b)) = some b := rfl
def fTst (A : FE) : FT := fun sd μ => (A sd μ).bind fun r μ' => Out.of (bOf r) μ'
theorem fTst_le {sd : SD} {μ : Mu} {x : XT} {k : Bool → Mu → Prop} (h : ofT (fTst A) sd μ x k) : wTst (ofE A) sd μ x k :=
  sat_mono (sat_bind h) fun r μ' h => by
    obtain ⟨b, e, q⟩ := sat_of h
    unfold bOf at e
    split at e
    · cases e; exact q
    · cases e
theorem ft_cmp {op : CmpOp} {o : OP} {f : FOp} (ho : OpT wd X (compareOp op) o) (hf : OpF o f) (ha : QE wd X a (ofE A)) (hb : QE wd X b (ofE B)) (hm : behindInMarks op b = false := by rfl) : QT wd X (.Compare a [op] [b] pos) (ofT (fTst (fBin f A B))) :=
  (qt_cmp ho ha hb hm).imp fun sd μ x k h => sat_mono (k' := fun r μ' => match r with | .d (.bl b) => k b μ' | _ => False) (fTst_le h) (fun _ _ q => q) |> fun h => by
    have h2 : wTst (ofE (fBin f A B)) sd μ x k := h
    exact fBin_le hf h2
theorem ft_val (h : QE wd X e (ofE A)) (he : ∀ whole, isTrue e X.env whole = (do let v ← whole; standAt e.pos; holding [v] (truthy v)) := by intro _; rfl) : QT wd X e (ofT (fTst A)) := (qt_val h he).imp fun sd μ x k h => fTst_le h
def fAnd (T U : FT) : FT := fun sd μ => (T sd μ).bind fun b μ1 => if b = true then U sd μ1 else .ok false μ1
def fOr (T U : FT) : FT := fun sd μ => (T sd μ).bind fun b μ1 => if b = true then .ok true μ1 else U sd μ1
def fNot (T : FT) : FT := fun sd μ => (T sd μ).bind fun b μ1 => .ok (!b) μ1
theorem fw_and1 (ha : QT wd X a (ofT T)) : QW wd X (.BoolOp .And [a] pos) (ofT T) := qw_and1 ha
theorem fw_or1 (ha : QT wd X a (ofT T)) : QW wd X (.BoolOp .Or [a] pos) (ofT T) := qw_or1 ha
theorem fw_and (ha : QT wd X a (ofT T)) (hb : QW wd X (.BoolOp .And (b :: rest) pos) (ofT U)) : QW wd X (.BoolOp .And (a :: b :: rest) pos) (ofT (fAnd T U)) :=
  (qw_and ha hb).imp fun sd μ x k h => ⟨k, fun _ _ q => q, sat_mono (sat_bind h) fun c μ1 h => ⟨fun e => by subst e; exact h, fun e => by subst e; exact h⟩⟩
theorem fw_or (ha : QT wd X a (ofT T)) (hb : QW wd X (.BoolOp .Or (b :: rest) pos) (ofT U)) : QW wd X (.BoolOp .Or (a :: b :: rest) pos) (ofT (fOr T U)) :=
  (qw_or ha hb).imp fun sd μ x k h => ⟨k, fun _ _ q => q, sat_mono (sat_bind h) fun c μ1 h => ⟨fun e => by subst e; exact h, fun e => by subst e; exact h⟩⟩
theorem ft_not (ha : QT wd X a (ofT T)) : QT wd X (.UnaryOp .Not a pos) (ofT (fNot T)) := (qt_not ha).imp fun sd μ x k h => sat_mono (sat_bind h) fun b μ1 h => h
def fAndV (A B : FE) : FE := fun sd μ => (fTst A sd μ).bind fun b μ1 => if b = true then B sd μ1 else .ok (.d (.bl false)) μ1
def fOrV (A B : FE) : FE := fun sd μ => (fTst A sd μ).bind fun b μ1 => if b = true then .ok (.d (.bl true)) μ1 else B sd μ1
theorem fe_one {op : BoolOp} (ha : QE wd X a (ofE A)) : QE wd X (.BoolOp op [a] pos) (ofE A) := qe_one ha
theorem fe_and (ha : QE wd X a (ofE A)) (hb : QE wd X (.BoolOp .And (b :: rest) pos) (ofE B)) : QE wd X (.BoolOp .And (a :: b :: rest) pos) (ofE (fAndV A B)) :=
  (qe_and ha hb).imp fun sd μ x k h => ⟨k, fun _ _ q => q, fTst_le (sat_mono (sat_bind h) fun c μ1 h => ⟨fun e => by subst e; exact h, fun e => by subst e; exact h⟩)⟩
theorem fe_or (ha : QE wd X a (ofE A)) (hb : QE wd X (.BoolOp .Or (b :: rest) pos) (ofE B)) : QE wd X (.BoolOp .Or (a :: b :: rest) pos) (ofE (fOrV A B)) :=
  (qe_or ha hb).imp fun sd μ x k h => ⟨k, fun _ _ q => q, fTst_le (sat_mono (sat_bind h) fun c μ1 h => ⟨fun e => by subst e; exact h, fun e => by subst e; exact h⟩)⟩
def fIte (T : FT) (A B : FE) : FE := fun sd μ => (T sd μ).bind fun b μ1 => if b = true then A sd μ1 else B sd μ1
theorem fe_ite (hc : QT wd X c (ofT T)) (ha : QE wd X a (ofE A)) (hb : QE wd X b (ofE B)) : QE wd X (.IfExp c a b pos) (ofE (fIte T A B)) :=
  (qe_ite hc ha hb).imp fun sd μ x k h => sat_mono (sat_bind h) fun c μ1 h => ⟨fun e => by subst e; exact h, fun e => by subst e; exact h⟩
/-! arguments, displays -/
def fNil : FA := fun _ μ => .ok [] μ
def fCons (A : FE) (As : FA) : FA := fun sd μ => (A sd μ).bind fun r μ1 => (Out.of r.tree μ1).bind fun y μ1 => (As sd μ1).bind fun ys μ2 => .ok (y :: ys) μ2
theorem tree_with {r : R} {y : D} {k : D → Prop} (e : r.tree = some y) (q : k y) : withT r k := by
  cases r <;> cases e <;> exact q
theorem fa_nil : QA wd X [] (ofA fNil) := qa_nil
theorem fa_cons (ha : QE wd X e (ofE A)) (hr : QA wd X es (ofA As)) (hst : starEach (e :: es) X.env = (false, eval e X.env) :: starEach es X.env := by rfl) : QA wd X (e :: es) (ofA (fCons A As)) :=
  (qa_cons ha hr hst).imp fun sd μ x k h => sat_mono (sat_bind h) fun r μ1 h => by
    obtain ⟨y, e, q⟩ := sat_of (sat_bind h)
    exact tree_with e (sat_mono (sat_bind q) fun ys μ2 q => q)
def fConsV (A : FE) (As : FA) : FA := fun sd μ => (A sd μ).bind fun r μ1 => (As sd μ1).bind fun ys μ2 => .ok (vw μ2 sd r :: ys) μ2
theorem fb_nil : QB wd X [] (ofA fNil) := qb_nil
theorem fb_cons (ha : QE wd X e (ofE A)) (hr : QB wd X es (ofA As)) (hst : starEach (e :: es) X.env = (false, eval e X.env) :: starEach es X.env := by rfl) : QB wd X (e :: es) (ofA (fConsV A As)) :=
  (qb_cons ha hr hst).imp fun sd μ x k h => sat_mono (sat_bind h) fun r μ1 h => sat_mono (sat_bind h) fun ys μ2 h => h
def fTup (As : FA) : FE := fun sd μ => (As sd μ).bind fun ds μ1 => if ds.length ≤ sizeLine then .ok (.d (.tup ds)) μ1 else .no
def fLst (As : FA) : FE := fun sd μ => (As sd μ).bind fun ds μ1 => if ds.length ≤ sizeLine then .ok (.new (.lst ds)) μ1 else .no
theorem fe_tup {x1} (h : QA wd X es (ofA As)) : QE wd X (.Tuple es x1 pos) (ofE (fTup As)) := (qe_tup h).imp fun sd μ x k h => sat_mono (sat_bind h) fun ds μ1 h => sat_ite h
theorem fe_lst (h : QA wd X es (ofA As)) : QE wd X (.List es pos) (ofE (fLst As)) := (qe_lst h).imp fun sd μ x k h => sat_mono (sat_bind h) fun ds μ1 h => sat_ite h
/-! slices -/
def fNo : FO := fun _ μ => .ok none μ
def iOf (r : R) : Option Int := match r with
  | .d (.int i) => some i
  | _ => none
@[simp] theorem iOf_int {i : Int} : iOf (.d (.int i)) = some i := rfl
theorem iOf_eq {r : R} {i : Int} (h : iOf r = some i) : r = .d (.int i) := by
  unfold iOf at h
  split at h
  · cases h; rfl
  · cases h
def fPart (A : FE) : FO := fun sd μ => (A sd μ).bind fun r μ' => (Out.of (iOf r) μ').bind fun i μ' => .ok (some i) μ'
theorem fo_none : QO wd X none (ofO fNo) := qo_none
theorem fo_some (h : QE wd X e (ofE A)) : QO wd X (some e) (ofO (fPart A)) := (qo_some h).imp fun sd μ x k h => sat_mono (sat_bind h) fun r μ' h => by
  obtain ⟨i, e, q⟩ := sat_of (sat_bind h)
  cases iOf_eq e
  exact q
def foSl (a : D) (lo hi : Option Int) : Option R := match a with
  | .lst ds => some (.new (.lst (cutL ds lo hi)))
  | .tup ds => some (.d (.tup (cutL ds lo hi)))
  | .str z => if z.length ≤ sizeLine then some (.d (.str (Txt.slice z lo hi))) else none
  | _ => none
theorem of_sl {a : D} {lo hi : Option Int} {r : R} {k : R → Prop} (e : foSl a lo hi = some r) (q : k r) : oSl a lo hi k := by
  unfold foSl at e
  split at e
  · cases e; exact q
  · cases e; exact q
  · split at e
    · rename_i h; cases e; exact ⟨h, q⟩
    · cases e
  · cases e
def fSl (A : FE) (L H : FO) : FE := fun sd μ => (A sd μ).bind fun r μ1 => (L sd μ1).bind fun lo μ2 => (H sd μ2).bind fun hi μ3 => Out.of (foSl (vw μ3 sd r) lo hi) μ3
theorem fe_sl {lo hi : Option Expr} {L H : FO} {p2 : Pos} (he : QE wd X e (ofE A)) (hl : QO wd X lo (ofO L)) (hh : QO wd X hi (ofO H)) : QE wd X (.Subscript e (.Slice lo hi none p2) pos) (ofE (fSl A L H)) :=
  (qe_sl he hl hh).imp fun sd μ x k h => sat_mono (sat_bind h) fun r μ1 h => sat_mono (sat_bind h) fun lo μ2 h => sat_mono (sat_bind h) fun hi μ3 h => let ⟨r, e, q⟩ := sat_of h; of_sl e q
/-! fields -/
def foFld (cs : List Nat) (f : Nat) (r : R) (μ : Mu) : Option R := match r with
  | .d (.obj c fs) => if cs.elem c = true then (fs.lookup f).map R.d else none
  | .d (.ref a) => (match μ[a]? with
    | some (.ins c fs) => if cs.elem c = true then (fs.lookup f).map R.d else none
    | _ => none)
  | _ => none
def fFld (cs : List Nat) (f : Nat) (A : FE) : FE := fun sd μ => (A sd μ).bind fun r μ1 => Out.of (foFld cs f r μ1) μ1
theorem fe_fld {cs : List Nat} {f : Nat} {n : Str} (hT : FldT X.K wd.cl cs f) (he : QE wd X e (ofE A)) (hf : f < 32 := by decide) (hn : fnm f = n := by rfl) (hb : attributeBase e n X.env (eval e X.env) = eval e X.env := by rfl) :
    QE wd X (.Attribute e n pos) (ofE (fFld cs f A)) := (qe_fld hT he hf hn hb).imp fun sd μ x k h => sat_mono (sat_bind h) fun r μ1 h => by
  obtain ⟨r', e, q⟩ := sat_of h
  unfold foFld at e
  split at e
  · split at e
    · rename_i hc
      obtain ⟨d, h1, rfl⟩ := Option.map_eq_some_iff.mp e
      exact ⟨hc, d, h1, q⟩
    · cases e
  · split at e
    · rename_i c fs hm
      split at e
      · rename_i hc
        obtain ⟨d, h1, rfl⟩ := Option.map_eq_some_iff.mp e
        exact ⟨c, fs, d, hm, hc, h1, q⟩
      · cases e
    · cases e
  · cases e
end
end
end TL
/-! TL: readings as functions: calls, statements, loops -/
namespace TL
open PySem PySem.Spec L2
open Classical
noncomputable section
section
variable {X : Cx} {wd : Wd} {e o a b c : Expr} {es rest : List Expr} {pos p apos cpos : Pos} {st : Stmt} {sts body : List Stmt} {A B C O I : FE} {T U : FT} {As : FA} {S S1 S2 : FS} {x m : Str} {It : FI} {iter tge : Expr}

/-! ### calls -/
abbrev FBp := List D → Option R
def BpF (op : BP) (f : FBp) : Prop := ∀ ds r k, f ds = some r → k r → op ds k
def fB (f : FBp) (As : FA) : FE := fun sd μ => (As sd μ).bind fun ds μ1 => Out.of (f ds) μ1
theorem fB_le {op : BP} {f : FBp} (hf : BpF op f) {sd : SD} {μ : Mu} {x : XT} {k : R → Mu → Prop} (h : ofE (fB f As) sd μ x k) : wB op (ofA As) sd μ x k :=
  sat_mono (sat_bind h) fun ds μ1 h => let ⟨r, e, q⟩ := sat_of h; hf _ r _ e q
theorem fe_blt {id : String} {x : Str} {p : Pos} {op : BP} {f : FBp} (hc : CallT wd X (.builtin id) op) (hf : BpF op f) (hm : X.mg x = none) (ha : QB wd X (e :: es) (ofA As)) (hg : Gl X x := by rfl) (hv : bootBuiltins x = some (.builtin id) := by decide +kernel) (hn : x ≠ "__name__" := by decide) (hdb : (x == ("__debug__" : Str)) = false := by decide)
    (he : starEach (e :: es) X.env = (false, eval e X.env) :: starEach es X.env := by rfl) (hpl : (backTo pos (starEach es X.env)).any (·.1) = false := by rfl) :
    QE wd X (.Call (.Name x p) (e :: es) [] pos) (ofE (fB f As)) := (qe_blt hc hm ha hg hv hn hdb he hpl).imp fun sd μ x k h => fB_le hf h
theorem fe_bty {id : String} {x : Str} {p : Pos} {op : BP} {f : FBp} (hc : CallT wd X (.type id) op) (hf : BpF op f) (hm : X.mg x = none) (ha : QB wd X (e :: es) (ofA As)) (hg : Gl X x := by rfl) (hv : bootBuiltins x = some (.type id) := by decide +kernel) (hn : x ≠ "__name__" := by decide) (hdb : (x == ("__debug__" : Str)) = false := by decide)
    (he : starEach (e :: es) X.env = (false, eval e X.env) :: starEach es X.env := by rfl) (hpl : (backTo pos (starEach es X.env)).any (·.1) = false := by rfl) :
    QE wd X (.Call (.Name x p) (e :: es) [] pos) (ofE (fB f As)) := (qe_bty hc hm ha hg hv hn hdb he hpl).imp fun sd μ x k h => fB_le hf h
theorem fe_isi {x T : Str} {p p2 : Pos} {t : Ty} (ha : QE wd X a (ofE A)) (hm : X.mg x = none) (hmT : X.mg T = none) (hg : Gl X x := by rfl) (hgT : Gl X T := by rfl) (hv : bootBuiltins x = some (.builtin "isinstance") := by decide +kernel)
    (hT : bootBuiltins T = some (.type t.nm) := by decide +kernel) (hn : x ≠ "__name__" := by decide) (hdb : (x == ("__debug__" : Str)) = false := by decide) (hnT : T ≠ "__name__" := by decide) (hdT : (T == ("__debug__" : Str)) = false := by decide)
    (he1 : starEach [a, .Name T p2] X.env = (false, eval a X.env) :: starEach [.Name T p2] X.env := by rfl) (he2 : starEach [.Name T p2] X.env = (false, eval (.Name T p2) X.env) :: starEach [] X.env := by rfl)
    (hpl : (backTo pos (starEach [.Name T p2] X.env)).any (·.1) = false := by rfl) :
    QE wd X (.Call (.Name x p) [a, .Name T p2] [] pos) (ofE (fUn (foIsi t) A)) := (qe_isi ha hm hmT hg hgT hv hT hn hdb hnT hdT he1 he2 hpl).imp fun sd μ x k h => fUn_le of_isi h
def fbLen : FBp := fun ds => match ds with
  | [.lst ds] => some (.d (.int ds.length))
  | [.tup ds] => some (.d (.int ds.length))
  | [.str z] => if z.length ≤ sizeLine then some (.d (.int z.length)) else none
  | _ => none
theorem bf_len : BpF bLen fbLen := fun ds r k e q => by
  unfold fbLen at e
  split at e
  · cases e; exact q
  · cases e; exact q
  · split at e
    · rename_i h; cases e; exact ⟨h, q⟩
    · cases e
  · cases e
def fbList : FBp := fun ds => match ds with
  | [.lst ds] => some (.new (.lst ds))
  | [.tup ds] => some (.new (.lst ds))
  | _ => none
theorem bf_list : BpF bList fbList := fun ds r k e q => by
  unfold fbList at e
  split at e <;> first | (cases e; exact q) | cases e
def fbTuple : FBp := fun ds => match ds with
  | [.lst ds] => some (.d (.tup ds))
  | [.tup ds] => some (.d (.tup ds))
  | _ => none
theorem bf_tuple : BpF bTuple fbTuple := fun ds r k e q => by
  unfold fbTuple at e
  split at e <;> first | (cases e; exact q) | cases e
def fbAbs : FBp := fun ds => match ds with
  | [.int i] => some (.d (.int (if i < 0 then -i else i)))
  | _ => none
theorem bf_abs : BpF bAbs fbAbs := fun ds r k e q => by
  unfold fbAbs at e
  split at e <;> first | (cases e; exact q) | cases e
/-- a list of ints -/
def dInts : List D → Option (List Int)
  | [] => some []
  | .int i :: r => (dInts r).map (i :: ·)
  | _ :: _ => none
theorem dInts_eq : ∀ {xs : List D} {ns : List Int}, dInts xs = some ns → xs = ns.map D.int
  | [], ns, h => by cases h; rfl
  | x :: r, ns, h => by
    cases x <;> try cases h
    obtain ⟨ms, e, rfl⟩ := Option.map_eq_some_iff.mp h
    rw [dInts_eq e]
    rfl
@[simp] theorem dInts_map : ∀ ns : List Int, dInts (ns.map D.int) = some ns
  | [] => rfl
  | n :: ns => by rw [List.map_cons, dInts, dInts_map ns]; rfl
def dBls : List D → Option (List Bool)
  | [] => some []
  | .bl i :: r => (dBls r).map (i :: ·)
  | _ :: _ => none
theorem dBls_eq : ∀ {xs : List D} {ns : List Bool}, dBls xs = some ns → xs = ns.map D.bl
  | [], ns, h => by cases h; rfl
  | x :: r, ns, h => by
    cases x <;> try cases h
    obtain ⟨ms, e, rfl⟩ := Option.map_eq_some_iff.mp h
    rw [dBls_eq e]
    rfl
@[simp] theorem dBls_map : ∀ ns : List Bool, dBls (ns.map D.bl) = some ns
  | [] => rfl
  | n :: ns => by rw [List.map_cons, dBls, dBls_map ns]; rfl
def maxI : Int → List Int → Int
  | m, [] => m
  | m, x :: r => maxI (if m < x then x else m) r
def minI : Int → List Int → Int
  | m, [] => m
  | m, x :: r => minI (if x < m then x else m) r
theorem maxI_spec : ∀ (r : List Int) (m : Int), (maxI m r = m ∨ maxI m r ∈ r) ∧ m ≤ maxI m r ∧ ∀ y ∈ r, y ≤ maxI m r
  | [], m => ⟨.inl rfl, Int.le_refl _, fun y hy => by simp at hy⟩
  | x :: r, m => by
    have h := maxI_spec r (if m < x then x else m)
    simp only [maxI]
    refine ⟨?_, ?_, fun y hy => ?_⟩
    · rcases h.1 with h1 | h1
      · rw [h1]; split
        · exact .inr List.mem_cons_self
        · exact .inl rfl
      · exact .inr (List.mem_cons_of_mem _ h1)
    · have := h.2.1; split at this <;> omega
    · rcases List.mem_cons.mp hy with rfl | hy
      · have := h.2.1; split at this <;> omega
      · exact h.2.2 y hy
theorem minI_spec : ∀ (r : List Int) (m : Int), (minI m r = m ∨ minI m r ∈ r) ∧ minI m r ≤ m ∧ ∀ y ∈ r, minI m r ≤ y
  | [], m => ⟨.inl rfl, Int.le_refl _, fun y hy => by simp at hy⟩
  | x :: r, m => by
    have h := minI_spec r (if x < m then x else m)
    simp only [minI]
    refine ⟨?_, ?_, fun y hy => ?_⟩
    · rcases h.1 with h1 | h1
      · rw [h1]; split
        · exact .inr List.mem_cons_self
        · exact .inl rfl
      · exact .inr (List.mem_cons_of_mem _ h1)
    · have := h.2.1; split at this <;> omega
    · rcases List.mem_cons.mp hy with rfl | hy
      · have := h.2.1; split at this <;> omega
      · exact h.2.2 y hy
def fbMax : FBp := fun ds => match ds with
  | [.int i, .int j] => some (.d (.int (if j > i then j else i)))
  | [.lst xs] => (dInts xs).bind fun ns => match ns with
    | [] => none
    | n :: r => some (.d (.int (maxI n r)))
  | _ => none
theorem bf_max : BpF bMax fbMax := fun ds r k e q => by
  unfold fbMax at e
  split at e
  · cases e; exact q
  · rename_i xs
    obtain ⟨ns, h1, h2⟩ := Option.bind_eq_some_iff.mp e
    cases ns with
    | nil => cases h2
    | cons n rr =>
      cases h2
      obtain ⟨s1, s2, s3⟩ := maxI_spec rr n
      refine ⟨n :: rr, dInts_eq h1, Nat.zero_lt_succ _, fun m hm hy => ?_⟩
      have e : m = maxI n rr := by
        have a1 : m ≤ maxI n rr := by
          rcases List.mem_cons.mp hm with rfl | hm
          · exact s2
          · exact s3 m hm
        have a2 : maxI n rr ≤ m := hy _ (by
          rcases s1 with s1 | s1
          · rw [s1]; exact List.mem_cons_self
          · exact List.mem_cons_of_mem _ s1)
        omega
      rw [e]; exact q
  · cases e
def fbMin : FBp := fun ds => match ds with
  | [.int i, .int j] => some (.d (.int (if j < i then j else i)))
  | [.lst xs] => (dInts xs).bind fun ns => match ns with
    | [] => none
    | n :: r => some (.d (.int (minI n r)))
  | _ => none
theorem bf_min : BpF bMin fbMin := fun ds r k e q => by
  unfold fbMin at e
  split at e
  · cases e; exact q
  · rename_i xs
    obtain ⟨ns, h1, h2⟩ := Option.bind_eq_some_iff.mp e
    cases ns with
    | nil => cases h2
    | cons n rr =>
      cases h2
      obtain ⟨s1, s2, s3⟩ := minI_spec rr n
      refine ⟨n :: rr, dInts_eq h1, Nat.zero_lt_succ _, fun m hm hy => ?_⟩
      have e : m = minI n rr := by
        have a1 : minI n rr ≤ m := by
          rcases List.mem_cons.mp hm with rfl | hm
          · exact s2
          · exact s3 m hm
        have a2 : m ≤ minI n rr := hy _ (by
          rcases s1 with s1 | s1
          · rw [s1]; exact List.mem_cons_self
          · exact List.mem_cons_of_mem _ s1)
        omega
      rw [e]; exact q
  · cases e
def fbSum : FBp := fun ds => match ds with
  | [.lst xs] => (dInts xs).map fun ns => .d (.int ns.sum)
  | _ => none
theorem bf_sum : BpF bSum fbSum := fun ds r k e q => by
  unfold fbSum at e
  split at e
  · obtain ⟨ns, h1, rfl⟩ := Option.map_eq_some_iff.mp e
    exact ⟨ns, dInts_eq h1, q⟩
  · cases e
def fbAll : FBp := fun ds => match ds with
  | [.lst xs] => (dBls xs).map fun ns => .d (.bl (ns.all id))
  | _ => none
theorem bf_all : BpF bAll fbAll := fun ds r k e q => by
  unfold fbAll at e
  split at e
  · obtain ⟨ns, h1, rfl⟩ := Option.map_eq_some_iff.mp e
    exact ⟨ns, dBls_eq h1, q⟩
  · cases e
/-- the ints in order -/
def insI (x : Int) : List Int → List Int
  | [] => [x]
  | y :: r => if x ≤ y then x :: y :: r else y :: insI x r
def sortI : List Int → List Int
  | [] => []
  | x :: r => insI x (sortI r)
theorem insI_perm (x : Int) : ∀ l : List Int, (insI x l).Perm (x :: l)
  | [] => List.Perm.refl _
  | y :: r => by
    unfold insI
    split
    · exact List.Perm.refl _
    · exact ((insI_perm x r).cons y).trans (List.Perm.swap x y r)
theorem sortI_perm : ∀ l : List Int, (sortI l).Perm l
  | [] => List.Perm.refl _
  | x :: r => (insI_perm x _).trans ((sortI_perm r).cons x)
theorem insI_sorted (x : Int) : ∀ l : List Int, l.Pairwise (· ≤ ·) → (insI x l).Pairwise (· ≤ ·)
  | [], _ => by simp [insI]
  | y :: r, h => by
    unfold insI
    rw [List.pairwise_cons] at h
    split
    · rename_i hxy
      rw [List.pairwise_cons]
      refine ⟨fun z hz => ?_, List.pairwise_cons.mpr h⟩
      rcases List.mem_cons.mp hz with rfl | hz
      · exact hxy
      · exact Int.le_trans hxy (h.1 z hz)
    · rename_i hxy
      rw [List.pairwise_cons]
      refine ⟨fun z hz => ?_, insI_sorted x r h.2⟩
      rcases List.mem_cons.mp ((insI_perm x r).mem_iff.mp hz) with rfl | hz
      · omega
      · exact h.1 z hz
theorem sortI_sorted : ∀ l : List Int, (sortI l).Pairwise (· ≤ ·)
  | [] => List.Pairwise.nil
  | x :: r => insI_sorted x _ (sortI_sorted r)
theorem sorted_uniq : ∀ {l m : List Int}, l.Perm m → l.Pairwise (· ≤ ·) → m.Pairwise (· ≤ ·) → l = m
  | [], m, p, _, _ => p.nil_eq
  | x :: l, [], p, _, _ => by have := p.length_eq; simp at this
  | x :: l, y :: m, p, h1, h2 => by
    rw [List.pairwise_cons] at h1 h2
    have a : x = y := by
      have m1 : x ∈ y :: m := p.mem_iff.mp List.mem_cons_self
      have m2 : y ∈ x :: l := p.mem_iff.mpr List.mem_cons_self
      rcases List.mem_cons.mp m1 with e | m1
      · exact e
      · rcases List.mem_cons.mp m2 with e | m2
        · exact e.symm
        · have := h2.1 x m1; have := h1.1 y m2; omega
    subst a
    rw [sorted_uniq (p.cons_inv) h1.2 h2.2]
def fbSortedI : FBp := fun ds => match ds with
  | [.lst xs] => (dInts xs).map fun ns => .new (.lst ((sortI ns).map D.int))
  | _ => none
theorem bf_sortedI : BpF bSortedI fbSortedI := fun ds r k e q => by
  unfold fbSortedI at e
  split at e
  · obtain ⟨ns, h1, rfl⟩ := Option.map_eq_some_iff.mp e
    refine ⟨ns, dInts_eq h1, fun ns' hp hs => ?_⟩
    rw [sorted_uniq (hp.trans (sortI_perm ns).symm) hs (sortI_sorted ns)]
    exact q
  · cases e
def fbInt : FBp := fun ds => match ds with
  | [.int i] => some (.d (.int i))
  | [.bl b] => some (.d (.int (if b then 1 else 0)))
  | _ => none
theorem bf_int : BpF bInt fbInt := fun ds r k e q => by
  unfold fbInt at e
  split at e <;> first | (cases e; exact q) | cases e
def fbStr : FBp := fun ds => match ds with
  | [.int i] => if i.natAbs.log2 < 1920 then some (.d (.str (toString i))) else none
  | _ => none
theorem bf_str : BpF bStr fbStr := fun ds r k e q => by
  unfold fbStr at e
  split at e
  · split at e
    · rename_i h; cases e; exact ⟨h, q⟩
    · cases e
  · cases e
def fbDivmod : FBp := fun ds => match ds with
  | [.int i, .int j] => if CDiv i j then some (.d (.tup [.int (i / j), .int (i % j)])) else none
  | _ => none
theorem bf_divmod : BpF bDivmod fbDivmod := fun ds r k e q => by
  unfold fbDivmod at e
  split at e
  · split at e
    · rename_i h; cases e; exact ⟨h, q⟩
    · cases e
  · cases e
/-! defs -/
def fCall (n : Nat) (F : FF) (As : FA) : FE := fun sd μ => (As sd μ).bind fun ds μ1 => if ds.length = n then F ds μ1 else .no
theorem fCall_le {n : Nat} {F : FF} {sd : SD} {μ : Mu} {x : XT} {k : R → Mu → Prop} (h : ofE (fCall n F As) sd μ x k) : wCall n (ofF F) (ofA As) sd μ x k :=
  sat_mono (sat_bind h) fun ds μ1 h => sat_ite h
theorem fe_callO {k : Nat} {f : Addr} {ps : List Str} {F : FF} (O : OkF X.prog X.w X.K X.mg X.base wd.cl k f ps (ofF F)) (hr : Room k X.A) (hm : X.mg x = some (.ref f)) (tk : TakesE wd X) (ha : QA wd X (e :: es) (ofA As)) (hg : Gl X x := by rfl) (hdb : (x == ("__debug__" : Str)) = false := by decide)
    (he : starEach (e :: es) X.env = (false, eval e X.env) :: starEach es X.env := by rfl) (hpl : (backTo pos (starEach es X.env)).any (·.1) = false := by rfl) :
    QE wd X (.Call (.Name x p) (e :: es) [] pos) (ofE (fCall ps.length F As)) := (qe_callO O hr hm tk ha hg hdb he hpl).imp fun sd μ x k h => fCall_le h
theorem fe_cfnO {k : Nat} {f C : Addr} {ps : List Str} {F : FF} {mc : Value} {pl : Sem Bool} {p2 : Pos} (O : OkF X.prog X.w X.K X.mg X.base wd.cl k f ps (ofF F)) (hm : X.mg x = some (.ref C)) (r : ClX.CRead X.K C mc) (c : ClX.CVal X.K C mc m (.ref f) (.ref f)) (hr : Room k X.A)
    (tk : TakesE wd X) (ha : QA wd X (e :: es) (ofA As)) (hg : Gl X x := by rfl) (hdb : (x == ("__debug__" : Str)) = false := by decide)
    (hst : starEach (e :: es) X.env = (false, eval e X.env) :: starEach es X.env := by rfl) (hpl : (backTo pos (starEach es X.env)).any (·.1) = false := by rfl)
    (ht : eval (.Call (.Attribute (.Name x p2) m apos) (e :: es) [] pos) X.env = (do
      let ov ← eval (.Name x p2) X.env
      standAt apos.atName
      let (f, first) ← holding [ov] (getMethod ov m pl)
      callWith pos f first (backTo pos (starEach (e :: es) X.env)) (backToKw pos (keywordEach [] X.env))) := by rfl) :
    QE wd X (.Call (.Attribute (.Name x p2) m apos) (e :: es) [] pos) (ofE (fCall ps.length F As)) := (qe_cfnO O hm r c hr tk ha hg hdb hst hpl ht).imp fun sd μ x k h => fCall_le h
/-- the class of a receiver -/
def clsOf (r : R) (μ : Mu) : Option (Nat × D) := match r with
  | .d (.obj c fs) => some (c, .obj c fs)
  | .d (.ref a) => (match μ[a]? with
    | some (.ins c fs) => some (c, .ref a)
    | _ => none)
  | _ => none
@[simp] theorem clsOf_obj {c : Nat} {fs : List (Nat × D)} {μ : Mu} : clsOf (.d (.obj c fs)) μ = some (c, .obj c fs) := rfl
theorem clsOf_ref {a c : Nat} {fs : List (Nat × D)} {μ : Mu} (h : μ[a]? = some (.ins c fs)) : clsOf (.d (.ref a)) μ = some (c, .ref a) := by
  show (match μ[a]? with | some (.ins c fs) => some (c, D.ref a) | _ => none) = _
  rw [h]
def fMeth (cs : List Nat) (n : Nat) (Fs : Nat → FF) (O : FE) (As : FA) : FE := fun sd μ => (O sd μ).bind fun r μ1 => (Out.of (clsOf r μ1) μ1).bind fun cd μ1 => if cs.elem cd.1 = true then (As sd μ1).bind fun ds μ2 => if ds.length = n then Fs cd.1 (cd.2 :: ds) μ2 else .no else .no
theorem fMeth_le {cs : List Nat} {n : Nat} {Fs : Nat → FF} {sd : SD} {μ : Mu} {x : XT} {k : R → Mu → Prop} (h : ofE (fMeth cs n Fs O As) sd μ x k) : wMeth cs n (fun c => ofF (Fs c)) (ofE O) (ofA As) sd μ x k :=
  sat_mono (sat_bind h) fun r μ1 h => by
    obtain ⟨cd, e, q⟩ := sat_of (sat_bind h)
    obtain ⟨hc, q⟩ := sat_ite q
    unfold clsOf at e
    split at e
    · cases e
      exact ⟨hc, sat_mono (sat_bind q) fun ds μ2 h => sat_ite h⟩
    · split at e
      · rename_i c fs hm
        cases e
        exact ⟨c, fs, hm, hc, sat_mono (sat_bind q) fun ds μ2 h => sat_ite h⟩
      · cases e
    · cases e
theorem fe_meth {cs : List Nat} {n : Nat} {Fs : Nat → FF} {pl : Sem Bool} (ho : QE wd X o (ofE O)) (hM : MethT X wd.cl cs m n (fun c => ofF (Fs c))) (tk : TakesE wd X) (ha : QA wd X (e :: es) (ofA As)) (hnf : ∀ k < 32, fnm k ≠ m := by decide +kernel)
    (hst : starEach (e :: es) X.env = (false, eval e X.env) :: starEach es X.env := by rfl) (hpl : (backTo pos (starEach es X.env)).any (·.1) = false := by rfl)
    (ht : eval (.Call (.Attribute o m apos) (e :: es) [] pos) X.env = (do
      let ov ← eval o X.env
      standAt apos.atName
      let (f, first) ← holding [ov] (getMethod ov m pl)
      callWith pos f first (backTo pos (starEach (e :: es) X.env)) (backToKw pos (keywordEach [] X.env))) := by rfl) :
    QE wd X (.Call (.Attribute o m apos) (e :: es) [] pos) (ofE (fMeth cs n Fs O As)) := (qe_meth ho hM tk ha hnf hst hpl ht).imp fun sd μ x k h => fMeth_le h
theorem fe_meth0 {cs : List Nat} {Fs : Nat → FF} {pl : Sem Bool} (ho : QE wd X o (ofE O)) (hM : MethT X wd.cl cs m 0 (fun c => ofF (Fs c))) (tk : TakesE wd X) (hnf : ∀ k < 32, fnm k ≠ m := by decide +kernel)
    (ht : eval (.Call (.Attribute o m apos) [] [] pos) X.env = (do
      let ov ← eval o X.env
      standAt apos.atName
      let (f, first) ← holding [ov] (getMethod ov m pl)
      callWith pos f first (backTo pos (starEach [] X.env)) (backToKw pos (keywordEach [] X.env))) := by rfl) :
    QE wd X (.Call (.Attribute o m apos) [] [] pos) (ofE (fMeth cs 0 Fs O fNil)) := (qe_meth0 ho hM tk hnf ht).imp fun sd μ x k h => by
  have h2 : wMeth cs 0 (fun c => ofF (Fs c)) (ofE O) (ofA fNil) sd μ x k := fMeth_le h
  exact h2
/-- an __init__ gives None -/
def nonOf (r : R) : Option Unit := match r with
  | .d .non => some ()
  | _ => none
@[simp] theorem nonOf_non : nonOf (.d .non) = some () := rfl
theorem nonOf_eq {r : R} {u : Unit} (h : nonOf r = some u) : r = .d .non := by
  unfold nonOf at h
  split at h
  · rfl
  · cases h
def fMake (c n : Nat) (F : FF) (dd : List D) (As : FA) : FE := fun sd μ => (As sd μ).bind fun ds μ1 => if (ds ++ dd).length = n then (F (.ref μ1.length :: (ds ++ dd)) (μ1 ++ [.ins c []])).bind fun r μ2 => (Out.of (nonOf r) μ2).bind fun _ μ2 => .ok (.d (.ref μ1.length)) μ2 else .no
theorem fMake_le {c n : Nat} {F : FF} {dd : List D} {sd : SD} {μ : Mu} {x : XT} {k : R → Mu → Prop} (h : ofE (fMake c n F dd As) sd μ x k) : wMake c n (ofF F) dd (ofA As) sd μ x k :=
  sat_mono (sat_bind h) fun ds μ1 h => by
    obtain ⟨hl, h⟩ := sat_ite h
    refine ⟨hl, sat_mono (sat_bind h) fun r μ2 h => ?_⟩
    obtain ⟨u, e, q⟩ := sat_of (sat_bind h)
    cases nonOf_eq e
    exact q
/-- what is made is changed by nobody any more; what was made beside is forgotten -/
def cutE (n : Nat) (μ1 : Mu) (c : Nat) (o : Out R) : Out R := match o with
  | .ok r μ2 => (match nonOf r with
    | some _ => if μ2.take n = μ1 then (match μ2[n]? with
      | some (.ins c' fs) => if c' = c then (match resF n μ2 fs with
        | some fs' => .ok (.d (.obj c fs')) μ1
        | none => .no) else .no
      | _ => .no) else .no
    | none => .no)
  | .ex c fs μ2 => if μ2.take n = μ1 ∧ belowF n fs = true then .ex c fs μ1 else .no
  | .no => .no
def fMakeF (c n : Nat) (F : FF) (dd : List D) (As : FA) : FE := fun sd μ => (As sd μ).bind fun ds μ1 => if (ds ++ dd).length = n then cutE μ1.length μ1 c (F (.ref μ1.length :: (ds ++ dd)) (μ1 ++ [.ins c []])) else .no
theorem fMakeF_le {c n : Nat} {F : FF} {dd : List D} {sd : SD} {μ : Mu} {x : XT} {k : R → Mu → Prop} (h : ofE (fMakeF c n F dd As) sd μ x k) : wMakeF c n (ofF F) dd (ofA As) sd μ x k :=
  sat_mono (sat_bind h) fun ds μ1 h => by
    obtain ⟨hl, h⟩ := sat_ite h
    refine ⟨hl, ?_⟩
    show (F (.ref μ1.length :: (ds ++ dd)) (μ1 ++ [.ins c []])).sat _ _
    cases hF : F (.ref μ1.length :: (ds ++ dd)) (μ1 ++ [.ins c []]) with
    | no => rw [hF] at h; exact h
    | ex c' fs μ2 =>
      rw [hF] at h
      unfold cutE at h
      dsimp only at h
      split at h
      · rename_i hh; exact ⟨hh.1, hh.2, h⟩
      · exact h.elim
    | ok r μ2 =>
      rw [hF] at h
      unfold cutE at h
      dsimp only at h
      split at h
      · rename_i u hu
        cases nonOf_eq hu
        split at h
        · rename_i ht
          split at h
          · rename_i c' fs hm
            split at h
            · rename_i hc
              subst hc
              split at h
              · rename_i fs' hr
                exact ⟨ht, fs, fs', hm, hr, h⟩
              · exact h.elim
            · exact h.elim
          · exact h.elim
        · exact h.elim
      · exact h.elim
theorem fe_makeO {k n : Nat} {f C : Addr} {ps : List Str} {F : FF} {c : Nat} (O : OkF X.prog X.w X.K X.mg X.base wd.cl k f ps (ofF F)) (hn : ps.length = n + 1) (hc : wd.cl c = some C) (M : Mk X.K C f) (hr : Room (k + 1) X.A) (hm : X.mg x = some (.ref C)) (tk : TakesE wd X) (ha : QA wd X (e :: es) (ofA As)) (hg : Gl X x := by rfl) (hdb : (x == ("__debug__" : Str)) = false := by decide)
    (he : starEach (e :: es) X.env = (false, eval e X.env) :: starEach es X.env := by rfl) (hpl : (backTo pos (starEach es X.env)).any (·.1) = false := by rfl) :
    QE wd X (.Call (.Name x p) (e :: es) [] pos) (ofE (fMake c n F [] As)) := (qe_makeO O hn hc M hr hm tk ha hg hdb he hpl).imp fun sd μ x k h => fMake_le h
theorem fe_makeFO {k n : Nat} {f C : Addr} {ps : List Str} {F : FF} {c : Nat} (O : OkF X.prog X.w X.K X.mg X.base wd.cl k f ps (ofF F)) (hn : ps.length = n + 1) (hc : wd.cl c = some C) (M : Mk X.K C f) (hr : Room (k + 1) X.A) (hm : X.mg x = some (.ref C)) (tk : TakesE wd X) (ha : QA wd X (e :: es) (ofA As)) (hg : Gl X x := by rfl) (hdb : (x == ("__debug__" : Str)) = false := by decide)
    (he : starEach (e :: es) X.env = (false, eval e X.env) :: starEach es X.env := by rfl) (hpl : (backTo pos (starEach es X.env)).any (·.1) = false := by rfl) :
    QE wd X (.Call (.Name x p) (e :: es) [] pos) (ofE (fMakeF c n F [] As)) := (qe_makeFO O hn hc M hr hm tk ha hg hdb he hpl).imp fun sd μ x k h => fMakeF_le h
end
end
end TL
/-! TL: readings as functions: statements, loops -/
namespace TL
open PySem PySem.Spec L2
open Classical
noncomputable section
section
variable {X : Cx} {wd : Wd} {e o a b c : Expr} {es rest : List Expr} {pos p apos cpos : Pos} {st : Stmt} {sts body : List Stmt} {A B C O I : FE} {T U : FT} {As : FA} {S S1 S2 : FS} {x m : Str} {It : FI} {iter tge : Expr}

/-! ### statements -/
def sNext : FS := fun sd μ => .nx sd μ
def sSeq (S1 S2 : FS) : FS := fun sd μ => match S1 sd μ with
  | .nx sd' μ' => S2 sd' μ'
  | o => o
theorem sSeq_nx {sd sd' : SD} {μ μ' : Mu} (h : S1 sd μ = .nx sd' μ') : sSeq S1 S2 sd μ = S2 sd' μ' := by unfold sSeq; rw [h]
theorem fss_nil : QSs wd X [] (ofS sNext) := qss_nil
theorem fss_cons (h1 : QS wd X st (ofS S1)) (h2 : QSs wd X sts (ofS S2)) : QSs wd X (st :: sts) (ofS (sSeq S1 S2)) := (qss_cons h1 h2).imp fun E sd μ h => by
  show (S1 sd μ).sat _
  have h : (sSeq S1 S2 sd μ).sat E := h
  unfold sSeq at h
  cases q : S1 sd μ <;> rw [q] at h <;> exact h
theorem fss_one (h1 : QS wd X st (ofS S1)) : QSs wd X [st] (ofS S1) := qss_one h1
theorem fs_pass : QS wd X (.Pass pos) (ofS sNext) := qs_pass
def sBreak : FS := fun sd μ => .bk sd μ
def sCont : FS := fun sd μ => .ct sd μ
theorem fs_break : QS wd X (.Break pos) (ofS sBreak) := qs_break
theorem fs_cont : QS wd X (.Continue pos) (ofS sCont) := qs_cont
def sDrop (A : FE) : FS := fun sd μ => thenS (A sd μ) sd fun _ μ' => .nx sd μ'
theorem fs_expr (he : QE wd X e (ofE A)) (hs : swapsWith e none pos.line X.env = pure false := by rfl) : QS wd X (.Expr e pos) (ofS (sDrop A)) := (qs_expr he hs).imp fun E sd μ h => sat_mono (sat_thenS h) fun r μ' h => h
def retV (sd : SD) (r : R) : Option R := match r with
  | .at i => (match sd[i]? with
    | some (some (.own c)) => some (.new c)
    | _ => none)
  | r => some r
@[simp] theorem retV_d {sd : SD} {d : D} : retV sd (.d d) = some (.d d) := rfl
@[simp] theorem retV_new {sd : SD} {d : D} : retV sd (.new d) = some (.new d) := rfl
def osOf (o : Option OS) : OS := match o with
  | some o => o
  | none => .no
@[simp] theorem osOf_some {o : OS} : osOf (some o) = o := rfl
@[simp] theorem osOf_none : osOf none = .no := rfl
def sRet (A : FE) : FS := fun sd μ => thenS (A sd μ) sd fun r μ' => osOf ((retV sd r).map fun r' => .rt r' μ')
theorem fs_ret (he : QE wd X e (ofE A)) : QS wd X (.Return (some e) pos) (ofS (sRet A)) := (qs_ret he).imp fun E sd μ h => sat_mono (sat_thenS h) fun r μ' h => by
  cases r with
  | d x => exact h
  | new x => exact h
  | «at» i =>
    show (match sd[i]? with | some (some (.own ds)) => E.rt (.new ds) μ' | _ => False)
    have h : (osOf ((match sd[i]? with | some (some (.own c)) => some (R.new c) | _ => none).map fun r' => OS.rt r' μ')).sat E := h
    generalize sd[i]? = z at h ⊢
    match z, h with
    | some (some (.own _)), h => exact h
    | some (some (.fz _)), h => exact h.elim
    | some (some (.exc _ _)), h => exact h.elim
    | some (some (.fn _)), h => exact h.elim
    | some none, h => exact h.elim
    | none, h => exact h.elim
def sRetN : FS := fun _ μ => .rt (.d .non) μ
theorem fs_retN : QS wd X (.Return none pos) (ofS sRetN) := qs_retN
def sIf (T : FT) (S1 S2 : FS) : FS := fun sd μ => thenS (T sd μ) sd fun b μ' => if b = true then S1 sd μ' else S2 sd μ'
theorem fs_if {c : Expr} {p q : List Stmt} (hc : QT wd X c (ofT T)) (ha : QSs wd X p (ofS S1)) (hb : QSs wd X q (ofS S2)) : QS wd X (.If c p q pos) (ofS (sIf T S1 S2)) :=
  (qs_if hc ha hb).imp fun E sd μ h => ⟨E.nx, fun _ _ q => q, sat_mono (sat_thenS h) fun b μ' h => ⟨fun e => by subst e; exact h, fun e => by subst e; exact h⟩⟩
/-! stores -/
def Tg.bf : Tg → D → SD → Option SD
  | .n i, d, sd => some (sd.set i (some (.fz d)))
  | .t is, .tup ds, sd => if ds.length = is.length then some (setAll sd is ds) else none
  | .t _, _, _ => none
theorem bf_ok {tg : Tg} {d : D} {sd sd' : SD} {k : SD → Prop} (h : tg.bf d sd = some sd') (q : k sd') : tg.bind d sd k := by
  cases tg with
  | n i => cases h; exact q
  | t is =>
    cases d <;> try cases h
    rename_i ds
    have h : (if ds.length = is.length then some (setAll sd is ds) else none) = some sd' := h
    split at h
    · rename_i hl; cases h; exact ⟨hl, q⟩
    · cases h
@[simp] theorem bf_n {i : Nat} {d : D} {sd : SD} : Tg.bf (.n i) d sd = some (sd.set i (some (.fz d))) := rfl
@[simp] theorem bf_t {is : List Nat} {ds : List D} {sd : SD} : Tg.bf (.t is) (.tup ds) sd = if ds.length = is.length then some (setAll sd is ds) else none := rfl
def setK (sd : SD) (tg : Tg) (r : R) (μ : Mu) : OS := osOf (r.tree.bind fun y => (tg.bf y sd).map fun sd' => .nx sd' μ)
def sSet (tg : Tg) (A : FE) : FS := fun sd μ => thenS (A sd μ) sd (setK sd tg)
theorem setK_le {sd : SD} {tg : Tg} {r : R} {μ : Mu} {E : TEn} (h : (setK sd tg r μ).sat E) : withT r fun y => tg.bind y sd fun sd' => E.nx sd' μ := by
  unfold setK at h
  cases q : r.tree with
  | none => rw [q] at h; exact h.elim
  | some y =>
    rw [q] at h
    refine tree_with q ?_
    cases q2 : tg.bf y sd with
    | none => simp only [Option.bind_some, q2] at h; exact h.elim
    | some sd' => simp only [Option.bind_some, q2] at h; exact bf_ok q2 h
theorem sSet_le {tg : Tg} {E : TEn} {sd : SD} {μ : Mu} (h : ofS (sSet tg A) E sd μ) : wSet tg (ofE A) E sd μ := sat_mono (sat_thenS h) fun r μ' h => setK_le h
theorem fs_asg {t : Expr} {tg : Tg} (he : QE wd X e (ofE A)) (hg : QG X t tg) (hs : swapsWithSole [t] e pos.line X.env = pure false := by rfl) (hw : swappedStores [t] e X.env = pure none := by rfl)
    (h1 : (assignEach [t] X.env).map (·.2) = [assign t X.env] := by rfl) : QS wd X (.Assign [t] e pos) (ofS (sSet tg A)) := (qs_asg he hg hs hw h1).imp fun E sd μ h => sSet_le h
theorem fs_set {i : Nat} {x : Str} {pos' : Pos} (hN : X.N.Nodup) (he : QE wd X e (ofE A)) (hi : X.N[i]? = some x := by rfl) (hx : Loc X.env.scope x := by first | exact Or.inl rfl | exact Or.inr rfl) (hs : swapsWith e (some (.Name x pos')) pos.line X.env = pure false := by rfl) (hf : X.fn x = true ∨ X.env.scope.names.lookup x = some .local := by first | exact .inl rfl | exact .inr rfl | assumption) :
    QS wd X (.Assign [.Name x pos'] e pos) (ofS (sSet (.n i) A)) := (qs_set hN he hi hx hs hf).imp fun E sd μ h => sSet_le h
def ownK (sd : SD) (i : Nat) (r : R) (μ : Mu) : OS := match r with
  | .new c => .nx (sd.set i (some (.own c))) μ
  | _ => .no
@[simp] theorem ownK_new {sd : SD} {i : Nat} {c : D} {μ : Mu} : ownK sd i (.new c) μ = .nx (sd.set i (some (.own c))) μ := rfl
def sSetO (i : Nat) (A : FE) : FS := fun sd μ => thenS (A sd μ) sd (ownK sd i)
theorem sSetO_le {i : Nat} {E : TEn} {sd : SD} {μ : Mu} (h : ofS (sSetO i A) E sd μ) : wSetO i (ofE A) E sd μ := sat_mono (sat_thenS h) fun r μ' h => by cases r <;> exact h
theorem fs_setO {i : Nat} {x : Str} {pos' : Pos} (hN : X.N.Nodup) (he : QE wd X e (ofE A)) (hi : X.N[i]? = some x := by rfl) (hx : Loc X.env.scope x := by first | exact Or.inl rfl | exact Or.inr rfl) (hs : swapsWith e (some (.Name x pos')) pos.line X.env = pure false := by rfl) (hf : X.fn x = true ∨ X.env.scope.names.lookup x = some .local := by first | exact .inl rfl | exact .inr rfl | assumption) :
    QS wd X (.Assign [.Name x pos'] e pos) (ofS (sSetO i A)) := (qs_setO hN he hi hx hs hf).imp fun E sd μ h => sSetO_le h
def sFrz (i : Nat) (S : FS) : FS := fun sd μ => match sd[i]? with
  | some (some (.own c)) => S (sd.set i (some (.fz c))) μ
  | _ => .no
theorem fss_frz (i : Nat) (h : QSs wd X sts (ofS S)) : QSs wd X sts (ofS (sFrz i S)) := (qss_frz i h).imp fun E sd μ h => by
  unfold ofS sFrz at h
  unfold wFrz
  generalize sd[i]? = z at h ⊢
  match z, h with
  | some (some (.own _)), h => exact h
  | some (some (.fz _)), h => exact h.elim
  | some (some (.exc _ _)), h => exact h.elim
  | some (some (.fn _)), h => exact h.elim
  | some none, h => exact h.elim
  | none, h => exact h.elim
/-- the list that slot i owns -/
def ownL (sd : SD) (i : Nat) : Option (List D) := match sd[i]? with
  | some (some (.own (.lst ds))) => some ds
  | _ => none
theorem ownL_eq {sd : SD} {i : Nat} {ds : List D} (h : ownL sd i = some ds) : sd[i]? = some (some (.own (.lst ds))) := by
  unfold ownL at h
  split at h
  · rename_i ds' q; cases h; exact q
  · cases h
def thenL (sd : SD) (i : Nat) (f : List D → OS) : OS := match ownL sd i with
  | some ds => f ds
  | none => .no
theorem sat_thenL {sd : SD} {i : Nat} {f : List D → OS} {E : TEn} (h : (thenL sd i f).sat E) : ∃ ds, sd[i]? = some (some (.own (.lst ds))) ∧ (f ds).sat E := by
  unfold thenL at h
  cases q : ownL sd i with
  | none => rw [q] at h; exact h.elim
  | some ds => rw [q] at h; exact ⟨ds, ownL_eq q, h⟩
def sApp (i : Nat) (A : FE) : FS := fun sd μ => thenL sd i fun ds => thenS ((A sd μ).bind fun r μ' => Out.of r.tree μ') sd fun y μ' => if ds.length < sizeLine then .nx (sd.set i (some (.own (.lst (ds ++ [y]))))) μ' else .no
theorem sApp_le {i : Nat} {E : TEn} {sd : SD} {μ : Mu} (h : ofS (sApp i A) E sd μ) : wApp i (ofE A) E sd μ := by
  obtain ⟨ds, q, h⟩ := sat_thenL h
  unfold wApp
  rw [q]
  exact sat_mono (sat_bind (sat_thenS h)) fun r μ' h => let ⟨y, e, h⟩ := sat_of h; tree_with e (sat_iteS h)
theorem fs_app {i : Nat} {x : Str} {p apos cpos : Pos} (he : QE wd X e (ofE A)) (hN : X.N[i]? = some x := by rfl) (hv : Vis X.env.scope x := by first | exact Or.inl rfl | exact Or.inr (Or.inl rfl) | exact Or.inr (Or.inr rfl)) (hd : (x == ("__debug__" : Str)) = false := by decide)
    (hcd : (x == ("__classdict__" : Str)) = false := by decide) (hst : starEach [e] X.env = (false, eval e X.env) :: starEach [] X.env := by rfl)
    (hbase : attributeBase (.Name x p) "append" X.env (eval (.Name x p) X.env) = eval (.Name x p) X.env := by rfl)
    (hfew : ((backTo cpos (starEach [e] X.env)).all (fun x => !x.1) && (backToKw cpos (keywordEach [] X.env)).all (fun x => x.1.isSome)
      && decide ([e].length + ([] : List Keyword).length + (if ([] : List Keyword).isEmpty then 0 else 1) < 30)) = true := by rfl)
    (hline : (apos.endLine == cpos.line) = true := by rfl) (hplain : (backTo cpos (starEach [] X.env)).any (·.1) = false := by rfl) (hs : swapsWith (.Call (.Attribute (.Name x p) "append" apos) [e] [] cpos) none pos.line X.env = pure false := by rfl) :
    QS wd X (.Expr (.Call (.Attribute (.Name x p) "append" apos) [e] [] cpos) pos) (ofS (sApp i A)) := (qs_app he hN hv hd hcd hst hbase hfew hline hplain hs).imp fun E sd μ h => sApp_le h
def sPut (i : Nat) (I A : FE) : FS := fun sd μ => thenL sd i fun ds => thenS ((A sd μ).bind fun r μ' => Out.of r.tree μ') sd fun y μ' => thenS ((I sd μ').bind fun r μ' => Out.of (iOf r) μ') sd fun k μ2 => osOf ((ixN ds.length k).map fun j => .nx (sd.set i (some (.own (.lst (ds.set j y))))) μ2)
theorem sPut_le {i : Nat} {E : TEn} {sd : SD} {μ : Mu} (h : ofS (sPut i I A) E sd μ) : wPut i (ofE I) (ofE A) E sd μ := by
  obtain ⟨ds, q, h⟩ := sat_thenL h
  unfold wPut
  rw [q]
  refine sat_mono (sat_bind (sat_thenS h)) fun r μ' h => let ⟨y, e, h⟩ := sat_of h; tree_with e ?_
  refine sat_mono (sat_bind (sat_thenS h)) fun r2 μ2 h => ?_
  obtain ⟨k, e2, h⟩ := sat_of h
  cases iOf_eq e2
  have h : (osOf ((ixN ds.length k).map fun j => OS.nx (sd.set i (some (.own (.lst (ds.set j y))))) μ2)).sat E := h
  show ∃ j, ixN ds.length k = some j ∧ E.nx (sd.set i (some (.own (.lst (ds.set j y))))) μ2
  cases q3 : ixN ds.length k with
  | none => rw [q3] at h; exact h.elim
  | some j => rw [q3] at h; exact ⟨j, rfl, h⟩
theorem fs_put {i : Nat} {x : Str} {p tpos : Pos} {ei : Expr} (hi : QE wd X ei (ofE I)) (he : QE wd X e (ofE A)) (hN : X.N[i]? = some x := by rfl) (hv : Vis X.env.scope x := by first | exact Or.inl rfl | exact Or.inr (Or.inl rfl) | exact Or.inr (Or.inr rfl)) (hd : (x == ("__debug__" : Str)) = false := by decide)
    (hcd : (x == ("__classdict__" : Str)) = false := by decide)
    (ha : ∀ v, assign (.Subscript (.Name x p) ei tpos) X.env v = (do
      let ov ← holding [v] (eval (.Name x p) X.env)
      let iv ← holding [v, ov] (eval ei X.env)
      standAt tpos
      holding [v, ov, iv] (setItem ov iv v)
      release [v, ov, iv] []) := by intro _; rfl)
    (hs : swapsWithSole [.Subscript (.Name x p) ei tpos] e pos.line X.env = pure false := by rfl) (hw : swappedStores [.Subscript (.Name x p) ei tpos] e X.env = pure none := by rfl)
    (h1 : (assignEach [.Subscript (.Name x p) ei tpos] X.env).map (·.2) = [assign (.Subscript (.Name x p) ei tpos) X.env] := by rfl) :
    QS wd X (.Assign [.Subscript (.Name x p) ei tpos] e pos) (ofS (sPut i I A)) := (qs_put hi he hN hv hd hcd ha hs hw h1).imp fun E sd μ h => sPut_le h
def sPutF (cs : List Nat) (f : Nat) (A O : FE) : FS := fun sd μ => thenS ((A sd μ).bind fun r μ' => Out.of r.tree μ') sd fun y μ1 => thenS (O sd μ1) sd fun r2 μ2 => match r2 with
  | .d (.ref a) => (match μ2[a]? with
    | some (.ins c fs) => if cs.elem c = true ∧ fs.length < 1000 then .nx sd (μ2.set a (.ins c (fput f y fs))) else .no
    | _ => .no)
  | _ => .no
theorem fs_putF {cs : List Nat} {f : Nat} {n : Str} {p' : Pos} (hT : FldT X.K wd.cl cs f) (ho : QE wd X o (ofE O)) (he : QE wd X e (ofE A)) (hf : f < 32 := by decide) (hn : fnm f = n := by rfl) (hs : swapsWith e (some (.Attribute o n p')) pos.line X.env = pure false := by rfl) :
    QS wd X (.Assign [.Attribute o n p'] e pos) (ofS (sPutF cs f A O)) := (qs_putF hT ho he hf hn hs).imp fun E sd μ h => by
  refine sat_mono (sat_bind (sat_thenS h)) fun r μ' h => let ⟨y, e, h⟩ := sat_of h; tree_with e ?_
  refine sat_mono (sat_thenS h) fun r2 μ2 h => ?_
  cases r2 with
  | «at» i => exact h.elim
  | new c => exact h.elim
  | d z =>
    cases z <;> try exact h.elim
    rename_i a
    dsimp only at h
    split at h
    · rename_i c fs hm
      obtain ⟨⟨h1, h2⟩, h⟩ := sat_iteS h
      exact ⟨c, fs, hm, h1, h2, h⟩
    · exact h.elim
/-! raise, try -/
def sRaise (c : Nat) : FS := fun sd μ => .ex c [] sd μ
theorem fs_raise {c : Nat} {mm : Str} {j : Nat} {p p2 pos2 : Pos} {C : Addr} (hc : wd.cl c = some C) (T : ExcT X.K X.mg x C) (hcalm : X.calm = true) (tk : Takes X wd.W) (hg : Gl X x := by rfl) (hdb : (x == ("__debug__" : Str)) = false := by decide) :
    QS wd X (.Raise (some (.Call (.Name x p) [.Constant (.str mm) j p2] [] pos)) none pos2) (ofS (sRaise c)) := qs_raise hc T hcalm tk hg hdb
def sRaise1 (c f : Nat) (A : FE) : FS := fun sd μ => thenS ((A sd μ).bind fun r μ' => Out.of r.tree μ') sd fun y μ' => .ex c [(f, y)] sd μ'
theorem sRaise1_le {c f : Nat} {E : TEn} {sd : SD} {μ : Mu} (h : ofS (sRaise1 c f A) E sd μ) : wRaise1 c f (ofE A) E sd μ := sat_mono (sat_bind (sat_thenS h)) fun r μ' h => let ⟨y, e, h⟩ := sat_of h; tree_with e h
theorem fs_raise1O {c f k : Nat} {fI C : Addr} {n x : Str} {p pos pos2 : Pos} {psI : List Str} (hc : wd.cl c = some C) (T : OexC X.K C) (iC : PySem.W.findIn X.K (.ref C) "__init__" = some (some (.ref fI))) (tI : PySem.W.typeIn X.K (.ref fI) = some (.type "function"))
    (O : OkX X.prog X.w X.K X.mg X.base k fI psI (spX1 X.K C n)) (hr : Room (k + 1) X.A) (hm : X.mg x = some (.ref C)) (hcalm : X.calm = true) (tk : Takes X wd.W) (he : QE wd X e (ofE A)) (hf : f < 32 := by decide) (hn : fnm f = n := by rfl)
    (hg : Gl X x := by rfl) (hdb : (x == ("__debug__" : Str)) = false := by decide) (hst : starEach [e] X.env = (false, eval e X.env) :: starEach [] X.env := by rfl) (hpl : (backTo pos (starEach [] X.env)).any (·.1) = false := by rfl) :
    QS wd X (.Raise (some (.Call (.Name x p) [e] [] pos)) none pos2) (ofS (sRaise1 c f A)) := (raise1O hc T iC tI O hr hm hcalm tk he hf hn hg hdb hst hpl).imp fun E sd μ h => sRaise1_le h
def calmS (sd' : SD → SD) (o : OS) : OS := match o with
  | .nx sd μ => if noExc (sd' sd) = true then .nx (sd' sd) μ else .no
  | .bk sd μ => if noExc (sd' sd) = true then .bk (sd' sd) μ else .no
  | .ct sd μ => if noExc (sd' sd) = true then .ct (sd' sd) μ else .no
  | .rt r μ => .rt r μ
  | .ex _ _ _ _ => .no
  | .no => .no
def sTry (exm : Nat → Option Bool) (S1 S2 : FS) : FS := fun sd μ => match S1 sd μ with
  | .ex c fs sd' μ' => (match exm c with
    | some true => calmS (fun z => z) (S2 sd' μ')
    | some false => .ex c fs sd' μ'
    | none => .no)
  | o => o
def sTryAs (exm : Nat → Option Bool) (i : Nat) (S1 S2 : FS) : FS := fun sd μ => match S1 sd μ with
  | .ex c fs sd' μ' => (match exm c with
    | some true => calmS (fun z => z.set i none) (S2 (sd'.set i (some (.exc c fs))) μ')
    | some false => .ex c fs sd' μ'
    | none => .no)
  | o => o
theorem sTry_le {exm : Nat → Option Bool} {E : TEn} {sd : SD} {μ : Mu} (h : ofS (sTry exm S1 S2) E sd μ) : wTry exm (ofS S1) (ofS S2) E sd μ := by
  unfold ofS sTry at h
  show (S1 sd μ).sat _
  cases q : S1 sd μ <;> rw [q] at h <;> try exact h
  rename_i c fs sd' μ'
  dsimp only at h
  show (match exm c with | some true => ofS S2 (exS E) sd' μ' | some false => E.ex c fs sd' μ' | none => False)
  cases q2 : exm c with
  | none => rw [q2] at h; exact h.elim
  | some b =>
    rw [q2] at h
    cases b with
    | false => exact h
    | true =>
      show (S2 sd' μ').sat _
      dsimp only at h
      cases q3 : S2 sd' μ' <;> rw [q3] at h <;> first | exact h | exact sat_iteS h | exact h.elim
theorem sTryAs_le {exm : Nat → Option Bool} {i : Nat} {E : TEn} {sd : SD} {μ : Mu} (h : ofS (sTryAs exm i S1 S2) E sd μ) : wTryAs exm i (ofS S1) (ofS S2) E sd μ := by
  unfold ofS sTryAs at h
  show (S1 sd μ).sat _
  cases q : S1 sd μ <;> rw [q] at h <;> try exact h
  rename_i c fs sd' μ'
  dsimp only at h
  show (match exm c with | some true => ofS S2 (exN i E) (sd'.set i (some (.exc c fs))) μ' | some false => E.ex c fs sd' μ' | none => False)
  cases q2 : exm c with
  | none => rw [q2] at h; exact h.elim
  | some b =>
    rw [q2] at h
    cases b with
    | false => exact h
    | true =>
      show (S2 _ μ').sat _
      dsimp only at h
      cases q3 : S2 (sd'.set i (some (.exc c fs))) μ' <;> rw [q3] at h <;> first | exact h | exact sat_iteS h | exact h.elim
theorem fs_try {suite : List Stmt} {b₀ : Stmt} {exm : Nat → Option Bool} {cv : Value} {np pos' : Pos} (hh : wd.hnd = none) (hs : X.stack = X.env :: X.outer) (hf : X.env.frame = some X.env.locals) (hc : Names X x cv) (tk : Takes X wd.W) (hx : ExmT X wd.cl cv exm)
    (hb : ∀ (W : WX) (pn : List (Addr × Obj)) (xe : Value → Shared → Prop), Takes (X.tr pn xe) W → PassesOwn (model X.prog X.w) X.A X.env xe → QSs ⟨wd.cl, W, none, wd.fp⟩ (X.tr pn xe) body (ofS S1))
    (hsu : ∀ (a : Addr) (oe : Obj) (cls : Value) (d : Option Addr) (pn : List (Addr × Obj)), Zc cls d oe → (∃ vs, oe.data = .fields vs) → QSs ⟨wd.cl, fun _ _ _ _ => False, some (a, cls, d), wd.fp⟩ (X.suite a ((a, oe) :: pn)) (b₀ :: suite) (ofS S2)) :
    QS wd X (.Try body [.ExceptHandler (some (.Name x np)) none (b₀ :: suite) pos'] [] [] pos) (ofS (sTry exm S1 S2)) := (qs_try hh hs hf hc tk hx hb hsu).imp fun E sd μ h => sTry_le h
theorem fs_tryAs {suite : List Stmt} {b₀ : Stmt} {n : Str} {exm : Nat → Option Bool} {i : Nat} {cv : Value} {np pos' : Pos} (hh : wd.hnd = none) (hs : X.stack = X.env :: X.outer) (hf : X.env.frame = some X.env.locals) (hN : X.N.Nodup) (hc : Names X x cv) (tk : Takes X wd.W) (hx : ExmT X wd.cl cv exm)
    (hb : ∀ (W : WX) (pn : List (Addr × Obj)) (xe : Value → Shared → Prop), Takes (X.tr pn xe) W → PassesOwn (model X.prog X.w) X.A X.env xe → QSs ⟨wd.cl, W, none, wd.fp⟩ (X.tr pn xe) body (ofS S1))
    (hsu : ∀ (a : Addr) (oe : Obj) (cls : Value) (d : Option Addr) (pn : List (Addr × Obj)), Zc cls d oe → (∃ vs, oe.data = .fields vs) → QSs ⟨wd.cl, fun _ _ _ _ => False, some (a, cls, d), wd.fp⟩ (X.suite a ((a, oe) :: pn)) (b₀ :: suite) (ofS S2))
    (hi : X.N[i]? = some n := by rfl) (hln : X.env.kindOf n = some .local := by rfl) :
    QS wd X (.Try body [.ExceptHandler (some (.Name x np)) (some n) (b₀ :: suite) pos'] [] [] pos) (ofS (sTryAs exm i S1 S2)) := (qs_tryAs hh hs hf hN hc tk hx hb hsu hi hln).imp fun E sd μ h => sTryAs_le h
/-! ### loops -/
def whF (T : FT) (S : FS) : Nat → SD → Mu → Option OS
  | 0, _, _ => none
  | n + 1, sd, μ => match T sd μ with
    | .no => some .no
    | .ex c fs μ => some (.ex c fs sd μ)
    | .ok false μ => some (.nx sd μ)
    | .ok true μ => (match S sd μ with
      | .nx sd μ => whF T S n sd μ
      | .ct sd μ => whF T S n sd μ
      | .bk sd μ => some (.nx sd μ)
      | o => some o)
theorem whF_mono {T : FT} {S : FS} : ∀ {n : Nat} {sd : SD} {μ : Mu} {o : OS}, whF T S n sd μ = some o → whF T S (n + 1) sd μ = some o
  | 0, _, _, _, h => by cases h
  | n + 1, sd, μ, o, h => by
    rw [whF] at h ⊢
    cases q : T sd μ with
    | no => rw [q] at h; exact h
    | ex c fs μ => rw [q] at h; exact h
    | ok b μ1 =>
      rw [q] at h
      cases b with
      | false => exact h
      | true =>
        dsimp only at h ⊢
        cases q2 : S sd μ1 <;> rw [q2] at h <;> first | exact whF_mono h | exact h
theorem whF_le {T : FT} {S : FS} {n : Nat} {sd : SD} {μ : Mu} {o : OS} (h : whF T S n sd μ = some o) : ∀ k, whF T S (n + k) sd μ = some o
  | 0 => h
  | k + 1 => whF_mono (whF_le h k)
theorem whF_uniq {T : FT} {S : FS} {n m : Nat} {sd : SD} {μ : Mu} {o o' : OS} (h : whF T S n sd μ = some o) (h' : whF T S m sd μ = some o') : o = o' := by
  have a := whF_le h m
  have b := whF_le h' n
  rw [Nat.add_comm] at b
  rw [a] at b
  exact Option.some.inj b
def sWhile (T : FT) (S : FS) : FS := fun sd μ => if h : ∃ n o, whF T S n sd μ = some o then choose (choose_spec h) else .no
theorem sWhile_of {T : FT} {S : FS} {n : Nat} {sd : SD} {μ : Mu} {o : OS} (h : whF T S n sd μ = some o) : sWhile T S sd μ = o := by
  unfold sWhile
  rw [dif_pos ⟨n, o, h⟩]
  exact whF_uniq (choose_spec (choose_spec (⟨n, o, h⟩ : ∃ n o, whF T S n sd μ = some o))) h
theorem sWhile_no {T : FT} {S : FS} {sd : SD} {μ : Mu} (h : ∀ n, whF T S n sd μ = none) : sWhile T S sd μ = .no := by
  unfold sWhile
  rw [dif_neg]
  rintro ⟨n, o, q⟩
  rw [h n] at q
  cases q
/-- a turn of while -/
def whT (T : FT) (S : FS) (sd : SD) (μ : Mu) : OS := thenS (T sd μ) sd fun b μ => if b = true then (match S sd μ with
    | .nx sd μ => sWhile T S sd μ
    | .ct sd μ => sWhile T S sd μ
    | .bk sd μ => .nx sd μ
    | o => o) else .nx sd μ
theorem sWhile_eq (T : FT) (S : FS) (sd : SD) (μ : Mu) : sWhile T S sd μ = whT T S sd μ := by
  unfold whT
  have on : ∀ {o : OS}, whF T S 1 sd μ = some o → sWhile T S sd μ = o := fun h => sWhile_of h
  cases q : T sd μ with
  | no => exact on (by simp only [whF, q]; rfl)
  | ex c fs μ1 => exact on (by simp only [whF, q]; rfl)
  | ok b μ1 =>
    cases b with
    | false => exact on (by simp only [whF, q]; rfl)
    | true =>
      dsimp only [thenS_ok]
      rw [if_pos rfl]
      have step : ∀ {sd2 : SD} {μ2 : Mu}, (S sd μ1 = .nx sd2 μ2 ∨ S sd μ1 = .ct sd2 μ2) → sWhile T S sd μ = sWhile T S sd2 μ2 := by
        intro sd2 μ2 hs
        by_cases hn : ∃ n o, whF T S n sd2 μ2 = some o
        · obtain ⟨n, o, hn⟩ := hn
          rw [sWhile_of hn]
          refine sWhile_of (n := n + 1) ?_
          rcases hs with hs | hs <;> simp only [whF, q, hs, hn]
        · have hn' : ∀ n, whF T S n sd2 μ2 = none := fun n => by
            cases z : whF T S n sd2 μ2 with
            | none => rfl
            | some o => exact (hn ⟨n, o, z⟩).elim
          rw [sWhile_no hn']
          refine sWhile_no fun n => ?_
          cases n with
          | zero => rfl
          | succ n => rcases hs with hs | hs <;> simp only [whF, q, hs, hn']
      cases q2 : S sd μ1 with
      | nx sd2 μ2 => exact step (.inl q2)
      | ct sd2 μ2 => exact step (.inr q2)
      | bk sd2 μ2 => exact on (by simp only [whF, q, q2])
      | rt r μ2 => exact on (by simp only [whF, q, q2])
      | ex c fs sd2 μ2 => exact on (by simp only [whF, q, q2])
      | no => exact on (by simp only [whF, q, q2])
theorem sWhile_le {E : TEn} {sd : SD} {μ : Mu} (h : ofS (sWhile T S) E sd μ) : wWhile (ofT T) (ofS S) E sd μ := by
  have h : (sWhile T S sd μ).sat E := h
  unfold sWhile at h
  split at h
  · rename_i hex
    obtain ⟨n, o, hn⟩ := hex
    have hso : (sWhile T S sd μ).sat E := by
      unfold sWhile
      rw [dif_pos ⟨n, o, hn⟩]
      exact h
    rw [sWhile_of hn] at hso
    refine ⟨fun n sd μ => ∃ o, whF T S n sd μ = some o ∧ o.sat E, ⟨n, o, hn, hso⟩, fun n sd μ ⟨o, hn, ho⟩ => ?_⟩
    cases n with
    | zero => cases hn
    | succ n =>
      rw [whF] at hn
      show (T sd μ).sat _ _
      cases q : T sd μ with
      | no => rw [q] at hn; cases hn; exact ho
      | ex c fs μ1 => rw [q] at hn; cases hn; exact ho
      | ok b μ1 =>
        rw [q] at hn
        cases b with
        | false => cases hn; exact ⟨fun e => (by cases e), fun _ => ho⟩
        | true =>
          refine ⟨fun _ => ?_, fun e => by cases e⟩
          dsimp only at hn
          show (S sd μ1).sat _
          cases q2 : S sd μ1 with
          | nx sd2 μ2 => rw [q2] at hn; exact ⟨n, Nat.lt_succ_self _, o, hn, ho⟩
          | ct sd2 μ2 => rw [q2] at hn; exact ⟨n, Nat.lt_succ_self _, o, hn, ho⟩
          | bk sd2 μ2 => rw [q2] at hn; cases hn; exact ho
          | rt r μ2 => rw [q2] at hn; cases hn; exact ho
          | ex c fs sd2 μ2 => rw [q2] at hn; cases hn; exact ho
          | no => rw [q2] at hn; cases hn; exact ho
  · exact h.elim
theorem fs_while {c : Expr} (hp : PassesOwn (model X.prog X.w) X.A X.env X.xe) (hc : QT wd X c (ofT T)) (hb : QSs wd X body (ofS S)) : QS wd X (.While c body [] pos) (ofS (sWhile T S)) := (qs_while hp hc hb).imp fun E sd μ h => sWhile_le h
def forF (L : Lk) (tg : Tg) (S : FS) : List D → SD → Mu → OS
  | [], sd, μ => if lkOk L μ then .nx sd μ else .no
  | d :: ds, sd, μ => if lkOk L μ then (match tg.bf d sd with
    | none => .no
    | some sd' => match S sd' μ with
      | .nx sd μ => forF L tg S ds sd μ
      | .ct sd μ => forF L tg S ds sd μ
      | .bk sd μ => .nx sd μ
      | o => o) else .no
def sFor (It : FI) (tg : Tg) (S : FS) : FS := fun sd μ => thenS (It sd μ) sd fun p μ1 => forF p.2 tg S p.1 sd μ1
theorem sFor_le {tg : Tg} {E : TEn} {sd : SD} {μ : Mu} (h : ofS (sFor It tg S) E sd μ) : wFor (ofI It) tg (ofS S) E sd μ := by
  refine sat_mono (sat_thenS h) fun p μ1 h => ?_
  obtain ⟨ds, L⟩ := p
  refine ⟨fun n sd μ => (forF L tg S (ds.drop n) sd μ).sat E, h, fun n sd μ h => ?_, fun n d sd μ hd h => ?_, fun sd μ h => ?_⟩
  · have h : (forF L tg S (ds.drop n) sd μ).sat E := h
    show lkOk L μ
    cases q : ds.drop n with
    | nil => rw [q, forF] at h; exact (sat_iteS h).1
    | cons d r => rw [q, forF] at h; exact (sat_iteS h).1
  · have h : (forF L tg S (ds.drop n) sd μ).sat E := h
    have hd : ds[n]? = some d := hd
    have hn : n < ds.length := (List.getElem?_eq_some_iff.mp hd).1
    have e1 : ds.drop n = d :: ds.drop (n + 1) := by
      rw [List.drop_eq_getElem_cons hn]
      congr 1
      rw [List.getElem?_eq_getElem hn] at hd
      exact Option.some.inj hd
    rw [e1, forF] at h
    obtain ⟨_, h⟩ := sat_iteS h
    cases q : tg.bf d sd with
    | none => rw [q] at h; exact h.elim
    | some sd' =>
      rw [q] at h
      refine bf_ok q ?_
      dsimp only at h
      show (S sd' μ).sat _
      cases q2 : S sd' μ <;> rw [q2] at h <;> exact h
  · have h : (forF L tg S (ds.drop ds.length) sd μ).sat E := h
    rw [List.drop_length, forF] at h
    exact (sat_iteS h).2
theorem fs_for {t : Expr} {tg : Tg} (hp : PassesOwn (model X.prog X.w) X.A X.env X.xe) (hc : X.calm = true) (hi : QI wd X t iter (ofI It)) (hg : QG X t tg) (hb : QSs wd X body (ofS S)) (hs : ∀ x, foldedSetIterable iter X.env x = pure x := by intro _; rfl) :
    QS wd X (.For t iter body [] pos) (ofS (sFor It tg S)) := (qs_for hp hc hi hg hb hs).imp fun E sd μ h => sFor_le h
/-! what is walked -/
def itOf (r : R) (μ : Mu) : Option (List D × Lk) := match r with
  | .d (.lst ds) => some (ds, none)
  | .d (.tup ds) => some (ds, none)
  | .new (.lst ds) => some (ds, none)
  | .d (.ref n) => (match μ[n]? with
    | some (.box (.lst ds)) => some (ds, some (n, ds))
    | _ => none)
  | _ => none
def fiSeq (A : FE) : FI := fun sd μ => (A sd μ).bind fun r μ1 => Out.of (itOf r μ1) μ1
theorem fi_seq (h : QE wd X e (ofE A)) : QI wd X tge e (ofI (fiSeq A)) := (qi_seq h).imp fun sd μ x k h => sat_mono (sat_bind h) fun r μ1 h => by
  obtain ⟨p, e, q⟩ := sat_of h
  unfold itOf at e
  split at e
  · cases e; exact q
  · cases e; exact q
  · cases e; exact q
  · split at e
    · rename_i ds hm; cases e; exact ⟨ds, hm, q⟩
    · cases e
  · cases e
def fiRng1 (A : FE) : FI := fun sd μ => (A sd μ).bind fun r μ1 => (Out.of (iOf r) μ1).bind fun j μ1 => if Rg1 j then .ok (rngD 0 j.toNat, none) μ1 else .no
theorem fi_range1 {p : Pos} (ha : QE wd X e (ofE A)) (hm : X.mg "range" = none) (hg : Gl X "range" := by rfl) (hst : starEach (e :: []) X.env = (false, eval e X.env) :: starEach [] X.env := by rfl) (hs : starEach [e] X.env = [(false, eval e X.env)] := by rfl) :
    QI wd X tge (.Call (.Name "range" p) [e] [] pos) (ofI (fiRng1 A)) := (qi_range1 ha hm hg hst hs).imp fun sd μ x k h => sat_mono (sat_bind h) fun r μ1 h => by
  obtain ⟨j, e, q⟩ := sat_of (sat_bind h)
  cases iOf_eq e
  obtain ⟨h1, q⟩ := sat_ite q
  exact ⟨h1.1, h1.2, q⟩
def fiRng2 (A B : FE) : FI := fun sd μ => (A sd μ).bind fun r μ1 => (B sd μ1).bind fun r2 μ2 => (Out.of (iOf r) μ2).bind fun i μ2 => (Out.of (iOf r2) μ2).bind fun j μ2 => if Rg2 i j then .ok (rngD i (j - i).toNat, none) μ2 else .no
theorem fi_range2 {p : Pos} (ha : QE wd X a (ofE A)) (hb : QE wd X b (ofE B)) (hm : X.mg "range" = none) (hg : Gl X "range" := by rfl) (hst : starEach [a, b] X.env = (false, eval a X.env) :: starEach [b] X.env := by rfl) (hst2 : starEach [b] X.env = (false, eval b X.env) :: starEach [] X.env := by rfl)
    (hs : starEach [a, b] X.env = [(false, eval a X.env), (false, eval b X.env)] := by rfl) (hs2 : starEach [b] X.env = [(false, eval b X.env)] := by rfl) :
    QI wd X tge (.Call (.Name "range" p) [a, b] [] pos) (ofI (fiRng2 A B)) := (qi_range2 ha hb hm hg hst hst2 hs hs2).imp fun sd μ x k h => sat_mono (sat_bind h) fun r μ1 h => sat_mono (sat_bind h) fun r2 μ2 h => by
  obtain ⟨i, e1, q⟩ := sat_of (sat_bind h)
  obtain ⟨j, e2, q⟩ := sat_of (sat_bind q)
  cases iOf_eq e1
  cases iOf_eq e2
  exact sat_ite q
/-- a list's items -/
def lOf (r : R) : Option (List D) := match r with
  | .d (.lst ds) => some ds
  | .new (.lst ds) => some ds
  | _ => none
@[simp] theorem lOf_d {ds : List D} : lOf (.d (.lst ds)) = some ds := rfl
@[simp] theorem lOf_new {ds : List D} : lOf (.new (.lst ds)) = some ds := rfl
def fiEnum (A : FE) : FI := fun sd μ => (A sd μ).bind fun r μ1 => (Out.of (lOf r) μ1).bind fun ds μ1 => .ok (enumD ds, none) μ1
theorem fi_enum {p tpos : Pos} {elts : List Expr} {kk : Nat} (ha : QE wd X e (ofE A)) (hm : X.mg "enumerate" = none) (hg : Gl X "enumerate" := by rfl) (hst : starEach (e :: []) X.env = (false, eval e X.env) :: starEach [] X.env := by rfl) (hs : starEach [e] X.env = [(false, eval e X.env)] := by rfl) :
    QI wd X (.Tuple elts kk tpos) (.Call (.Name "enumerate" p) [e] [] pos) (ofI (fiEnum A)) := (qi_enum ha hm hg hst hs).imp fun sd μ x k h => sat_mono (sat_bind h) fun r μ1 h => by
  obtain ⟨ds, e, q⟩ := sat_of (sat_bind h)
  unfold lOf at e
  split at e <;> first | (cases e; exact q) | cases e
def fiRev (A : FE) : FI := fun sd μ => (A sd μ).bind fun r μ1 => (Out.of (lOf r) μ1).bind fun ds μ1 => .ok (ds.reverse, none) μ1
theorem fi_rev {p : Pos} (ha : QE wd X e (ofE A)) (hm : X.mg "reversed" = none) (hg : Gl X "reversed" := by rfl) (hst : starEach (e :: []) X.env = (false, eval e X.env) :: starEach [] X.env := by rfl) (hs : starEach [e] X.env = [(false, eval e X.env)] := by rfl) :
    QI wd X tge (.Call (.Name "reversed" p) [e] [] pos) (ofI (fiRev A)) := (qi_rev ha hm hg hst hs).imp fun sd μ x k h => sat_mono (sat_bind h) fun r μ1 h => by
  obtain ⟨ds, e, q⟩ := sat_of (sat_bind h)
  unfold lOf at e
  split at e <;> first | (cases e; exact q) | cases e
end
end
end TL
/-! TL: readings as functions: comprehensions, the store -/
namespace TL
open PySem PySem.Spec L2
open Classical
noncomputable section
section
variable {X : Cx} {wd : Wd} {e o a b c : Expr} {es rest : List Expr} {pos p apos cpos : Pos} {st : Stmt} {sts body : List Stmt} {A B C O I : FE} {T U : FT} {As : FA} {S S1 S2 : FS} {x m : Str} {It : FI} {iter tge : Expr}
/-! ### comprehensions -/
def lcF (L : Lk) (tg : Tg) (T : FT) (A : FE) (sd : SD) : List D → List D → Mu → Out R
  | [], acc, μ => if lkOk L μ then .ok (.new (.lst acc)) μ else .no
  | d :: ds, acc, μ => if lkOk L μ then (match tg.bf d sd with
    | none => .no
    | some sd' => match T sd' μ with
      | .ok true μ2 => (match A sd' μ2 with
        | .ok r μ3 => (match r.tree with
          | some y => lcF L tg T A sd ds (acc ++ [y]) μ3
          | none => .no)
        | _ => .no)
      | .ok false μ2 => lcF L tg T A sd ds acc μ2
      | _ => .no) else .no
def fLc (It : FI) (tg : Tg) (T : FT) (A : FE) (vs : List Nat) : FE := fun sd μ => (It sd μ).bind fun p μ1 => if p.1.length ≤ sizeLine then lcF p.2 tg T A (wipeD sd vs) p.1 [] μ1 else .no
theorem lcF_end {L : Lk} {tg : Tg} {sd : SD} : ∀ {ds acc : List D} {μ : Mu} {x : XT} {k : R → Mu → Prop}, (lcF L tg T A sd ds acc μ).sat x k → lkOk L μ
  | [], acc, μ, x, k, h => by rw [lcF] at h; exact (sat_ite h).1
  | d :: ds, acc, μ, x, k, h => by rw [lcF] at h; exact (sat_ite h).1
theorem fLc_le {tg : Tg} {vs : List Nat} {sd : SD} {μ : Mu} {x : XT} {k : R → Mu → Prop} (h : ofE (fLc It tg T A vs) sd μ x k) : wLc (ofI It) tg (ofT T) (ofE A) vs sd μ x k := by
  refine sat_mono (sat_bind h) fun p μ1 h => ?_
  obtain ⟨ds, L⟩ := p
  obtain ⟨hl, h⟩ := sat_ite h
  refine ⟨hl, fun n acc μ => (lcF L tg T A (wipeD sd vs) (ds.drop n) acc μ).sat x k, h, fun n acc μ h => lcF_end h, fun n d acc μ hd h => ?_, fun acc μ h => ?_⟩
  · have h : (lcF L tg T A (wipeD sd vs) (ds.drop n) acc μ).sat x k := h
    have hd : ds[n]? = some d := hd
    have hn : n < ds.length := (List.getElem?_eq_some_iff.mp hd).1
    have e1 : ds.drop n = d :: ds.drop (n + 1) := by
      rw [List.drop_eq_getElem_cons hn]
      congr 1
      rw [List.getElem?_eq_getElem hn] at hd
      exact Option.some.inj hd
    rw [e1, lcF] at h
    obtain ⟨_, h⟩ := sat_ite h
    cases q : tg.bf d (wipeD sd vs) with
    | none => rw [q] at h; exact h.elim
    | some sd' =>
      rw [q] at h
      refine bf_ok q ?_
      dsimp only at h
      show (T sd' μ).sat _ _
      cases q2 : T sd' μ with
      | no => rw [q2] at h; exact h.elim
      | ex c fs μ2 => rw [q2] at h; exact h.elim
      | ok bb μ2 =>
        rw [q2] at h
        cases bb with
        | false => exact ⟨fun e => (by cases e), fun _ => h⟩
        | true =>
          refine ⟨fun _ => ?_, fun e => (by cases e)⟩
          dsimp only at h
          show (A sd' μ2).sat _ _
          cases q3 : A sd' μ2 with
          | no => rw [q3] at h; exact h.elim
          | ex c fs μ3 => rw [q3] at h; exact h.elim
          | ok r μ3 =>
            rw [q3] at h
            dsimp only at h
            cases q4 : r.tree with
            | none => rw [q4] at h; exact h.elim
            | some y => rw [q4] at h; exact tree_with q4 h
  · have h : (lcF L tg T A (wipeD sd vs) (ds.drop ds.length) acc μ).sat x k := h
    rw [List.drop_length, lcF] at h
    exact (sat_ite h).2
def fYes : FT := fun _ μ => .ok true μ
theorem fts_nil : QTs wd X [] (ofT fYes) := qts_nil
theorem fts_one {c : Expr} (h : QT wd X c (ofT T)) : QTs wd X [c] (ofT T) := qts_one h
theorem fe_lc {elt : Expr} {ifs : List Expr} {scope : Scope} {own : List (Str × Nat)} {t : Expr} {tg : Tg} (hc : X.calm = true) (hN : X.N.Nodup) (hi : QI wd X t iter (ofI It)) (ok : BlkOk X.N X.env.scope scope own)
    (hg : ∀ (s : Shared) (H : Hp) (C : Addr) (cl : List (Str × Addr)) (fp : List Addr), QG (X.blk s H scope (compEnvC scope cl C X.env) fp) t tg)
    (ht : ∀ (s : Shared) (H : Hp) (C : Addr) (cl : List (Str × Addr)) (fp : List Addr), QTs wd.calm (X.blk s H scope (compEnvC scope cl C X.env) fp) ifs (ofT T))
    (he : ∀ (s : Shared) (H : Hp) (C : Addr) (cl : List (Str × Addr)) (fp : List Addr), QE wd.calm (X.blk s H scope (compEnvC scope cl C X.env) fp) elt (ofE A))
    (hsub : ∀ i ∈ tg.slots, i ∈ own.map (·.2) := by decide) (hs : ∀ x, foldedSetIterable iter X.env x = pure x := by intro _; rfl) :
    QE wd X (.ListComp elt [⟨t, iter, ifs, 0⟩] scope pos) (ofE (fLc It tg T A (own.map (·.2)))) := (qe_lc hc hN hi ok hg ht he hsub hs).imp fun sd μ x k h => fLc_le h
theorem fs_setLc {i : Nat} {y : Str} {py spos : Pos} {elt : Expr} {ifs : List Expr} {scope : Scope} {own : List (Str × Nat)} {t : Expr} {tg : Tg} (hc : X.calm = true) (hN : X.N.Nodup) (hi : QI wd X t iter (ofI It)) (ok : BlkOk X.N X.env.scope scope own)
    (hg : ∀ (s : Shared) (H : Hp) (C : Addr) (cl : List (Str × Addr)) (fp : List Addr), QG (X.blk s H scope (compEnvC scope cl C X.env) fp) t tg)
    (ht : ∀ (s : Shared) (H : Hp) (C : Addr) (cl : List (Str × Addr)) (fp : List Addr), QTs wd.calm (X.blk s H scope (compEnvC scope cl C X.env) fp) ifs (ofT T))
    (he : ∀ (s : Shared) (H : Hp) (C : Addr) (cl : List (Str × Addr)) (fp : List Addr), QE wd.calm (X.blk s H scope (compEnvC scope cl C X.env) fp) elt (ofE A))
    (hsw : swapsWith (.ListComp elt [⟨t, iter, ifs, 0⟩] scope pos) (some (.Name y py)) spos.line X.env = pure true)
    (hy : X.N[i]? = some y := by rfl) (hyl : X.env.scope.names.lookup y = some .local := by rfl) (hsub : ∀ i ∈ tg.slots, i ∈ own.map (·.2) := by decide) (hs : ∀ x, foldedSetIterable iter X.env x = pure x := by intro _; rfl) :
    QS wd X (.Assign [.Name y py] (.ListComp elt [⟨t, iter, ifs, 0⟩] scope pos) spos) (ofS (sSet (.n i) (fLc It tg T A (own.map (·.2))))) := (qs_setLc hc hN hi ok hg ht he hsw hy hyl hsub hs).imp fun E sd μ h => by
  have h2 : wSet (.n i) (ofE (fLc It tg T A (own.map (·.2)))) E sd μ := sSet_le h
  exact fLc_le h2
theorem fs_setLcO {i : Nat} {y : Str} {py spos : Pos} {elt : Expr} {ifs : List Expr} {scope : Scope} {own : List (Str × Nat)} {t : Expr} {tg : Tg} (hc : X.calm = true) (hN : X.N.Nodup) (hi : QI wd X t iter (ofI It)) (ok : BlkOk X.N X.env.scope scope own)
    (hg : ∀ (s : Shared) (H : Hp) (C : Addr) (cl : List (Str × Addr)) (fp : List Addr), QG (X.blk s H scope (compEnvC scope cl C X.env) fp) t tg)
    (ht : ∀ (s : Shared) (H : Hp) (C : Addr) (cl : List (Str × Addr)) (fp : List Addr), QTs wd.calm (X.blk s H scope (compEnvC scope cl C X.env) fp) ifs (ofT T))
    (he : ∀ (s : Shared) (H : Hp) (C : Addr) (cl : List (Str × Addr)) (fp : List Addr), QE wd.calm (X.blk s H scope (compEnvC scope cl C X.env) fp) elt (ofE A))
    (hsw : swapsWith (.ListComp elt [⟨t, iter, ifs, 0⟩] scope pos) (some (.Name y py)) spos.line X.env = pure true)
    (hy : X.N[i]? = some y := by rfl) (hyl : X.env.scope.names.lookup y = some .local := by rfl) (hsub : ∀ i ∈ tg.slots, i ∈ own.map (·.2) := by decide) (hs : ∀ x, foldedSetIterable iter X.env x = pure x := by intro _; rfl) :
    QS wd X (.Assign [.Name y py] (.ListComp elt [⟨t, iter, ifs, 0⟩] scope pos) spos) (ofS (sSetO i (fLc It tg T A (own.map (·.2))))) := (qs_setLcO hc hN hi ok hg ht he hsw hy hyl hsub hs).imp fun E sd μ h => by
  have h2 : wSetO i (ofE (fLc It tg T A (own.map (·.2)))) E sd μ := sSetO_le h
  exact fLc_le h2
/-! ### the store -/
def newOf (r : R) : Option D := match r with
  | .new c => some c
  | _ => none
@[simp] theorem newOf_new {c : D} : newOf (.new c) = some c := rfl
theorem newOf_eq {r : R} {c : D} (h : newOf r = some c) : r = .new c := by
  unfold newOf at h
  split at h
  · cases h; rfl
  · cases h
def refOf (r : R) : Option Nat := match r with
  | .d (.ref n) => some n
  | _ => none
@[simp] theorem refOf_ref {n : Nat} : refOf (.d (.ref n)) = some n := rfl
theorem refOf_eq {r : R} {n : Nat} (h : refOf r = some n) : r = .d (.ref n) := by
  unfold refOf at h
  split at h
  · cases h; rfl
  · cases h
def boxL (n : Nat) (μ : Mu) : Option (List D) := match μ[n]? with
  | some (.box (.lst ds)) => some ds
  | _ => none
theorem boxL_eq {n : Nat} {μ : Mu} {ds : List D} (h : boxL n μ = some ds) : μ[n]? = some (.box (.lst ds)) := by
  unfold boxL at h
  split at h
  · rename_i q; cases h; exact q
  · cases h
theorem boxL_of {n : Nat} {μ : Mu} {ds : List D} (h : μ[n]? = some (.box (.lst ds))) : boxL n μ = some ds := by unfold boxL; rw [h]
def fNode (A : FE) : FE := fun sd μ => (A sd μ).bind fun r μ1 => (Out.of (newOf r) μ1).bind fun c μ1 => .ok (.d (.ref μ1.length)) (μ1 ++ [.box c])
theorem fe_node (h : QE wd X e (ofE A)) : QE wd X e (ofE (fNode A)) := (qe_node h).imp fun sd μ x k h => sat_mono (sat_bind h) fun r μ1 h => by
  obtain ⟨c, e, q⟩ := sat_of (sat_bind h)
  cases newOf_eq e
  exact q
def fSee (f : Bool → Bool) (A B : FE) : FE := fun sd μ => (A sd μ).bind fun r1 μ1 => (B sd μ1).bind fun r2 μ2 => Out.of (foEq f (see2 μ2 (vw μ2 sd r1)) (see2 μ2 (vw μ2 sd r2))) μ2
theorem fSee_le {f : Bool → Bool} {sd : SD} {μ : Mu} {x : XT} {k : R → Mu → Prop} (h : ofE (fSee f A B) sd μ x k) : wSee f (ofE A) (ofE B) sd μ x k := sat_mono (sat_bind h) fun r1 μ1 h => sat_mono (sat_bind h) fun r2 μ2 h => by
  obtain ⟨r, e, q⟩ := sat_of h
  unfold foEq at e
  split at e
  · rename_i hh; cases e; exact ⟨okB_ok _ _ hh.1, okB_ok _ _ hh.2, q⟩
  · cases e
theorem fe_seeEq (hu : X.A.units + 64 < cLine) (ha : QE wd X a (ofE A)) (hb : QE wd X b (ofE B)) (hm : behindInMarks .Eq b = false := by rfl) : QE wd X (.Compare a [.Eq] [b] pos) (ofE (fSee (fun b => b) A B)) := (qe_seeEq hu ha hb hm).imp fun sd μ x k h => fSee_le h
theorem fe_seeNe (hu : X.A.units + 64 < cLine) (ha : QE wd X a (ofE A)) (hb : QE wd X b (ofE B)) (hm : behindInMarks .NotEq b = false := by rfl) : QE wd X (.Compare a [.NotEq] [b] pos) (ofE (fSee (fun b => !b) A B)) := (qe_seeNe hu ha hb hm).imp fun sd μ x k h => fSee_le h
theorem ft_seeEq (hu : X.A.units + 64 < cLine) (ha : QE wd X a (ofE A)) (hb : QE wd X b (ofE B)) (hm : behindInMarks .Eq b = false := by rfl) : QT wd X (.Compare a [.Eq] [b] pos) (ofT (fTst (fSee (fun b => b) A B))) := (qt_seeEq hu ha hb hm).imp fun sd μ x k h => by
  have h2 : wTst (ofE (fSee (fun b => b) A B)) sd μ x k := fTst_le h
  exact fSee_le h2
theorem ft_seeNe (hu : X.A.units + 64 < cLine) (ha : QE wd X a (ofE A)) (hb : QE wd X b (ofE B)) (hm : behindInMarks .NotEq b = false := by rfl) : QT wd X (.Compare a [.NotEq] [b] pos) (ofT (fTst (fSee (fun b => !b) A B))) := (qt_seeNe hu ha hb hm).imp fun sd μ x k h => by
  have h2 : wTst (ofE (fSee (fun b => !b) A B)) sd μ x k := fTst_le h
  exact fSee_le h2
def sAppM (O A : FE) : FS := fun sd μ => thenS (O sd μ) sd fun r μ1 => thenS (Out.of (refOf r) μ1) sd fun n μ1 => thenS (Out.of (boxL n μ1) μ1) sd fun _ μ1 => thenS ((A sd μ1).bind fun r μ' => Out.of r.tree μ') sd fun y μ2 => thenS (Out.of (boxL n μ2) μ2) sd fun ds μ2 => if ds.length < sizeLine then .nx sd (μ2.set n (.box (.lst (ds ++ [y])))) else .no
theorem sat_thenOf {α : Type} {o : Option α} {sd : SD} {μ : Mu} {f : α → Mu → OS} {E : TEn} (h : (thenS (Out.of o μ) sd f).sat E) : ∃ a, o = some a ∧ (f a μ).sat E := sat_of (sat_thenS h)
theorem sAppM_le {E : TEn} {sd : SD} {μ : Mu} (h : ofS (sAppM O A) E sd μ) : wAppM (ofE O) (ofE A) E sd μ := sat_mono (sat_thenS h) fun r μ1 h => by
  obtain ⟨n, e, h0⟩ := sat_thenOf h
  cases refOf_eq e
  clear h
  obtain ⟨ds0, e0, h⟩ := sat_thenOf h0
  refine ⟨ds0, boxL_eq e0, ?_⟩
  refine sat_mono (sat_bind (sat_thenS h)) fun r2 μ2 h => ?_
  obtain ⟨y, e, h⟩ := sat_of h
  refine tree_with e ?_
  obtain ⟨ds, e1, h⟩ := sat_thenOf h
  obtain ⟨hl, h⟩ := sat_iteS h
  exact ⟨ds, boxL_eq e1, hl, h⟩
theorem fs_appM (ho : QE wd X o (ofE O)) (he : QE wd X e (ofE A)) (hst : starEach [e] X.env = (false, eval e X.env) :: starEach [] X.env := by rfl)
    (hbase : attributeBase o "append" X.env (eval o X.env) = eval o X.env := by rfl)
    (hfew : ((backTo cpos (starEach [e] X.env)).all (fun x => !x.1) && (backToKw cpos (keywordEach [] X.env)).all (fun x => x.1.isSome)
      && decide ([e].length + ([] : List Keyword).length + (if ([] : List Keyword).isEmpty then 0 else 1) < 30)) = true := by rfl)
    (hline : (apos.endLine == cpos.line) = true := by rfl) (hplain : (backTo cpos (starEach [] X.env)).any (·.1) = false := by rfl) (hs : swapsWith (.Call (.Attribute o "append" apos) [e] [] cpos) none pos.line X.env = pure false := by rfl) :
    QS wd X (.Expr (.Call (.Attribute o "append" apos) [e] [] cpos) pos) (ofS (sAppM O A)) := (qs_appM ho he hst hbase hfew hline hplain hs).imp fun E sd μ h => sAppM_le h
def sClrM (O : FE) : FS := fun sd μ => thenS (O sd μ) sd fun r μ1 => thenS (Out.of (refOf r) μ1) sd fun n μ1 => thenS (Out.of (boxL n μ1) μ1) sd fun _ μ1 => .nx sd (μ1.set n (.box (.lst [])))
theorem sClrM_le {E : TEn} {sd : SD} {μ : Mu} (h : ofS (sClrM O) E sd μ) : wClrM (ofE O) E sd μ := sat_mono (sat_thenS h) fun r μ1 h => by
  obtain ⟨n, e, h0⟩ := sat_thenOf h
  cases refOf_eq e
  clear h
  obtain ⟨ds0, e0, h⟩ := sat_thenOf h0
  exact ⟨ds0, boxL_eq e0, h⟩
theorem fs_clrM (ho : QE wd X o (ofE O)) (hbase : attributeBase o "clear" X.env (eval o X.env) = eval o X.env := by rfl) (hline : (apos.endLine == cpos.line) = true := by rfl) (hs : swapsWith (.Call (.Attribute o "clear" apos) [] [] cpos) none pos.line X.env = pure false := by rfl) :
    QS wd X (.Expr (.Call (.Attribute o "clear" apos) [] [] cpos) pos) (ofS (sClrM O)) := (qs_clrM ho hbase hline hs).imp fun E sd μ h => sClrM_le h
def fPopM (O I : FE) : FE := fun sd μ => (O sd μ).bind fun r μ1 => (Out.of (refOf r) μ1).bind fun n μ1 => (Out.of (boxL n μ1) μ1).bind fun _ μ1 => ((I sd μ1).bind fun r μ' => Out.of (iOf r) μ').bind fun i μ2 => (Out.of (boxL n μ2) μ2).bind fun ds μ2 => if Pp6 i then (match seqIndex? i ds.length with
  | some j => (match ds[j]? with
    | some d => .ok (.d d) (μ2.set n (.box (.lst (ds.eraseIdx j))))
    | none => .no)
  | none => .no) else .no
theorem fPopM_le {sd : SD} {μ : Mu} {x : XT} {k : R → Mu → Prop} (h : ofE (fPopM O I) sd μ x k) : wPopM (ofE O) (ofE I) sd μ x k := sat_mono (sat_bind h) fun r μ1 h => by
  obtain ⟨n, e, h0⟩ := sat_of (sat_bind h)
  cases refOf_eq e
  clear h
  obtain ⟨ds0, e0, h1⟩ := sat_of (sat_bind h0)
  refine ⟨ds0, boxL_eq e0, ?_⟩
  refine sat_mono (sat_bind (sat_bind h1)) fun r2 μ2 h2 => ?_
  obtain ⟨i, e, h3⟩ := sat_of h2
  cases iOf_eq e
  clear h2
  obtain ⟨ds, e1, h4⟩ := sat_of (sat_bind h3)
  obtain ⟨⟨b1, b2⟩, h⟩ := sat_ite h4
  cases q : seqIndex? i ds.length with
  | none => rw [q] at h; exact h.elim
  | some j =>
    rw [q] at h
    dsimp only at h
    cases q2 : ds[j]? with
    | none => rw [q2] at h; exact h.elim
    | some d => rw [q2] at h; exact ⟨b1, b2, ds, j, d, boxL_eq e1, q, q2, h⟩
theorem fe_popM (ho : QE wd X o (ofE O)) (he : QE wd X e (ofE I)) (hst : starEach [e] X.env = (false, eval e X.env) :: starEach [] X.env := by rfl)
    (hbase : attributeBase o "pop" X.env (eval o X.env) = eval o X.env := by rfl)
    (hfew : ((backTo cpos (starEach [e] X.env)).all (fun x => !x.1) && (backToKw cpos (keywordEach [] X.env)).all (fun x => x.1.isSome)
      && decide ([e].length + ([] : List Keyword).length + (if ([] : List Keyword).isEmpty then 0 else 1) < 30)) = true := by rfl)
    (hline : (apos.endLine == cpos.line) = true := by rfl) (hplain : (backTo cpos (starEach [] X.env)).any (·.1) = false := by rfl) :
    QE wd X (.Call (.Attribute o "pop" apos) [e] [] cpos) (ofE (fPopM O I)) := (qe_popM ho he hst hbase hfew hline hplain).imp fun sd μ x k h => fPopM_le h
def sPutM (O I A : FE) : FS := fun sd μ => thenS ((A sd μ).bind fun r μ' => Out.of r.tree μ') sd fun y μ1 => thenS ((O sd μ1).bind fun r μ' => Out.of (refOf r) μ') sd fun n μ2 => thenS ((I sd μ2).bind fun r μ' => Out.of (iOf r) μ') sd fun i μ3 => thenS (Out.of (boxL n μ3) μ3) sd fun ds μ3 => osOf ((ixN ds.length i).map fun j => .nx sd (μ3.set n (.box (.lst (ds.set j y)))))
theorem sPutM_le {E : TEn} {sd : SD} {μ : Mu} (h : ofS (sPutM O I A) E sd μ) : wPutM (ofE O) (ofE I) (ofE A) E sd μ := by
  refine sat_mono (sat_bind (sat_thenS h)) fun r μ1 h => ?_
  obtain ⟨y, e, h⟩ := sat_of h
  refine tree_with e (sat_mono (sat_bind (sat_thenS h)) fun r2 μ2 h => ?_)
  obtain ⟨n, e, h0⟩ := sat_of h
  cases refOf_eq e
  clear h
  refine sat_mono (sat_bind (sat_thenS h0)) fun r3 μ3 h1 => ?_
  obtain ⟨i, e, h2⟩ := sat_of h1
  cases iOf_eq e
  clear h1
  obtain ⟨ds, e1, h⟩ := sat_thenOf h2
  show ∃ ds j, μ3[n]? = some (.box (.lst ds)) ∧ ixN ds.length i = some j ∧ E.nx sd (μ3.set n (.box (.lst (ds.set j y))))
  cases q : ixN ds.length i with
  | none => rw [q] at h; exact h.elim
  | some j => rw [q] at h; exact ⟨ds, j, boxL_eq e1, q, h⟩
theorem fs_putM {ei : Expr} {tpos : Pos} (ho : QE wd X o (ofE O)) (hi : QE wd X ei (ofE I)) (he : QE wd X e (ofE A))
    (ha : ∀ v, assign (.Subscript o ei tpos) X.env v = (do
      let ov ← holding [v] (eval o X.env)
      let iv ← holding [v, ov] (eval ei X.env)
      standAt tpos
      holding [v, ov, iv] (setItem ov iv v)
      release [v, ov, iv] []) := by intro _; rfl)
    (hs : swapsWithSole [.Subscript o ei tpos] e pos.line X.env = pure false := by rfl) (hw : swappedStores [.Subscript o ei tpos] e X.env = pure none := by rfl)
    (h1 : (assignEach [.Subscript o ei tpos] X.env).map (·.2) = [assign (.Subscript o ei tpos) X.env] := by rfl) :
    QS wd X (.Assign [.Subscript o ei tpos] e pos) (ofS (sPutM O I A)) := (qs_putM ho hi he ha hs hw h1).imp fun E sd μ h => sPutM_le h
def sPopSet (i : Nat) (tg : Tg) : FS := fun sd μ => thenL sd i fun ds => osOf ((ds[ds.length - 1]?).bind fun d => (tg.bf d (sd.set i (some (.own (.lst ds.dropLast))))).map fun sd' => .nx sd' μ)
theorem sPopSet_le {i : Nat} {tg : Tg} {E : TEn} {sd : SD} {μ : Mu} (h : ofS (sPopSet i tg) E sd μ) : wPopSet i tg E sd μ := by
  obtain ⟨ds, q, h⟩ := sat_thenL h
  unfold wPopSet
  rw [q]
  show ∃ d, ds[ds.length - 1]? = some d ∧ tg.bind d (sd.set i (some (.own (.lst ds.dropLast)))) fun sd' => E.nx sd' μ
  cases q2 : ds[ds.length - 1]? with
  | none => rw [q2] at h; exact h.elim
  | some d =>
    rw [q2] at h
    refine ⟨d, rfl, ?_⟩
    cases q3 : tg.bf d (sd.set i (some (.own (.lst ds.dropLast)))) with
    | none => simp only [Option.bind_some, q3] at h; exact h.elim
    | some sd' => simp only [Option.bind_some, q3] at h; exact bf_ok q3 h
theorem fs_popSet {i : Nat} {t : Expr} {tg : Tg} (hg : QG X t tg) (hN : X.N[i]? = some x := by rfl) (hv : Vis X.env.scope x := by first | exact Or.inl rfl | exact Or.inr (Or.inl rfl) | exact Or.inr (Or.inr rfl)) (hd : (x == ("__debug__" : Str)) = false := by decide)
    (hcd : (x == ("__classdict__" : Str)) = false := by decide) (hbase : attributeBase (.Name x p) "pop" X.env (eval (.Name x p) X.env) = eval (.Name x p) X.env := by rfl) (hline : (apos.endLine == cpos.line) = true := by rfl)
    (hs : swapsWithSole [t] (.Call (.Attribute (.Name x p) "pop" apos) [] [] cpos) pos.line X.env = pure false := by rfl) (hw : swappedStores [t] (.Call (.Attribute (.Name x p) "pop" apos) [] [] cpos) X.env = pure none := by rfl)
    (h1 : (assignEach [t] X.env).map (·.2) = [assign t X.env] := by rfl) : QS wd X (.Assign [t] (.Call (.Attribute (.Name x p) "pop" apos) [] [] cpos) pos) (ofS (sPopSet i tg)) := (qs_popSet hg hN hv hd hcd hbase hline hs hw h1).imp fun E sd μ h => sPopSet_le h
/-! the exception in hand -/
def fIsE (i : Nat) (isx : Nat → Option Bool) : FE := fun sd μ => match sd[i]? with
  | some (some (.exc c _)) => Out.of ((isx c).map fun b => .d (.bl b)) μ
  | _ => .no
theorem fIsE_le {i : Nat} {isx : Nat → Option Bool} {sd : SD} {μ : Mu} {x : XT} {k : R → Mu → Prop} (h : ofE (fIsE i isx) sd μ x k) : wIsE i isx sd μ x k := by
  unfold ofE fIsE at h
  unfold wIsE
  generalize sd[i]? = z at h ⊢
  match z, h with
  | some (some (.exc c _)), h =>
    obtain ⟨r, e, q⟩ := sat_of h
    obtain ⟨b, e2, rfl⟩ := Option.map_eq_some_iff.mp e
    exact ⟨b, e2, q⟩
  | some (some (.own _)), h => exact h.elim
  | some (some (.fz _)), h => exact h.elim
  | some none, h => exact h.elim
  | none, h => exact h.elim
theorem fe_isE {a : Addr} {oe : Obj} {cls : Value} {d : Option Addr} {pn : List (Addr × Obj)} {xi T : Str} {p p1 p2 : Pos} {tV : V} {tv : Value} {isx : Nat → Option Bool} {i : Nat} (hz : Zc cls d oe) (hf : ∃ vs, oe.data = .fields vs) (hT : IsxT X.K wd.cl tv isx)
    (hm : X.mg xi = none) (heT : PE (X.suite a ((a, oe) :: pn)) (.Name T p2) (tC tV)) (hr : ∀ u, RelV tV u → u = tv)
    (hN : X.N[i]? = some x := by rfl) (hv : Vis X.env.scope x := by first | exact Or.inl rfl | exact Or.inr (Or.inl rfl) | exact Or.inr (Or.inr rfl)) (hd : (x == ("__debug__" : Str)) = false := by decide) (hcd : (x == ("__classdict__" : Str)) = false := by decide)
    (hg : Gl X xi := by rfl) (hvI : bootBuiltins xi = some (.builtin "isinstance") := by decide +kernel) (hn : xi ≠ "__name__" := by decide) (hdb : (xi == ("__debug__" : Str)) = false := by decide)
    (he1 : starEach [.Name x p1, .Name T p2] X.env = (false, eval (.Name x p1) X.env) :: starEach [.Name T p2] X.env := by rfl) (he2 : starEach [.Name T p2] X.env = (false, eval (.Name T p2) X.env) :: starEach [] X.env := by rfl)
    (hpl : (backTo pos (starEach [.Name T p2] X.env)).any (·.1) = false := by rfl) :
    QE ⟨wd.cl, wd.W, some (a, cls, d), wd.fp⟩ (X.suite a ((a, oe) :: pn)) (.Call (.Name xi p) [.Name x p1, .Name T p2] [] pos) (ofE (fIsE i isx)) := (qe_isE (i := i) hz hf hT hm heT hr hN hv hd hcd hg hvI hn hdb he1 he2 hpl).imp fun sd μ x k h => fIsE_le h
def fXf (i c f : Nat) : FE := fun sd μ => match sd[i]? with
  | some (some (.exc c' fs)) => if c' = c then Out.of ((fs.lookup f).map R.d) μ else .no
  | _ => .no
theorem fXf_le {i c f : Nat} {sd : SD} {μ : Mu} {x : XT} {k : R → Mu → Prop} (h : ofE (fXf i c f) sd μ x k) : wXf i c f sd μ x k := by
  unfold ofE fXf at h
  unfold wXf
  generalize sd[i]? = z at h ⊢
  match z, h with
  | some (some (.exc c' fs)), h =>
    obtain ⟨hc, h⟩ := sat_ite h
    obtain ⟨r, e, q⟩ := sat_of h
    obtain ⟨b, e2, rfl⟩ := Option.map_eq_some_iff.mp e
    exact ⟨hc, b, e2, q⟩
  | some (some (.own _)), h => exact h.elim
  | some (some (.fz _)), h => exact h.elim
  | some none, h => exact h.elim
  | none, h => exact h.elim
theorem fe_xf {a C : Addr} {oe : Obj} {cls : Value} {d : Option Addr} {pn : List (Addr × Obj)} {p1 : Pos} {f c i : Nat} {nf : Str} (hz : Zc cls d oe) (hf : ∃ vs, oe.data = .fields vs) (hc : wd.cl c = some C) (T : XfC X.K C) (hno : PySem.W.findIn X.K (.ref C) nf = some none)
    (hN : X.N[i]? = some x := by rfl) (hv : Vis X.env.scope x := by first | exact Or.inl rfl | exact Or.inr (Or.inl rfl) | exact Or.inr (Or.inr rfl)) (hd : (x == ("__debug__" : Str)) = false := by decide) (hcd : (x == ("__classdict__" : Str)) = false := by decide)
    (hf3 : f < 32 := by decide) (hn : fnm f = nf := by rfl) (hb : attributeBase (.Name x p1) nf X.env (eval (.Name x p1) X.env) = eval (.Name x p1) X.env := by rfl) :
    QE ⟨wd.cl, wd.W, some (a, cls, d), wd.fp⟩ (X.suite a ((a, oe) :: pn)) (.Attribute (.Name x p1) nf pos) (ofE (fXf i c f)) := (qe_xf (i := i) hz hf hc T hno hN hv hd hcd hf3 hn hb).imp fun sd μ x k h => fXf_le h
/-! ### a def -/
def runF (n : Nat) (S : FS) : FF := fun ds μ => match S (startD n ds) μ with
  | .nx _ μ' => .ok (.d .non) μ'
  | .rt r μ' => .ok r μ'
  | .ex c fs _ μ' => .ex c fs μ'
  | _ => .no
theorem runF_le {n : Nat} {S : FS} {ds : List D} {μ : Mu} {x : XT} {k : R → Mu → Prop} (h : ofF (runF n S) ds μ x k) : run n (ofS S) ds μ x k := by
  have h : (runF n S ds μ).sat x k := h
  unfold runF at h
  show (S (startD n ds) μ).sat _
  cases q : S (startD n ds) μ <;> rw [q] at h <;> exact h
theorem spT_imp {K : PySem.W.Frag} {cl : Cl} {n : Nat} {F F' : TSp} (q : ∀ ds μ x k, F' ds μ x k → F ds μ x k) {vs : List V} {H : Hp} {Q : VK} {E : XK} (h : spT K cl n F' vs H Q E) : spT K cl n F vs H Q E :=
  let ⟨G, μ, ds, x, k, h1, h2, h3, h4, h5, h6⟩ := h
  ⟨G, μ, ds, x, k, h1, h2, h3, q _ _ _ _ h4, h5, h6⟩
theorem OkF.imp {P : Program} {w : World} {K : PySem.W.Frag} {mg : Str → Option Value} {base : Heap} {cl : Cl} {k : Nat} {f : Addr} {ps : List Str} {F F' : TSp} (h : OkF P w K mg base cl k f ps F) (q : ∀ ds μ x k, F' ds μ x k → F ds μ x k) : OkF P w K mg base cl k f ps F' :=
  let ⟨fd, a, b, c⟩ := h
  ⟨fd, a.imp fun vs H Q E h => spT_imp q h, b, c⟩
/-- a def of the text -/
theorem fnF {P : Program} {w : World} {K : PySem.W.Frag} {mg : Str → Option Value} {base : Heap} {cl : Cl} {x qual : Str} {st : Stmt} {f : Addr} {fd : FuncData} {N ps : List Str} {k : Nat} {S : FS} (F : Fun K x qual st f fd) (Sc : FnScope N ps (defScope st))
    (hbody : ∀ (cdv : Value) (A : Around) (outer : List Env) (s : Shared) (H : Hp) (E : XK), Room k (A.deeper (PyProof.Rows.envOfC qual (defScope st) s.heap.objs.size f cdv)) →
      QSs ⟨cl, fun cls d _ H => E cls d H, none, fp0⟩ (cxOf (L2.CX P w) P w K mg base N qual (defScope st) f cdv A outer s H E) (defBody st) (ofS S)) :
    FnOk P w K mg base (L2.CX P w) (k + 1) f fd ps (spT K cl ps.length (ofF (runF N.length S))) :=
  (fnT F Sc hbody).imp fun vs H Q E h => spT_imp (fun ds μ x k h => runF_le h) h
def HoldsF (F : FF) : Prop := ∀ ns : List Int, ns.length ≤ 63 → (∀ z ∈ ns, Builtin.Int.intBits z ≤ 1048576) → ∃ μ, F [.lst (ns.map D.int)] [] = .ok (.d (.bl true)) μ
theorem holds_of {F : FF} (h : HoldsF F) : Holds (ofF F) := fun ns h1 h2 => by
  obtain ⟨μ, e⟩ := h ns h1 h2
  show (F [.lst (ns.map D.int)] []).sat _ _
  rw [e]
  trivial
end
end
end TL
/-! TL: reckoning with functions -/
namespace TL
open PySem PySem.Spec L2
open Classical
noncomputable section
abbrev foEqq : FOp := foEq fun b => b
abbrev foNeq : FOp := foEq fun b => !b
abbrev foInn : FOp := foIn fun b => b
abbrev foNin : FOp := foIn fun b => !b
abbrev foIss : FOp := foIs fun b => b
abbrev foIsn : FOp := foIs fun b => !b
section
variable {sd : SD} {μ : Mu} {A B O I : FE} {T U : FT} {As : FA} {S S1 S2 : FS} {It : FI} {L H : FO} {f : FOp} {u : FUp} {d : D} {i n c : Nat} {tg : Tg}
@[simp] theorem fC_ap : fC d sd μ = .ok (.d d) μ := rfl
def rdV (o : Option (Option SV)) (i : Nat) (μ : Mu) : Out R := match o with
  | some (some (.fz d)) => .ok (.d d) μ
  | some (some (.own _)) => .ok (.at i) μ
  | _ => .no
@[simp] theorem rdV_fz : rdV (some (some (.fz d))) i μ = .ok (.d d) μ := rfl
@[simp] theorem rdV_own : rdV (some (some (.own d))) i μ = .ok (.at i) μ := rfl
@[simp] theorem fV_ap : fV i sd μ = rdV sd[i]? i μ := rfl
@[simp] theorem fBin_ap : fBin f A B sd μ = (A sd μ).bind fun r1 μ1 => (B sd μ1).bind fun r2 μ2 => Out.of (f (vw μ2 sd r1) (vw μ2 sd r2)) μ2 := rfl
@[simp] theorem fUn_ap : fUn u A sd μ = (A sd μ).bind fun r1 μ1 => Out.of (u (vw μ1 sd r1)) μ1 := rfl
@[simp] theorem fTst_ap : fTst A sd μ = (A sd μ).bind fun r μ' => Out.of (bOf r) μ' := rfl
@[simp] theorem fAnd_ap : fAnd T U sd μ = (T sd μ).bind fun b μ1 => if b = true then U sd μ1 else .ok false μ1 := rfl
@[simp] theorem fOr_ap : fOr T U sd μ = (T sd μ).bind fun b μ1 => if b = true then .ok true μ1 else U sd μ1 := rfl
@[simp] theorem fNot_ap : fNot T sd μ = (T sd μ).bind fun b μ1 => .ok (!b) μ1 := rfl
@[simp] theorem fAndV_ap : fAndV A B sd μ = ((A sd μ).bind fun r μ' => Out.of (bOf r) μ').bind fun b μ1 => if b = true then B sd μ1 else .ok (.d (.bl false)) μ1 := rfl
@[simp] theorem fOrV_ap : fOrV A B sd μ = ((A sd μ).bind fun r μ' => Out.of (bOf r) μ').bind fun b μ1 => if b = true then .ok (.d (.bl true)) μ1 else B sd μ1 := rfl
@[simp] theorem fIte_ap : fIte T A B sd μ = (T sd μ).bind fun b μ1 => if b = true then A sd μ1 else B sd μ1 := rfl
@[simp] theorem fNil_ap : fNil sd μ = .ok [] μ := rfl
@[simp] theorem fCons_ap : fCons A As sd μ = (A sd μ).bind fun r μ1 => (Out.of r.tree μ1).bind fun y μ1 => (As sd μ1).bind fun ys μ2 => .ok (y :: ys) μ2 := rfl
@[simp] theorem tree_d : R.tree (.d d) = some d := rfl
@[simp] theorem tree_new : R.tree (.new d) = some d := rfl
@[simp] theorem fConsV_ap : fConsV A As sd μ = (A sd μ).bind fun r μ1 => (As sd μ1).bind fun ys μ2 => .ok (vw μ2 sd r :: ys) μ2 := rfl
@[simp] theorem fTup_ap : fTup As sd μ = (As sd μ).bind fun ds μ1 => if ds.length ≤ sizeLine then .ok (.d (.tup ds)) μ1 else .no := rfl
@[simp] theorem fLst_ap : fLst As sd μ = (As sd μ).bind fun ds μ1 => if ds.length ≤ sizeLine then .ok (.new (.lst ds)) μ1 else .no := rfl
@[simp] theorem fNo_ap : fNo sd μ = .ok none μ := rfl
@[simp] theorem fPart_ap : fPart A sd μ = (A sd μ).bind fun r μ' => (Out.of (iOf r) μ').bind fun i μ' => .ok (some i) μ' := rfl
@[simp] theorem fSl_ap : fSl A L H sd μ = (A sd μ).bind fun r μ1 => (L sd μ1).bind fun lo μ2 => (H sd μ2).bind fun hi μ3 => Out.of (foSl (vw μ3 sd r) lo hi) μ3 := rfl
@[simp] theorem fFld_ap {cs : List Nat} : fFld cs n A sd μ = (A sd μ).bind fun r μ1 => Out.of (foFld cs n r μ1) μ1 := rfl
@[simp] theorem foFld_obj {cs : List Nat} {fs : List (Nat × D)} : foFld cs n (.d (.obj c fs)) μ = if cs.elem c = true then (fs.lookup n).map R.d else none := rfl
def fldN (cs : List Nat) (n : Nat) (o : Option Nd) : Option R := match o with
  | some (.ins c fs) => if cs.elem c = true then (fs.lookup n).map R.d else none
  | _ => none
@[simp] theorem foFld_ref {cs : List Nat} {a : Nat} : foFld cs n (.d (.ref a)) μ = fldN cs n μ[a]? := rfl
@[simp] theorem fldN_ins {cs : List Nat} {fs : List (Nat × D)} : fldN cs n (some (.ins c fs)) = if cs.elem c = true then (fs.lookup n).map R.d else none := rfl
def clsN (a : Nat) (o : Option Nd) : Option (Nat × D) := match o with
  | some (.ins c fs) => some (c, .ref a)
  | _ => none
@[simp] theorem clsOf_ref' {a : Nat} : clsOf (.d (.ref a)) μ = clsN a μ[a]? := rfl
@[simp] theorem clsN_ins {a : Nat} {fs : List (Nat × D)} : clsN a (some (.ins c fs)) = some (c, .ref a) := rfl
def boxN (o : Option Nd) : Option (List D) := match o with
  | some (.box (.lst ds)) => some ds
  | _ => none
@[simp] theorem boxL_ap {a : Nat} : boxL a μ = boxN μ[a]? := rfl
@[simp] theorem boxN_lst {ds : List D} : boxN (some (.box (.lst ds))) = some ds := rfl
def vwN (a : Nat) (o : Option Nd) : D := match o with
  | some (.box c) => c
  | _ => .ref a
@[simp] theorem vw_ref' {a : Nat} : vw μ sd (.d (.ref a)) = vwN a μ[a]? := rfl
@[simp] theorem vwN_box {a : Nat} : vwN a (some (.box d)) = d := rfl
@[simp] theorem vwN_ins {a : Nat} {fs : List (Nat × D)} : vwN a (some (.ins c fs)) = .ref a := rfl
def itN (a : Nat) (o : Option Nd) : Option (List D × Lk) := match o with
  | some (.box (.lst ds)) => some (ds, some (a, ds))
  | _ => none
@[simp] theorem itOf_ref {a : Nat} : itOf (.d (.ref a)) μ = itN a μ[a]? := rfl
@[simp] theorem itN_box {a : Nat} {ds : List D} : itN a (some (.box (.lst ds))) = some (ds, some (a, ds)) := rfl
@[simp] theorem fB_ap {b : FBp} : fB b As sd μ = (As sd μ).bind fun ds μ1 => Out.of (b ds) μ1 := rfl
@[simp] theorem fCall_ap {F : FF} : fCall n F As sd μ = (As sd μ).bind fun ds μ1 => if ds.length = n then F ds μ1 else .no := rfl
@[simp] theorem fMeth_ap {cs : List Nat} {Fs : Nat → FF} : fMeth cs n Fs O As sd μ = (O sd μ).bind fun r μ1 => (Out.of (clsOf r μ1) μ1).bind fun cd μ1 => if cs.elem cd.1 = true then (As sd μ1).bind fun ds μ2 => if ds.length = n then Fs cd.1 (cd.2 :: ds) μ2 else .no else .no := rfl
@[simp] theorem fMake_ap {F : FF} {dd : List D} : fMake c n F dd As sd μ = (As sd μ).bind fun ds μ1 => if (ds ++ dd).length = n then (F (.ref μ1.length :: (ds ++ dd)) (μ1 ++ [.ins c []])).bind fun r μ2 => (Out.of (nonOf r) μ2).bind fun _ μ2 => .ok (.d (.ref μ1.length)) μ2 else .no := rfl
/-- a thing made that nobody changes any more -/
def mkF (c n : Nat) (F : FF) (dd ds : List D) (μ1 : Mu) : Out R := if (ds ++ dd).length = n then cutE μ1.length μ1 c (F (.ref μ1.length :: (ds ++ dd)) (μ1 ++ [.ins c []])) else .no
@[simp] theorem fMakeF_ap {F : FF} {dd : List D} : fMakeF c n F dd As sd μ = (As sd μ).bind (mkF c n F dd) := rfl
@[simp] theorem fLc_ap {vs : List Nat} : fLc It tg T A vs sd μ = (It sd μ).bind fun p μ1 => if p.1.length ≤ sizeLine then lcF p.2 tg T A (wipeD sd vs) p.1 [] μ1 else .no := rfl
@[simp] theorem wipeD_nil : wipeD sd [] = sd := rfl
@[simp] theorem wipeD_cons {v : Nat} {vs : List Nat} : wipeD sd (v :: vs) = (wipeD sd vs).set v none := rfl
@[simp] theorem fYes_ap : fYes sd μ = .ok true μ := rfl
@[simp] theorem fNode_ap : fNode A sd μ = (A sd μ).bind fun r μ1 => (Out.of (newOf r) μ1).bind fun c μ1 => .ok (.d (.ref μ1.length)) (μ1 ++ [.box c]) := rfl
@[simp] theorem fSee_ap {g : Bool → Bool} : fSee g A B sd μ = (A sd μ).bind fun r1 μ1 => (B sd μ1).bind fun r2 μ2 => Out.of (foEq g (see2 μ2 (vw μ2 sd r1)) (see2 μ2 (vw μ2 sd r2))) μ2 := rfl
@[simp] theorem fPopM_ap : fPopM O I sd μ = (O sd μ).bind fun r μ1 => (Out.of (refOf r) μ1).bind fun n μ1 => (Out.of (boxL n μ1) μ1).bind fun _ μ1 => ((I sd μ1).bind fun r μ' => Out.of (iOf r) μ').bind fun i μ2 => (Out.of (boxL n μ2) μ2).bind fun ds μ2 => if Pp6 i then (match seqIndex? i ds.length with
  | some j => (match ds[j]? with
    | some d => .ok (.d d) (μ2.set n (.box (.lst (ds.eraseIdx j))))
    | none => .no)
  | none => .no) else .no := rfl
/-! branches -/
@[simp] theorem bind_ite {α β : Type} {p : Prop} [Decidable p] {x y : Out α} {k : α → Mu → Out β} : (if p then x else y).bind k = if p then x.bind k else y.bind k := by split <;> rfl
@[simp] theorem thenS_ite {α : Type} {p : Prop} [Decidable p] {x y : Out α} {k : α → Mu → OS} : thenS (if p then x else y) sd k = if p then thenS x sd k else thenS y sd k := by split <;> rfl
@[simp] theorem thenS_bind {α β : Type} {o : Out α} {g : α → Mu → Out β} {k : β → Mu → OS} : thenS (o.bind g) sd k = thenS o sd fun a μ => thenS (g a μ) sd k := by cases o <;> rfl
@[simp] theorem bind_bind {α β γ : Type} {o : Out α} {g : α → Mu → Out β} {k : β → Mu → Out γ} : (o.bind g).bind k = o.bind fun a μ => (g a μ).bind k := by cases o <;> rfl
/-! statements -/
@[simp] theorem sNext_ap : sNext sd μ = .nx sd μ := rfl
def seqK (o : OS) (S : FS) : OS := match o with
  | .nx sd μ => S sd μ
  | o => o
@[simp] theorem sSeq_ap : sSeq S1 S2 sd μ = seqK (S1 sd μ) S2 := rfl
@[simp] theorem seqK_nx : seqK (.nx sd μ) S = S sd μ := rfl
@[simp] theorem seqK_rt {r : R} : seqK (.rt r μ) S = .rt r μ := rfl
@[simp] theorem seqK_bk : seqK (.bk sd μ) S = .bk sd μ := rfl
@[simp] theorem seqK_ct : seqK (.ct sd μ) S = .ct sd μ := rfl
@[simp] theorem seqK_ex {fs : List (Nat × D)} : seqK (.ex c fs sd μ) S = .ex c fs sd μ := rfl
@[simp] theorem seqK_no : seqK .no S = .no := rfl
@[simp] theorem seqK_ite {p : Prop} [Decidable p] {x y : OS} : seqK (if p then x else y) S = if p then seqK x S else seqK y S := by split <;> rfl
@[simp] theorem sBreak_ap : sBreak sd μ = .bk sd μ := rfl
@[simp] theorem sCont_ap : sCont sd μ = .ct sd μ := rfl
@[simp] theorem sDrop_ap : sDrop A sd μ = thenS (A sd μ) sd fun _ μ' => .nx sd μ' := rfl
@[simp] theorem sRet_ap : sRet A sd μ = thenS (A sd μ) sd fun r μ' => osOf ((retV sd r).map fun r' => .rt r' μ') := rfl
theorem retV_at : retV sd (.at i) = (match sd[i]? with | some (some (.own c)) => some (.new c) | _ => none) := rfl
@[simp] theorem sRetN_ap : sRetN sd μ = .rt (.d .non) μ := rfl
@[simp] theorem sIf_ap : sIf T S1 S2 sd μ = thenS (T sd μ) sd fun b μ' => if b = true then S1 sd μ' else S2 sd μ' := rfl
@[simp] theorem sSet_ap : sSet tg A sd μ = thenS (A sd μ) sd (setK sd tg) := rfl
@[simp] theorem setK_d : setK sd tg (.d d) μ = osOf ((tg.bf d sd).map fun sd' => .nx sd' μ) := rfl
@[simp] theorem setK_new : setK sd tg (.new d) μ = osOf ((tg.bf d sd).map fun sd' => .nx sd' μ) := rfl
@[simp] theorem sSetO_ap : sSetO i A sd μ = thenS (A sd μ) sd (ownK sd i) := rfl
def frzK (o : Option (Option SV)) (sd : SD) (i : Nat) (S : FS) (μ : Mu) : OS := match o with
  | some (some (.own c)) => S (sd.set i (some (.fz c))) μ
  | _ => .no
@[simp] theorem sFrz_ap : sFrz i S sd μ = frzK sd[i]? sd i S μ := rfl
@[simp] theorem frzK_own : frzK (some (some (.own d))) sd i S μ = S (sd.set i (some (.fz d))) μ := rfl
theorem thenL_own {ds : List D} {k : List D → OS} (h : sd[i]? = some (some (.own (.lst ds)))) : thenL sd i k = k ds := by
  unfold thenL ownL
  rw [h]
def ownLo (o : Option (Option SV)) : Option (List D) := match o with
  | some (some (.own (.lst ds))) => some ds
  | _ => none
@[simp] theorem ownLo_own {ds : List D} : ownLo (some (some (.own (.lst ds)))) = some ds := rfl
def thenLo (o : Option (List D)) (k : List D → OS) : OS := match o with
  | some ds => k ds
  | none => .no
@[simp] theorem thenLo_some {ds : List D} {k : List D → OS} : thenLo (some ds) k = k ds := rfl
@[simp] theorem thenL_ap {k : List D → OS} : thenL sd i k = thenLo (ownLo sd[i]?) k := rfl
@[simp] theorem sApp_ap : sApp i A sd μ = thenL sd i fun ds => thenS ((A sd μ).bind fun r μ' => Out.of r.tree μ') sd fun y μ' => if ds.length < sizeLine then .nx (sd.set i (some (.own (.lst (ds ++ [y]))))) μ' else .no := rfl
@[simp] theorem sPut_ap : sPut i I A sd μ = thenL sd i fun ds => thenS ((A sd μ).bind fun r μ' => Out.of r.tree μ') sd fun y μ' => thenS ((I sd μ').bind fun r μ' => Out.of (iOf r) μ') sd fun k μ2 => osOf ((ixN ds.length k).map fun j => .nx (sd.set i (some (.own (.lst (ds.set j y))))) μ2) := rfl
def putFK (cs : List Nat) (f : Nat) (y : D) (sd : SD) (r2 : R) (μ2 : Mu) : OS := match r2 with
  | .d (.ref a) => (match μ2[a]? with
    | some (.ins c fs) => if cs.elem c = true ∧ fs.length < 1000 then .nx sd (μ2.set a (.ins c (fput f y fs))) else .no
    | _ => .no)
  | _ => .no
@[simp] theorem sPutF_ap {cs : List Nat} : sPutF cs n A O sd μ = thenS ((A sd μ).bind fun r μ' => Out.of r.tree μ') sd fun y μ1 => thenS (O sd μ1) sd (putFK cs n y sd) := rfl
def putN (cs : List Nat) (f : Nat) (y : D) (sd : SD) (a : Nat) (μ : Mu) (o : Option Nd) : OS := match o with
  | some (.ins c fs) => if cs.elem c = true ∧ fs.length < 1000 then .nx sd (μ.set a (.ins c (fput f y fs))) else .no
  | _ => .no
@[simp] theorem putFK_ref {cs : List Nat} {a : Nat} {y : D} : putFK cs n y sd (.d (.ref a)) μ = putN cs n y sd a μ μ[a]? := rfl
@[simp] theorem putN_ins {cs : List Nat} {a : Nat} {y : D} {fs : List (Nat × D)} : putN cs n y sd a μ (some (.ins c fs)) = if cs.elem c = true ∧ fs.length < 1000 then .nx sd (μ.set a (.ins c (fput n y fs))) else .no := rfl
@[simp] theorem sAppM_ap : sAppM O A sd μ = thenS (O sd μ) sd fun r μ1 => thenS (Out.of (refOf r) μ1) sd fun n μ1 => thenS (Out.of (boxL n μ1) μ1) sd fun _ μ1 => thenS ((A sd μ1).bind fun r μ' => Out.of r.tree μ') sd fun y μ2 => thenS (Out.of (boxL n μ2) μ2) sd fun ds μ2 => if ds.length < sizeLine then .nx sd (μ2.set n (.box (.lst (ds ++ [y])))) else .no := rfl
@[simp] theorem sClrM_ap : sClrM O sd μ = thenS (O sd μ) sd fun r μ1 => thenS (Out.of (refOf r) μ1) sd fun n μ1 => thenS (Out.of (boxL n μ1) μ1) sd fun _ μ1 => .nx sd (μ1.set n (.box (.lst []))) := rfl
@[simp] theorem sPutM_ap : sPutM O I A sd μ = thenS ((A sd μ).bind fun r μ' => Out.of r.tree μ') sd fun y μ1 => thenS ((O sd μ1).bind fun r μ' => Out.of (refOf r) μ') sd fun n μ2 => thenS ((I sd μ2).bind fun r μ' => Out.of (iOf r) μ') sd fun i μ3 => thenS (Out.of (boxL n μ3) μ3) sd fun ds μ3 => osOf ((ixN ds.length i).map fun j => .nx sd (μ3.set n (.box (.lst (ds.set j y))))) := rfl
@[simp] theorem sRaise_ap : sRaise c sd μ = .ex c [] sd μ := rfl
@[simp] theorem sRaise1_ap : sRaise1 c n A sd μ = thenS ((A sd μ).bind fun r μ' => Out.of r.tree μ') sd fun y μ' => .ex c [(n, y)] sd μ' := rfl
def tryK (exm : Nat → Option Bool) (S2 : FS) (o : OS) : OS := match o with
  | .ex c fs sd' μ' => (match exm c with
    | some true => calmS (fun z => z) (S2 sd' μ')
    | some false => .ex c fs sd' μ'
    | none => .no)
  | o => o
@[simp] theorem sTry_ap {exm : Nat → Option Bool} : sTry exm S1 S2 sd μ = tryK exm S2 (S1 sd μ) := rfl
@[simp] theorem tryK_nx {exm : Nat → Option Bool} : tryK exm S2 (.nx sd μ) = .nx sd μ := rfl
@[simp] theorem tryK_rt {exm : Nat → Option Bool} {r : R} : tryK exm S2 (.rt r μ) = .rt r μ := rfl
theorem tryK_ex {exm : Nat → Option Bool} {fs : List (Nat × D)} (h : exm c = some true) : tryK exm S2 (.ex c fs sd μ) = calmS (fun z => z) (S2 sd μ) := by
  show (match exm c with | some true => calmS (fun z => z) (S2 sd μ) | some false => .ex c fs sd μ | none => .no) = _
  rw [h]
def tryAK (exm : Nat → Option Bool) (i : Nat) (S2 : FS) (o : OS) : OS := match o with
  | .ex c fs sd' μ' => (match exm c with
    | some true => calmS (fun z => z.set i none) (S2 (sd'.set i (some (.exc c fs))) μ')
    | some false => .ex c fs sd' μ'
    | none => .no)
  | o => o
@[simp] theorem sTryAs_ap {exm : Nat → Option Bool} : sTryAs exm i S1 S2 sd μ = tryAK exm i S2 (S1 sd μ) := rfl
@[simp] theorem tryAK_nx {exm : Nat → Option Bool} : tryAK exm i S2 (.nx sd μ) = .nx sd μ := rfl
@[simp] theorem tryAK_rt {exm : Nat → Option Bool} {r : R} : tryAK exm i S2 (.rt r μ) = .rt r μ := rfl
theorem tryAK_ex {exm : Nat → Option Bool} {fs : List (Nat × D)} (h : exm c = some true) : tryAK exm i S2 (.ex c fs sd μ) = calmS (fun z => z.set i none) (S2 (sd.set i (some (.exc c fs))) μ) := by
  show (match exm c with | some true => calmS (fun z => z.set i none) (S2 (sd.set i (some (.exc c fs))) μ) | some false => .ex c fs sd μ | none => .no) = _
  rw [h]
@[simp] theorem calmS_nx {g : SD → SD} : calmS g (.nx sd μ) = if noExc (g sd) = true then .nx (g sd) μ else .no := rfl
@[simp] theorem calmS_rt {g : SD → SD} {r : R} : calmS g (.rt r μ) = .rt r μ := rfl
@[simp] theorem sFor_ap : sFor It tg S sd μ = thenS (It sd μ) sd fun p μ1 => forF p.2 tg S p.1 sd μ1 := rfl
@[simp] theorem lkOk_none : lkOk none μ = True := rfl
def forK (L : Lk) (tg : Tg) (S : FS) (ds : List D) (o : OS) : OS := match o with
  | .nx sd μ => forF L tg S ds sd μ
  | .ct sd μ => forF L tg S ds sd μ
  | .bk sd μ => .nx sd μ
  | o => o
theorem forF_nil : forF none tg S [] sd μ = .nx sd μ := by rw [forF]; exact if_pos trivial
theorem forF_cons {ds : List D} {sd' : SD} (h : tg.bf d sd = some sd') : forF none tg S (d :: ds) sd μ = forK none tg S ds (S sd' μ) := by
  rw [forF, if_pos (show lkOk none μ from trivial), h]
  rfl
@[simp] theorem forK_nx {L : Lk} {ds : List D} : forK L tg S ds (.nx sd μ) = forF L tg S ds sd μ := rfl
@[simp] theorem forK_ct {L : Lk} {ds : List D} : forK L tg S ds (.ct sd μ) = forF L tg S ds sd μ := rfl
@[simp] theorem forK_bk {L : Lk} {ds : List D} : forK L tg S ds (.bk sd μ) = .nx sd μ := rfl
@[simp] theorem forK_rt {L : Lk} {ds : List D} {r : R} : forK L tg S ds (.rt r μ) = .rt r μ := rfl
@[simp] theorem forK_ex {L : Lk} {ds : List D} {fs : List (Nat × D)} : forK L tg S ds (.ex c fs sd μ) = .ex c fs sd μ := rfl
@[simp] theorem forK_no {L : Lk} {ds : List D} : forK L tg S ds .no = .no := rfl
@[simp] theorem forK_ite {L : Lk} {ds : List D} {p : Prop} [Decidable p] {x y : OS} : forK L tg S ds (if p then x else y) = if p then forK L tg S ds x else forK L tg S ds y := by split <;> rfl
/-- the rest of a while behind a turn -/
def whK (T : FT) (S : FS) (o : OS) : OS := match o with
  | .nx sd μ => sWhile T S sd μ
  | .ct sd μ => sWhile T S sd μ
  | .bk sd μ => .nx sd μ
  | o => o
theorem while_eq : sWhile T S sd μ = thenS (T sd μ) sd fun b μ => if b = true then whK T S (S sd μ) else .nx sd μ := sWhile_eq T S sd μ
@[simp] theorem whK_nx : whK T S (.nx sd μ) = sWhile T S sd μ := rfl
@[simp] theorem whK_ct : whK T S (.ct sd μ) = sWhile T S sd μ := rfl
@[simp] theorem whK_bk : whK T S (.bk sd μ) = .nx sd μ := rfl
@[simp] theorem whK_rt {r : R} : whK T S (.rt r μ) = .rt r μ := rfl
@[simp] theorem whK_ex {fs : List (Nat × D)} : whK T S (.ex c fs sd μ) = .ex c fs sd μ := rfl
@[simp] theorem whK_ite {p : Prop} [Decidable p] {x y : OS} : whK T S (if p then x else y) = if p then whK T S x else whK T S y := by split <;> rfl
@[simp] theorem fiSeq_ap : fiSeq A sd μ = (A sd μ).bind fun r μ1 => Out.of (itOf r μ1) μ1 := rfl
@[simp] theorem itOf_lst {ds : List D} : itOf (.d (.lst ds)) μ = some (ds, none) := rfl
@[simp] theorem itOf_tup {ds : List D} : itOf (.d (.tup ds)) μ = some (ds, none) := rfl
@[simp] theorem itOf_new {ds : List D} : itOf (.new (.lst ds)) μ = some (ds, none) := rfl
@[simp] theorem fiRng1_ap : fiRng1 A sd μ = (A sd μ).bind fun r μ1 => (Out.of (iOf r) μ1).bind fun j μ1 => if Rg1 j then .ok (rngD 0 j.toNat, none) μ1 else .no := rfl
@[simp] theorem fiRng2_ap : fiRng2 A B sd μ = (A sd μ).bind fun r μ1 => (B sd μ1).bind fun r2 μ2 => (Out.of (iOf r) μ2).bind fun i μ2 => (Out.of (iOf r2) μ2).bind fun j μ2 => if Rg2 i j then .ok (rngD i (j - i).toNat, none) μ2 else .no := rfl
@[simp] theorem fiEnum_ap : fiEnum A sd μ = (A sd μ).bind fun r μ1 => (Out.of (lOf r) μ1).bind fun ds μ1 => .ok (enumD ds, none) μ1 := rfl
@[simp] theorem fiRev_ap : fiRev A sd μ = (A sd μ).bind fun r μ1 => (Out.of (lOf r) μ1).bind fun ds μ1 => .ok (ds.reverse, none) μ1 := rfl
@[simp] theorem sPopSet_ap : sPopSet i tg sd μ = thenL sd i fun ds => osOf ((ds[ds.length - 1]?).bind fun d => (tg.bf d (sd.set i (some (.own (.lst ds.dropLast))))).map fun sd' => .nx sd' μ) := rfl
@[simp] theorem setAll_nil {ds : List D} : setAll sd [] ds = sd := by cases ds <;> rfl
@[simp] theorem setAll_cons {is : List Nat} {ds : List D} : setAll sd (i :: is) (d :: ds) = setAll (sd.set i (some (.fz d))) is ds := rfl
@[simp] theorem osOf_ite {p : Prop} [Decidable p] {x y : Option OS} : osOf (if p then x else y) = if p then osOf x else osOf y := by split <;> rfl
theorem runF_ap {ds : List D} : runF n S ds μ = (match S (startD n ds) μ with
  | .nx _ μ' => .ok (.d .non) μ'
  | .rt r μ' => .ok r μ'
  | .ex c fs _ μ' => .ex c fs μ'
  | _ => .no) := rfl
def runK (o : OS) : Out R := match o with
  | .nx _ μ' => .ok (.d .non) μ'
  | .rt r μ' => .ok r μ'
  | .ex c fs _ μ' => .ex c fs μ'
  | _ => .no
theorem runF_eq {ds : List D} : runF n S ds μ = runK (S (startD n ds) μ) := rfl
@[simp] theorem runK_nx : runK (.nx sd μ) = .ok (.d .non) μ := rfl
@[simp] theorem runK_rt {r : R} : runK (.rt r μ) = .ok r μ := rfl
@[simp] theorem runK_ex {fs : List (Nat × D)} : runK (.ex c fs sd μ) = .ex c fs μ := rfl
@[simp] theorem runK_no : runK .no = .no := rfl
@[simp] theorem runK_ite {p : Prop} [Decidable p] {x y : OS} : runK (if p then x else y) = if p then runK x else runK y := by split <;> rfl
@[simp] theorem startD_nil : startD n [] = List.replicate n none := by simp [startD]
@[simp] theorem startD_cons {ds : List D} : startD (n + 1) (d :: ds) = some (.fz d) :: startD n ds := by simp [startD]
/-! views -/
@[simp] theorem vw_non : vw μ sd (.d .non) = .non := rfl
@[simp] theorem vw_bl {b : Bool} : vw μ sd (.d (.bl b)) = .bl b := rfl
@[simp] theorem vw_int {b : Int} : vw μ sd (.d (.int b)) = .int b := rfl
@[simp] theorem vw_str {b : Str} : vw μ sd (.d (.str b)) = .str b := rfl
@[simp] theorem vw_lst {b : List D} : vw μ sd (.d (.lst b)) = .lst b := rfl
@[simp] theorem vw_tup {b : List D} : vw μ sd (.d (.tup b)) = .tup b := rfl
@[simp] theorem vw_dic {t : Bool} {b : List (NestedKey × D)} : vw μ sd (.d (.dic t b)) = .dic t b := rfl
@[simp] theorem vw_obj {b : List (Nat × D)} : vw μ sd (.d (.obj c b)) = .obj c b := rfl
@[simp] theorem vw_new : vw μ sd (.new d) = d := rfl
def vwAt (o : Option (Option SV)) : D := match o with
  | some (some (.own c)) => c
  | _ => .non
@[simp] theorem vw_at : vw μ sd (.at i) = vwAt sd[i]? := rfl
@[simp] theorem vwAt_own : vwAt (some (some (.own d))) = d := rfl
def retAt (o : Option (Option SV)) : Option R := match o with
  | some (some (.own c)) => some (.new c)
  | _ => none
@[simp] theorem retV_at' : retV sd (.at i) = retAt sd[i]? := rfl
@[simp] theorem retAt_own : retAt (some (some (.own d))) = some (.new d) := rfl
/-! operators -/
variable {x y : Int} {b b' : Bool} {xs ys ds : List D} {C : Int → Int → Prop} {g : Int → Int → Int} {gb : Int → Int → Bool}
@[simp] theorem foSub_ap : foSub (.int x) (.int y) = some (.d (.int (x - y))) := if_pos trivial
@[simp] theorem foMod_ap : foMod (.int x) (.int y) = if 0 < y then some (.d (.int (x % y))) else none := by by_cases h : 0 < y <;> simp [foMod, foI, h]
@[simp] theorem foDiv_ap : foDiv (.int x) (.int y) = if CDivW x y then some (.d (.int (x / y))) else none := rfl
@[simp] theorem foPow_ap : foPow (.int x) (.int y) = if CPow x y then some (.d (.int (x ^ y.toNat))) else none := rfl
@[simp] theorem foShl_ap : foShl (.int x) (.int y) = if CShl x y then some (.d (.int (x * 2 ^ y.toNat))) else none := rfl
@[simp] theorem foShr_ap : foShr (.int x) (.int y) = if 0 ≤ y then some (.d (.int (x / 2 ^ y.toNat))) else none := by by_cases h : 0 ≤ y <;> simp [foShr, foI, h]
@[simp] theorem foAnd_ap : foAnd (.int x) (.int y) = some (.d (.int (Builtin.bitAnd x y))) := if_pos trivial
@[simp] theorem foOr_ap : foOr (.int x) (.int y) = some (.d (.int (Builtin.bitOr x y))) := if_pos trivial
@[simp] theorem foXor_ap : foXor (.int x) (.int y) = some (.d (.int (Builtin.bitXor x y))) := if_pos trivial
@[simp] theorem foLt_ap : foLt (.int x) (.int y) = some (.d (.bl (decide (x < y)))) := rfl
@[simp] theorem foLe_ap : foLe (.int x) (.int y) = some (.d (.bl (decide (x ≤ y)))) := rfl
@[simp] theorem foGt_ap : foGt (.int x) (.int y) = some (.d (.bl (decide (y < x)))) := rfl
@[simp] theorem foGe_ap : foGe (.int x) (.int y) = some (.d (.bl (decide (y ≤ x)))) := rfl
@[simp] theorem foAdd_int : foAdd (.int x) (.int y) = some (.d (.int (x + y))) := rfl
@[simp] theorem foAdd_lst : foAdd (.lst xs) (.lst ys) = if xs.length + ys.length ≤ sizeLine then some (.new (.lst (xs ++ ys))) else none := rfl
@[simp] theorem foAdd_tup : foAdd (.tup xs) (.tup ys) = if xs.length + ys.length ≤ sizeLine then some (.d (.tup (xs ++ ys))) else none := rfl
@[simp] theorem foMul_int : foMul (.int x) (.int y) = if CMulX x y then some (.d (.int (x * y))) else none := rfl
@[simp] theorem foMul_lst : foMul (.lst xs) (.int y) = if Cp6 y xs.length then some (.new (.lst (List.replicate y.toNat xs).flatten)) else none := rfl
@[simp] theorem foEq_ap {g : Bool → Bool} {d e : D} : foEq g d e = if okB 12 d = true ∧ okB 12 e = true then some (.d (.bl (g (deq d e)))) else none := rfl
@[simp] theorem foIn_lst {g : Bool → Bool} {d : D} : foIn g d (.lst xs) = if okB 10 d = true ∧ okB 12 (.lst xs) = true then some (.d (.bl (g (anyD d xs)))) else none := rfl
@[simp] theorem foIn_tup {g : Bool → Bool} {d : D} : foIn g d (.tup xs) = if fltD d = true ∧ xs.all fltD = true then some (.d (.bl (g (anyD d xs)))) else none := rfl
@[simp] theorem foIs_bl {g : Bool → Bool} : foIs g (.bl b) (.bl b') = some (.d (.bl (g (decide (b = b'))))) := rfl
@[simp] theorem foIs_non {g : Bool → Bool} {d : D} : foIs g d .non = some (.d (.bl (g (isNon d)))) := by cases d <;> rfl
@[simp] theorem isNon_non : isNon .non = true := rfl
@[simp] theorem isNon_int : isNon (.int x) = false := rfl
@[simp] theorem isNon_bl : isNon (.bl b) = false := rfl
@[simp] theorem isNon_tup : isNon (.tup ds) = false := rfl
@[simp] theorem isNon_lst : isNon (.lst ds) = false := rfl
@[simp] theorem isNon_obj {fs : List (Nat × D)} : isNon (.obj c fs) = false := rfl
@[simp] theorem foIx_lst : foIx (.lst ds) (.int x) = (atI ds x).map R.d := rfl
@[simp] theorem foIx_tup : foIx (.tup ds) (.int x) = (atI ds x).map R.d := rfl
@[simp] theorem foNeg_ap : foNeg (.int x) = some (.d (.int (-x))) := rfl
@[simp] theorem foNot_ap : foNot (.bl b) = some (.d (.bl (!b))) := rfl
@[simp] theorem foIsi_ap {t : Ty} {d : D} : foIsi t d = (isTy d t).map fun b => .d (.bl b) := rfl
@[simp] theorem isTy_int {t : Ty} : isTy (.int x) t = some (decide (t = .int)) := rfl
@[simp] theorem isTy_bl {t : Ty} : isTy (.bl b) t = some (decide (t = .int ∨ t = .bool)) := rfl
@[simp] theorem isTy_lst {t : Ty} : isTy (.lst xs) t = some (decide (t = .list)) := rfl
@[simp] theorem isTy_tup {t : Ty} : isTy (.tup xs) t = some (decide (t = .tuple)) := rfl
@[simp] theorem isTy_str {t : Ty} {z : Str} : isTy (.str z) t = some (decide (t = .str)) := rfl
@[simp] theorem isTy_non {t : Ty} : isTy .non t = some false := rfl
@[simp] theorem okB_non : okB i .non = true := by cases i <;> rfl
@[simp] theorem okB_bl : okB i (.bl b) = true := by cases i <;> rfl
@[simp] theorem okB_int : okB i (.int x) = true := by cases i <;> rfl
@[simp] theorem okB_lst : okB (i + 1) (.lst ds) = ds.all (okB i) := rfl
@[simp] theorem okB_tup : okB (i + 1) (.tup ds) = ds.all (okB i) := rfl
@[simp] theorem fbLen_lst : fbLen [.lst ds] = some (.d (.int ds.length)) := rfl
@[simp] theorem fbLen_tup : fbLen [.tup ds] = some (.d (.int ds.length)) := rfl
@[simp] theorem fbList_lst : fbList [.lst ds] = some (.new (.lst ds)) := rfl
@[simp] theorem fbList_tup : fbList [.tup ds] = some (.new (.lst ds)) := rfl
@[simp] theorem fbTuple_lst : fbTuple [.lst ds] = some (.d (.tup ds)) := rfl
@[simp] theorem fbTuple_tup : fbTuple [.tup ds] = some (.d (.tup ds)) := rfl
@[simp] theorem fbAbs_ap : fbAbs [.int x] = some (.d (.int (if x < 0 then -x else x))) := rfl
@[simp] theorem fbMax_2 : fbMax [.int x, .int y] = some (.d (.int (if y > x then y else x))) := rfl
@[simp] theorem fbMin_2 : fbMin [.int x, .int y] = some (.d (.int (if y < x then y else x))) := rfl
@[simp] theorem fbInt_int : fbInt [.int x] = some (.d (.int x)) := rfl
@[simp] theorem fbInt_bl : fbInt [.bl b] = some (.d (.int (if b then 1 else 0))) := rfl
@[simp] theorem fbDivmod_ap : fbDivmod [.int x, .int y] = if CDiv x y then some (.d (.tup [.int (x / y), .int (x % y)])) else none := rfl
@[simp] theorem fbSum_ap {ns : List Int} : fbSum [.lst (ns.map D.int)] = some (.d (.int ns.sum)) := by simp [fbSum]
@[simp] theorem fbAll_ap {ns : List Bool} : fbAll [.lst (ns.map D.bl)] = some (.d (.bl (ns.all id))) := by simp [fbAll]
@[simp] theorem foSl_lst {lo hi : Option Int} : foSl (.lst ds) lo hi = some (.new (.lst (cutL ds lo hi))) := rfl
@[simp] theorem foSl_tup {lo hi : Option Int} : foSl (.tup ds) lo hi = some (.d (.tup (cutL ds lo hi))) := rfl
@[simp] theorem of_ite {α : Type} {p : Prop} [Decidable p] {x y : Option α} : Out.of (if p then x else y) μ = if p then Out.of x μ else Out.of y μ := by split <;> rfl
@[simp] theorem of_map {α β : Type} {o : Option α} {g : α → β} : Out.of (o.map g) μ = (Out.of o μ).bind fun a μ => .ok (g a) μ := by cases o <;> rfl
/-! == -/
@[simp] theorem deq_int : deq (.int x) (.int y) = decide (x = y) := by rw [deq]; by_cases h : x = y <;> simp [h]
@[simp] theorem deq_bl : deq (.bl b) (.bl b') = decide (b = b') := by cases b <;> cases b' <;> rfl
@[simp] theorem deq_lst : deq (.lst xs) (.lst ys) = deqL xs ys := by simp [deq]
@[simp] theorem deq_tup : deq (.tup xs) (.tup ys) = deqL xs ys := by simp [deq]
@[simp] theorem deq_nn : deq .non .non = true := by simp [deq]
@[simp] theorem deq_ni : deq .non (.int x) = false := by simp [deq]
@[simp] theorem deq_in : deq (.int x) .non = false := by simp [deq]
@[simp] theorem deq_nt : deq .non (.tup xs) = false := by simp [deq]
@[simp] theorem deq_tn : deq (.tup xs) .non = false := by simp [deq]
@[simp] theorem deqL_nil : deqL [] [] = true := by simp [deqL]
@[simp] theorem deqL_cons {d e : D} : deqL (d :: xs) (e :: ys) = (deq d e && deqL xs ys) := by simp [deqL]
@[simp] theorem deqL_nc {d : D} : deqL [] (d :: xs) = false := by simp [deqL]
@[simp] theorem deqL_cn {d : D} : deqL (d :: xs) [] = false := by simp [deqL]
@[simp] theorem deqL_map : ∀ {ms ns : List Int}, deqL (ms.map D.int) (ns.map D.int) = decide (ms = ns)
  | [], [] => rfl
  | [], n :: ns => by simp
  | m :: ms, [] => by simp
  | m :: ms, n :: ns => by simp [deqL_map (ms := ms) (ns := ns), Bool.decide_and]
@[simp] theorem anyD_map {x : Int} : ∀ {ns : List Int}, anyD (.int x) (ns.map D.int) = decide (x ∈ ns)
  | [] => rfl
  | n :: ns => by
    have ih := anyD_map (x := x) (ns := ns)
    unfold anyD at ih ⊢
    rw [List.map_cons, List.any_cons, ih, deq_int]
    by_cases e : n = x
    · subst e; simp
    · have e' : ¬ x = n := fun z => e z.symm
      simp [e, e']
end
end
@[simp] theorem lookup_fc {n m : Nat} {d : D} {fs : List (Nat × D)} : List.lookup n ((m, d) :: fs) = if n = m then some d else List.lookup n fs := by
  rw [List.lookup_cons]
  by_cases h : n = m
  · simp [h]
  · have h' : (n == m) = false := by simpa using h
    rw [h', if_neg h]
@[simp] theorem fput_nil {n : Nat} {d : D} : fput n d [] = [(n, d)] := rfl
@[simp] theorem fput_cons {n m : Nat} {d e : D} {fs : List (Nat × D)} : fput n d ((m, e) :: fs) = if m = n then (m, d) :: fs else (m, e) :: fput n d fs := rfl
theorem atI_n {α : Type} (xs : List α) (k : Nat) : atI xs (k : Int) = xs[k]? := by
  unfold atI ixN
  rw [if_pos (by omega)]
  by_cases h : (k : Int) < (xs.length : Int)
  · rw [if_pos h]; rfl
  · rw [if_neg h, List.getElem?_eq_none (by omega)]; rfl
@[simp] theorem atI_0 {α : Type} {a : α} {r : List α} : atI (a :: r) 0 = some a := atI_n _ 0
@[simp] theorem atI_1 {α : Type} {a b : α} {r : List α} : atI (a :: b :: r) 1 = some b := atI_n _ 1
@[simp] theorem atI_2 {α : Type} {a b c : α} {r : List α} : atI (a :: b :: c :: r) 2 = some c := atI_n _ 2
@[simp] theorem atI_3 {α : Type} {a b c d : α} {r : List α} : atI (a :: b :: c :: d :: r) 3 = some d := atI_n _ 3
@[simp] theorem atI_4 {α : Type} {a b c d e : α} {r : List α} : atI (a :: b :: c :: d :: e :: r) 4 = some e := atI_n _ 4
@[simp] theorem atI_5 {α : Type} {a b c d e f : α} {r : List α} : atI (a :: b :: c :: d :: e :: f :: r) 5 = some f := atI_n _ 5
@[simp] theorem atI_6 {α : Type} {a b c d e f g : α} {r : List α} : atI (a :: b :: c :: d :: e :: f :: g :: r) 6 = some g := atI_n _ 6
theorem rg1_ok {j : Int} (h : j < 1000000000000 ∧ -1000000000000 < j) : Rg1 j := ⟨by omega, by omega⟩
theorem rg2_ok {i j : Int} (h : -1000000000000 < i ∧ i < 1000000000000 ∧ -1000000000000 < j ∧ j < 1000000000000) : Rg2 i j := ⟨by omega, by omega, by omega, by omega⟩
theorem rg1_nat {n : Nat} (h : n < 1000000000000) : Rg1 (n : Int) := rg1_ok (by omega)
theorem cp6_ok {j : Int} {n : Nat} (h : -1000000000000 < j ∧ j < 1000000000000) (h2 : n * j.toNat ≤ 16777216) : Cp6 j n := ⟨by omega, by omega, by rw [sizeLine_eq]; exact h2⟩
theorem pp6_ok {i : Int} (h : -1000000000000 < i ∧ i < 1000000000000) : Pp6 i := ⟨by omega, by omega⟩
theorem rg1_iff {j : Int} : Rg1 j ↔ (j < 4611686018427387904 ∧ -4611686018427387904 ≤ j) := ⟨fun h => h, fun h => h⟩
theorem rg2_iff {i j : Int} : Rg2 i j ↔ (-4611686018427387904 ≤ i ∧ i < 4611686018427387904 ∧ -4611686018427387904 ≤ j ∧ j < 4611686018427387904) := ⟨fun h => h, fun h => h⟩
theorem pp6_iff {i : Int} : Pp6 i ↔ (-9223372036854775808 ≤ i ∧ i < 9223372036854775808) := ⟨fun h => h, fun h => h⟩
@[simp] theorem sizeL : sizeLine = 16777216 := sizeLine_eq
@[simp] theorem cutL_to {ds : List D} {i : Int} (h : 0 ≤ i) : cutL ds none (some i) = ds.take i.toNat := by
  have h' : ¬ i < 0 := by omega
  unfold cutL HT.sIx
  simp only [List.drop_zero, Nat.sub_zero, if_neg h']
  rw [List.take_eq_take_iff]
  omega
@[simp] theorem cutL_from {ds : List D} {i : Int} (h : 0 ≤ i) : cutL ds (some i) none = ds.drop i.toNat := by
  have h' : ¬ i < 0 := by omega
  unfold cutL HT.sIx
  simp only [if_neg h']
  rw [List.take_of_length_le (by rw [List.length_drop]; omega)]
  by_cases q : i.toNat ≤ ds.length
  · rw [Nat.min_eq_left q]
  · rw [Nat.min_eq_right (by omega), List.drop_eq_nil_of_le (Nat.le_refl _), List.drop_eq_nil_of_le (by omega)]
@[simp] theorem cutL_mid {ds : List D} {i j : Int} (h : 0 ≤ i) (h2 : 0 ≤ j) : cutL ds (some i) (some j) = (ds.drop i.toNat).take (j.toNat - i.toNat) := by
  have h' : ¬ i < 0 := by omega
  have h2' : ¬ j < 0 := by omega
  unfold cutL HT.sIx
  simp only [if_neg h', if_neg h2']
  by_cases q : i.toNat ≤ ds.length
  · rw [Nat.min_eq_left q, List.take_eq_take_iff, List.length_drop]
    omega
  · rw [Nat.min_eq_right (by omega : ds.length ≤ i.toNat), List.drop_eq_nil_of_le (Nat.le_refl _), List.drop_eq_nil_of_le (by omega)]
    simp
@[simp] theorem cutL_all {ds : List D} : cutL ds none none = ds := by
  unfold cutL HT.sIx
  simp
theorem rngD_len {lo : Int} {n : Nat} : (rngD lo n).length = n := by unfold rngD; simp
theorem rngD_succ {lo : Int} {n : Nat} : rngD lo (n + 1) = .int lo :: rngD (lo + 1) n := by
  unfold rngD
  rw [List.range_succ_eq_map]
  simp only [List.map_cons, List.map_map]
  congr 1
  · simp
  · refine List.map_congr_left fun i _ => ?_
    simp only [Function.comp, Nat.succ_eq_add_one]
    congr 1
    omega
theorem rngD_zero {lo : Int} : rngD lo 0 = [] := rfl
theorem mulX_small {i j : Int} (h1 : -(2 ^ 64) < i) (h2 : i < 2 ^ 64) (h3 : -(2 ^ 64) < j) (h4 : j < 2 ^ 64) : CMulX i j := by
  have a := intBits_le_64 h1 h2
  have b := intBits_le_64 h3 h4
  unfold CMulX
  omega
end TL
/-! TL: dicts -/
namespace TL
open PySem PySem.Spec L2

/-! ### what a dict holds -/
section
variable {K : PySem.W.Frag} {cl : Cl} {G : Gh}
theorem denK_look {k : Key} : ∀ {vs : List (Key × V)} {ds : List (NestedKey × D)}, DenK K cl G vs ds → (∀ d, dlook (kN k) ds = some d → ∃ v, valV vs k = some v ∧ Den K cl G v d) ∧ (dlook (kN k) ds = none → valV vs k = none)
  | _, _, .nil => ⟨fun d h => (by cases h), fun _ => rfl⟩
  | _, _, .cons (k := j) (v := v) (vs := vs) (d := e) (ds := ds) h1 h2 => by
    by_cases q : j = k
    · subst q
      rw [dlook, if_pos rfl]
      refine ⟨fun d h => ?_, fun h => (by cases h)⟩
      cases h
      exact ⟨v, valV_pos (p := (j, v)) rfl, h1⟩
    · have q' : ¬ kN j = kN k := fun z => q (kN_inj z)
      rw [dlook, if_neg q', valV_neg (p := (j, v)) q]
      exact denK_look h2
theorem denK_map {k : Key} {v : V} {d : D} (hv : Den K cl G v d) : ∀ {vs : List (Key × V)} {ds : List (NestedKey × D)}, DenK K cl G vs ds → DenK K cl G (vs.map fun kv => if kv.1 = k then (kv.1, v) else kv) (dmap (kN k) d ds)
  | _, _, .nil => .nil
  | _, _, .cons (k := j) (v := u) (vs := vs) (d := e) (ds := ds) h1 h2 => by
    rw [List.map_cons, dmap]
    by_cases q : j = k
    · subst q
      rw [if_pos rfl, if_pos rfl]
      exact .cons hv (denK_map hv h2)
    · have q' : ¬ kN j = kN k := fun z => q (kN_inj z)
      rw [if_neg q, if_neg q']
      exact .cons h1 (denK_map hv h2)
theorem DenK.app : ∀ {vs us : List (Key × V)} {ds es : List (NestedKey × D)}, DenK K cl G vs ds → DenK K cl G us es → DenK K cl G (vs ++ us) (ds ++ es)
  | _, _, _, _, .nil, h => h
  | _, _, _, _, .cons h1 h2, h => .cons h1 (h2.app h)
theorem denK_some {k : Key} {vs : List (Key × V)} {ds : List (NestedKey × D)} (h : DenK K cl G vs ds) : (valV vs k).isSome = (dlook (kN k) ds).isSome := by
  obtain ⟨h1, h2⟩ := denK_look (k := k) h
  cases q : dlook (kN k) ds with
  | none => rw [h2 q]; rfl
  | some d => obtain ⟨v, e, _⟩ := h1 d q; rw [e]; rfl
theorem denK_put {k : Key} {v : V} {d : D} (hv : Den K cl G v d) {vs : List (Key × V)} {ds : List (NestedKey × D)} (h : DenK K cl G vs ds) : DenK K cl G (putK vs k v) (dput (kN k) d ds) := by
  unfold putK dput
  rw [valV_any, denK_some h]
  split
  · exact denK_map hv h
  · exact h.app (.cons hv .nil)
theorem denT_look {k : NestedKey} : ∀ {vs : List (NestedKey × Addr × Value)} {ds : List (NestedKey × D)}, DenT K cl G vs ds → (∀ d, dlook k ds = some d → ∃ p v, atKey vs k = some p ∧ RelV v p.2 ∧ Den K cl G v d) ∧ (dlook k ds = none → atKey vs k = none)
  | _, _, .nil => ⟨fun d h => (by cases h), fun _ => rfl⟩
  | _, _, .cons (k := j) (b := b) (u := u) (v := v) (vs := vs) (d := e) (ds := ds) h0 hr h1 h2 => by
    by_cases q : j = k
    · subst q
      rw [dlook, if_pos rfl]
      refine ⟨fun d h => ?_, fun h => (by cases h)⟩
      cases h
      exact ⟨(b, u), v, by simp [atKey], hr, h1⟩
    · rw [dlook, if_neg q]
      have e : atKey ((j, b, u) :: vs) k = atKey vs k := by simp [atKey, List.find?_cons, q]
      rw [e]
      exact denT_look h2
theorem denT_map {k : NestedKey} {u : Value} {v : V} {d : D} (hr : RelV v u) (hv : Den K cl G v d) : ∀ {vs : List (NestedKey × Addr × Value)} {ds : List (NestedKey × D)}, DenT K cl G vs ds → DenT K cl G (vs.map (putAt k u)) (dmap k d ds)
  | _, _, .nil => .nil
  | _, _, .cons (k := j) (b := b') (u := u') (v := v') (vs := vs) (d := e) (ds := ds) h0 hr' h1 h2 => by
    rw [List.map_cons, dmap]
    by_cases q : j = k
    · have e1 : putAt k u (j, b', u') = (j, b', u) := if_pos q
      rw [e1, if_pos q]
      exact .cons h0 hr hv (denT_map hr hv h2)
    · have e1 : putAt k u (j, b', u') = (j, b', u') := if_neg q
      rw [e1, if_neg q]
      exact .cons h0 hr' h1 (denT_map hr hv h2)
theorem DenT.app : ∀ {vs us : List (NestedKey × Addr × Value)} {ds es : List (NestedKey × D)}, DenT K cl G vs ds → DenT K cl G us es → DenT K cl G (vs ++ us) (ds ++ es)
  | _, _, _, _, .nil, h => h
  | _, _, _, _, .cons h0 hr h1 h2, h => .cons h0 hr h1 (h2.app h)
theorem denT_some {k : NestedKey} {vs : List (NestedKey × Addr × Value)} {ds : List (NestedKey × D)} (h : DenT K cl G vs ds) : (atKey vs k).isSome = (dlook k ds).isSome := by
  obtain ⟨h1, h2⟩ := denT_look (k := k) h
  cases q : dlook k ds with
  | none => rw [h2 q]; rfl
  | some d => obtain ⟨p, v, e, _⟩ := h1 d q; rw [e]; rfl
theorem denT_put {k : NestedKey} {b : Addr} {u : Value} {v : V} {d : D} (hk : KDen K G.fz (.ref b) k) (hr : RelV v u) (hv : Den K cl G v d) {vs : List (NestedKey × Addr × Value)} {ds : List (NestedKey × D)} (h : DenT K cl G vs ds) : DenT K cl G (storedH vs k b u) (dput k d ds) := by
  unfold storedH dput
  rw [denT_some h]
  split
  · exact denT_map hr hv h
  · exact h.app (.cons hk hr hv .nil)
theorem denT_keys : ∀ {vs : List (NestedKey × Addr × Value)} {ds : List (NestedKey × D)}, DenT K cl G vs ds → ∀ x ∈ vs, KDen K G.fz (.ref x.2.1) x.1
  | _, _, .nil, x, hx => by cases hx
  | _, _, .cons h0 hr' h1 h2, x, hx => by
    rcases List.mem_cons.mp hx with rfl | hx
    · exact h0
    · exact denT_keys h2 x hx
end

/-! ### keys in the heap -/
section
variable {X : Cx} {pins : List (Addr × Obj)} {σ : L2.St} {H : Hp} {s : Shared}
mutual
theorem key_is (I : Inv X pins σ H s) : ∀ (k : NestedKey) (v : V) (u : Value), KDen X.K H v k → RelV v u → NestedIs s.heap k u
  | .none, _, _, .non, r => by cases r; exact .none
  | .num _, _, _, .num i, r => by obtain ⟨t, rfl⟩ := (show ∃ t, _ = Value.int i t from r); exact .int i t
  | .text _, _, _, .text i, r => by obtain ⟨t, rfl⟩ := (show ∃ t, _ = Value.str i t from r); exact .text i t
  | .tup ks, _, _, .tup h1 h2, r => by
    cases r
    obtain ⟨its, rv, ⟨o, h3, h4, n, h5⟩, _⟩ := I.tuple h1
    exact .tup h3 h4 h5 (by simpa using keys_are I ks _ its h2 rv)
theorem keys_are (I : Inv X pins σ H s) : ∀ (ks : List NestedKey) (vs : List V) (us : List Value), KDenL X.K H vs ks → Vals vs us → NestedAll s.heap ks us
  | [], _, _, .nil, r => by cases r; exact .nil
  | k :: ks, _, _, .cons h1 h2, r => by
    cases r with
    | cons r1 r2 => exact .cons (key_is I k _ _ h1 r1) (keys_are I ks _ _ h2 r2)
end
def keyOk : Bool → NestedKey → Bool
  | false, .num _ => true
  | false, .text _ => true
  | true, .tup ks => decide ((NestedKey.tup ks).depth ≤ 8)
  | _, _ => false
/-- a key without tuples -/
def flatK : NestedKey → Option Key
  | .num i => some (.inl i)
  | .text x => some (.inr x)
  | _ => none
theorem flatK_eq {k : NestedKey} {j : Key} (h : flatK k = some j) : k = kN j := by
  cases k <;> simp [flatK] at h <;> subst h <;> rfl
theorem keyOk_f {k : NestedKey} (h : keyOk false k = true) : ∃ j, k = kN j := by
  cases k with
  | num i => exact ⟨.inl i, rfl⟩
  | text i => exact ⟨.inr i, rfl⟩
  | none => cases h
  | tup ks => cases h
theorem kden_f {K : PySem.W.Frag} {H : Hp} {v : V} {j : Key} (h : KDen K H v (kN j)) : v = kV j := by
  cases j <;> (cases h; rfl)
theorem keyOk_t {k : NestedKey} (h : keyOk true k = true) : k.depth ≤ 8 ∧ ∀ {K : PySem.W.Frag} {H : Hp} {v : V}, KDen K H v k → ∃ b, v = .ref b := by
  cases k with
  | num i => cases h
  | text i => cases h
  | none => cases h
  | tup ks =>
    refine ⟨by simpa [keyOk] using h, fun z => ?_⟩
    cases z
    exact ⟨_, rfl⟩
/-- the key of a tree, for a dict with tuples or not -/
def dKey (t : Bool) (d : D) : Option NestedKey := match nkey d with
  | some k => if keyOk t k = true then some k else none
  | none => none
theorem dKey_eq {t : Bool} {d : D} {k : NestedKey} (h : dKey t d = some k) : nkey d = some k ∧ keyOk t k = true := by
  unfold dKey at h
  split at h
  · rename_i k' q
    split at h
    · rename_i z; cases h; exact ⟨q, z⟩
    · cases h
  · cases h

/-- what the dict at a holds at the key y, by values -/
def DGx (X : Cx) (H : Hp) (a : Addr) (y : V) (r : Option V) : Prop :=
  (∃ ep kvs k, Rd H a (.ext (DicK X.prog X.w a ep kvs)) ∧ y = kV k ∧ r = valV kvs k) ∨
  ∃ ep xs k b, Rd H a (.ext (DicT X.prog X.w a ep xs)) ∧ y = .ref b ∧ KDen X.K H (.ref b) k ∧ k.depth ≤ 8 ∧ (∀ x ∈ xs, KDen X.K H (.ref x.2.1) x.1) ∧ ((r = none ∧ atKey xs k = none) ∨ ∃ v p, r = some v ∧ atKey xs k = some p ∧ RelV v p.2)
/-- the heap behind a[y] = v; u: the very value -/
def DPx (X : Cx) (H : Hp) (a : Addr) (y : V) (v : V) (Q : Hp → Prop) : Prop :=
  (∃ ep kvs k, H a = some (.ext (DicK X.prog X.w a ep kvs)) ∧ y = kV k ∧ kvs.length < sizeLine ∧ ∀ ep', Q (upd H a (.ext (DicK X.prog X.w a ep' (putK kvs k v))))) ∨
  ∃ ep xs k b, H a = some (.ext (DicT X.prog X.w a ep xs)) ∧ y = .ref b ∧ KDen X.K H (.ref b) k ∧ k.depth ≤ 8 ∧ (∀ x ∈ xs, KDen X.K H (.ref x.2.1) x.1) ∧ xs.length < sizeLine ∧ ∀ u ep', RelV v u → Q (upd H a (.ext (DicT X.prog X.w a ep' (storedH xs k b u))))
section
variable {a : Addr} {y v : V} {u r : Value} {o : Option V} {A : Around} {E : Value → Shared → Prop}
theorem dicT_rd {P : Program} {w : World} {h : Heap} {ep : Nat} {xs : List (NestedKey × Addr × Value)} (ok : HOk P w H h) (e : Rd H a (.ext (DicT P w a ep xs))) : DicT P w a ep xs h := (show ObjOk P w H h a (.ext (DicT P w a ep xs)) from e.ok ok).1
theorem dicT_of (I : Inv X pins σ H s) {ep : Nat} {xs : List (NestedKey × Addr × Value)} (e : Rd H a (.ext (DicT X.prog X.w a ep xs))) (hk : ∀ x ∈ xs, KDen X.K H (.ref x.2.1) x.1) :
    xs.length ≤ sizeLine ∧ (a == sysModules) = false ∧ s.heap.DictOfH (nestedKind X.prog X.w) a xs := by
  obtain ⟨h1, h2, h3, o, es, h4, h5, h6, h7, h8⟩ := dicT_rd I.hok e
  exact ⟨h1, h2, o, es, ep, h4, h5, h6, h7, fun x hx => ⟨key_is I _ _ _ (hk x hx) rfl, h3 x hx⟩, h8⟩
theorem dicK_at {P : Program} {w : World} {h : Heap} {ep : Nat} {kvs : List (Key × V)} (ok : HOk P w H h) (e : Rd H a (.ext (DicK P w a ep kvs))) : DicK P w a ep kvs h := (show ObjOk P w H h a (.ext (DicK P w a ep kvs)) from e.ok ok).1
theorem dicK_rd {P : Program} {w : World} {h : Heap} {ep : Nat} {kvs : List (Key × V)} (ok : HOk P w H h) (e : Rd H a (.ext (DicK P w a ep kvs))) : kvs.length ≤ sizeLine ∧ (a == sysModules) = false ∧ ∃ vs, KV kvs vs ∧ h.DictOf (mixKind P w) a vs := by
  obtain ⟨h1, h2, vs, h3, h4⟩ := dicK_at ok e
  exact ⟨h1, h2, vs, h3, h4.dictOf⟩
theorem dicK_new {P : Program} {w : World} {h' : Heap} {kvs : List (Key × V)} {vs : List (Key × Value)} (z : kvs.length ≤ sizeLine) (hd : (a == sysModules) = false) (rel : KV kvs vs) (dd : h'.DictOf (mixKind P w) a vs) :
    ∃ ep, ∀ H' : Hp, ObjOk P w H' h' a (.ext (DicK P w a ep kvs)) := by
  obtain ⟨ep, o, es, ho, r⟩ := dd.dictAt
  refine ⟨ep, fun H' => ⟨⟨z, hd, vs, rel, o, es, ho, r⟩, ⟨o, ho⟩, fun h1 h2 z1 z2 => ?_⟩⟩
  obtain ⟨a1, a2, vs', a3, o', es', a4, a5⟩ := z1
  exact ⟨a1, a2, vs', a3, o', es', z2 _ a4, a5⟩
theorem nk_room (hu : A.units + 64 < cLine) : (nestedKind X.prog X.w).room A.in1 := by
  have e : A.in1.units ≤ A.units + 1 := by
    first | exact Nat.le_refl _ | (unfold Around.in1 Around.units; omega) | (simp [Around.in1, Around.units])
  show A.in1.units + 8 < cLine
  omega
theorem dx_typeIs (I : Inv X pins σ H s) (g : DGx X H a y o) : s.TypeIs (.ref a) "dict" ∧ ∀ b, Value.ref a = .ref b → ∃ ob, s.heap.get? b = some ob ∧ ob.dict = none := by
  rcases g with ⟨ep, kvs, k, e, _, _⟩ | ⟨ep, xs, k, b, e, _, _, _, hk, _⟩
  · obtain ⟨_, _, vs, _, dd⟩ := dicK_rd I.hok e
    refine ⟨dd.typeIs, fun b q => ?_⟩
    cases q
    obtain ⟨ob, _, _, h1, h2, _⟩ := dd
    exact ⟨ob, h1, h2.2.1⟩
  · obtain ⟨_, _, dd⟩ := dicT_of I e hk
    refine ⟨dd.typeIs, fun b q => ?_⟩
    cases q
    obtain ⟨ob, _, _, h1, h2, _⟩ := dd
    exact ⟨ob, h1, h2.2.1⟩
theorem dx_getItem {Q : Value → Shared → Prop} (hu : A.units + 64 < cLine) (I : Inv X pins σ H s) (g : DGx X H a y (some v)) (ry : RelV y u) (h : ∀ w' s', Inv X pins σ H s' → RelV v w' → Q w' s') :
    wpAny (model X.prog X.w) A (getItem (.ref a) u) Q E s := by
  rcases g with ⟨ep0, kvs, k, e, ey, l⟩ | ⟨ep, xs, k, b, e, ey, eb, dp, hk, l⟩
  · subst ey
    obtain ⟨z, hd, vs, rel, dd⟩ := dicK_rd I.hok e
    obtain ⟨w', hw, rw'⟩ := RelO.some_of (v := v) (o := valueAt vs k) (by rw [l]; exact rel.val k)
    exact wpAny_getItem_of (kV_is ry) dd.mapOf hw (h w' _ (I.tok _) rw')
  · subst ey
    cases (show u = Value.ref b from ry)
    obtain ⟨z, hd, dd⟩ := dicT_of I e hk
    rcases l with ⟨l, _⟩ | ⟨v', p, l, hp, rv⟩
    · cases l
    · cases l
      exact wpAny_getItem_heap (nk_room (X := X) hu) ⟨key_is I _ _ _ eb rfl, dp⟩ dd hp (h p.2 _ (I.tok _) rv)
theorem dx_in {Q : Value → Shared → Prop} (hu : A.units + 64 < cLine) (I : Inv X pins σ H s) (g : DGx X H a y o) (ry : RelV y u) (h : ∀ s', Inv X pins σ H s' → Q (.bool o.isSome) s') :
    wpAny (model X.prog X.w) A (compareOp .In u (.ref a)) Q E s := by
  rcases g with ⟨ep0, kvs, k, e, ey, l⟩ | ⟨ep, xs, k, b, e, ey, eb, dp, hk, l⟩
  · subst ey
    obtain ⟨z, hd, vs, rel, dd⟩ := dicK_rd I.hok e
    refine wpAny_in_of (kV_is ry) hd dd.mapOf ?_
    rw [← (rel.val k).isSome_eq, ← l]
    exact h _ (I.tok _)
  · subst ey
    cases (show u = Value.ref b from ry)
    obtain ⟨z, hd, dd⟩ := dicT_of I e hk
    refine wpAny_in_heap (nk_room (X := X) hu) ⟨key_is I _ _ _ eb rfl, dp⟩ hd dd ?_
    rcases l with ⟨l, hn⟩ | ⟨v', p, l, hp, rv⟩
    · rw [hn]; subst l; exact h _ (I.tok _)
    · rw [hp]; subst l; exact h _ (I.tok _)
theorem dx_notIn {Q : Value → Shared → Prop} (hu : A.units + 64 < cLine) (I : Inv X pins σ H s) (g : DGx X H a y o) (ry : RelV y u) (h : ∀ s', Inv X pins σ H s' → Q (.bool (!o.isSome)) s') :
    wpAny (model X.prog X.w) A (compareOp .NotIn u (.ref a)) Q E s := by
  rcases g with ⟨ep0, kvs, k, e, ey, l⟩ | ⟨ep, xs, k, b, e, ey, eb, dp, hk, l⟩
  · subst ey
    obtain ⟨z, hd, vs, rel, dd⟩ := dicK_rd I.hok e
    refine wpAny_notIn_of (kV_is ry) hd dd.mapOf ?_
    rw [← (rel.val k).isSome_eq, ← l]
    exact h _ (I.tok _)
  · subst ey
    cases (show u = Value.ref b from ry)
    obtain ⟨z, hd, dd⟩ := dicT_of I e hk
    show wpAny _ _ (do return .bool (!(← contains (.ref a) (.ref b)))) Q E s
    refine wpAny_bind (wpAny_contains_heap (nk_room (X := X) hu) ⟨key_is I _ _ _ eb rfl, dp⟩ hd dd (wpAny_pure ?_))
    rcases l with ⟨l, hn⟩ | ⟨v', p, l, hp, rv⟩
    · rw [hn]; subst l; exact h _ (I.tok _)
    · rw [hp]; subst l; exact h _ (I.tok _)
theorem dx_get2 {d : V} {Q : Value → Shared → Prop} (hu : A.units + 64 < cLine) (I : Inv X pins σ H s) (g : DGx X H a y o) (ry : RelV y u) (rd : RelV d r) (h : ∀ w' s', Inv X pins σ H s' → RelV (o.getD d) w' → Q w' s') :
    wpAny (model X.prog X.w) A (call (.builtin "dict.get") [.ref a, u, r]) Q E s := by
  rcases g with ⟨ep0, kvs, k, e, ey, l⟩ | ⟨ep, xs, k, b, e, ey, eb, dp, hk, l⟩
  · subst ey
    obtain ⟨z, hd, vs, rel, dd⟩ := dicK_rd I.hok e
    refine call_meetsIn PySem.F.slot_dict_get dd.typeIs PySem.F.entry_dict_get (PySem.F.args_dict_get_3 _ _ _) (meets_dict_get_default (mixKind X.prog X.w) a (kV_is ry) hd r) ⟨_, dd.mapOf, h _ _ (I.tok _) ?_⟩
    rw [l]
    exact (rel.val k).getD rd
  · subst ey
    cases (show u = Value.ref b from ry)
    obtain ⟨z, hd, dd⟩ := dicT_of I e hk
    refine call_meetsIn PySem.F.slot_dict_get dd.typeIs PySem.F.entry_dict_get (PySem.F.args_dict_get_3 _ _ _) (meetsH_dict_get_default (nestedKind X.prog X.w) a b hd r) ⟨nk_room (X := X) hu, k, xs, ⟨key_is I _ _ _ eb rfl, dp⟩, dd, h _ _ (I.tok _) ?_⟩
    rcases l with ⟨l, hn⟩ | ⟨v', p, l, hp, rv⟩
    · rw [hn]; subst l; exact rd
    · rw [hp]; subst l; exact rv
theorem dicT_stored {P : Program} {w : World} {h' : Heap} {xs : List (NestedKey × Addr × Value)} {k : NestedKey} {b : Addr} (z : xs.length < sizeLine) (hd : (a == sysModules) = false) (dp : k.depth ≤ 8) (hx : ∀ x ∈ xs, x.1.depth ≤ 8)
    (dd : h'.DictOfH (nestedKind P w) a (storedH xs k b u)) : ∃ ep, ∀ H : Hp, ObjOk P w H h' a (.ext (DicT P w a ep (storedH xs k b u))) := by
  obtain ⟨q, es, ep, hq, h2, h3, h4, _, h5⟩ := dd
  have hl : (storedH xs k b u).length ≤ sizeLine := by
    unfold storedH
    split
    · rw [List.length_map]; omega
    · rw [List.length_append, List.length_singleton]; omega
  have hk : ∀ x ∈ storedH xs k b u, x.1.depth ≤ 8 := fun x hx' => by
    unfold storedH at hx'
    split at hx'
    · obtain ⟨y, hy, rfl⟩ := List.mem_map.mp hx'
      unfold putAt
      split
      · exact hx y hy
      · exact hx y hy
    · rcases List.mem_append.mp hx' with hx' | hx'
      · exact hx x hx'
      · rw [List.mem_singleton] at hx'; subst hx'; exact dp
  refine ⟨ep, fun H => ⟨⟨hl, hd, hk, q, es, hq, h2, h3, h4, h5⟩, ⟨q, hq⟩, fun h1 h2' z1 z2 => ?_⟩⟩
  obtain ⟨a1, a2, a3, o', es', a4, a5⟩ := z1
  exact ⟨a1, a2, a3, o', es', z2 _ a4, a5⟩
theorem dx_setItem {Q : Unit → Shared → Prop} {QH : Hp → Prop} (hu : A.units + 64 < cLine) (I : Inv X pins σ H s) (g : DPx X H a y v QH) (ry : RelV y u) (rv : RelV v r) (h : ∀ H' s', Inv X pins σ H' s' → QH H' → Q () s') :
    wpAny (model X.prog X.w) A (setItem (.ref a) u r) Q E s := by
  rcases g with ⟨ep0, kvs, k, e, ey, l, q⟩ | ⟨ep, xs, k, b, e, ey, eb, dp, hk, l, q⟩
  · subst ey
    obtain ⟨z, hd, vs, rel, dd⟩ := dicK_rd I.hok (.inl e)
    have hz : vs.length ≤ sizeLine := by rw [← rel.length]; exact z
    have hl : (putK kvs k v).length ≤ sizeLine := by have := length_putK kvs k v; omega
    refine wpAny_setItem_pairs (hsz := hz) (kV_is ry) dd fun h' dd' hs => ?_
    have he : ∃ q, h'.get? a = some q := let ⟨q, _, _, hq, _⟩ := dd'; ⟨q, hq⟩
    obtain ⟨ep', ok'⟩ := dicK_new (P := X.prog) (w := X.w) hl hd (rel.put k rv) dd'
    exact h _ _ (d_write I (by rw [e]; exact True.intro) hs he (ok' _)) (q ep')
  · subst ey
    cases (show u = Value.ref b from ry)
    obtain ⟨z, hd, dd⟩ := dicT_of I (.inl e) hk
    have hx : ∀ x ∈ xs, x.1.depth ≤ 8 := (dicT_rd I.hok (.inl e)).2.2.1
    refine wpAny_setItem_heap (hsz := z) (nk_room (X := X) hu) ⟨key_is I _ _ _ eb rfl, dp⟩ dd fun h' dd' hs => ?_
    obtain ⟨ep', ok'⟩ := dicT_stored (P := X.prog) (w := X.w) l hd dp hx dd'
    have he : ∃ q, h'.get? a = some q := let ⟨q, _, _, hq, _⟩ := dd'; ⟨q, hq⟩
    exact h _ _ (d_write I (by rw [e]; exact True.intro) hs he (ok' _)) (q r ep' rv)
theorem dx_setd {d : V} {Q : Value → Shared → Prop} {ep : Nat} {xs : List (NestedKey × Addr × Value)} {k : NestedKey} {b : Addr} (hu : A.units + 64 < cLine) (I : Inv X pins σ H s) (e : H a = some (.ext (DicT X.prog X.w a ep xs))) (eb : KDen X.K H (.ref b) k) (dp : k.depth ≤ 8) (hk : ∀ x ∈ xs, KDen X.K H (.ref x.2.1) x.1) (rd : RelV d r) (hl : xs.length < sizeLine)
    (h1 : ∀ p, atKey xs k = some p → ∀ s', Inv X pins σ H s' → Q p.2 s') (h2 : atKey xs k = none → ∀ ep' s', Inv X pins σ (upd H a (.ext (DicT X.prog X.w a ep' (storedH xs k b r)))) s' → Q r s') :
    wpAny (model X.prog X.w) A (call (.builtin "dict.setdefault") [.ref a, .ref b, r]) Q E s := by
  obtain ⟨z, hd, dd⟩ := dicT_of I (.inl e) hk
  have hx : ∀ x ∈ xs, x.1.depth ≤ 8 := (dicT_rd I.hok (.inl e)).2.2.1
  refine call_setdefault_heap (hsz := z) (nk_room (X := X) hu) ⟨key_is I _ _ _ eb rfl, dp⟩ hd dd (fun p hp => h1 p hp _ (I.tok _)) fun hn h' dd' hs => ?_
  obtain ⟨ep', ok'⟩ := dicT_stored (P := X.prog) (w := X.w) hl hd dp hx dd'
  have he : ∃ q, h'.get? a = some q := let ⟨q, _, _, hq, _⟩ := dd'; ⟨q, hq⟩
  exact h2 hn ep' _ (d_write I (by rw [e]; exact True.intro) hs he (ok' _))
end
end
end TL
/-! TL: dicts, the rules -/
namespace TL
open PySem PySem.Spec L2
open Classical
/-- the trees' classes are of this program -/
structure CurP (wd : Wd) (X : Cx) : Prop where
  p : wd.cl.P = X.prog
  w : wd.cl.w = X.w
section
variable {X : Cx} {wd : Wd} {e o a b c i f value : Expr} {es rest : List Expr} {w wo wa wb wi wx : WE} {pos p apos cpos : Pos} {x m : Str} {hu : X.A.units + 64 < cLine}
theorem dgx_of (cp : CurP wd X) {G : Gh} {H : Hp} {μ : Mu} {v1 v2 : V} {t : Bool} {ds : List (NestedKey × D)} {d2 : D} {k : NestedKey} (r : Rep X.K wd.cl G H μ) (h1 : Den1 X.K wd.cl G H v1 (.dic t ds)) (h2 : Den1 X.K wd.cl G H v2 d2) (hk : dKey t d2 = some k) :
    ∃ a o, v1 = .ref a ∧ DGx X H a v2 o ∧ (∀ d, dlook k ds = some d → ∃ v, o = some v ∧ Den X.K wd.cl G v d) ∧ (dlook k ds = none → o = none) := by
  obtain ⟨a, ob, rfl, hr, ok⟩ := h1
  obtain ⟨hn, hko⟩ := dKey_eq hk
  have kd := Den.key _ _ _ (h2.den r.sub) hn
  cases t with
  | false =>
    obtain ⟨ep, vs, rfl, hd⟩ := ok.dicK
    obtain ⟨j, rfl⟩ := keyOk_f hko
    obtain ⟨q1, q2⟩ := denK_look (k := j) hd
    rw [cp.p, cp.w] at hr
    exact ⟨a, valV vs j, rfl, .inl ⟨ep, vs, j, hr, kden_f kd, rfl⟩, q1, q2⟩
  | true =>
    obtain ⟨ep, xs, rfl, hd⟩ := ok.dicT
    obtain ⟨dp, hb⟩ := keyOk_t hko
    obtain ⟨b, rfl⟩ := hb kd
    obtain ⟨q1, q2⟩ := denT_look (k := k) hd
    rw [cp.p, cp.w] at hr
    have hks : ∀ x ∈ xs, KDen X.K H (.ref x.2.1) x.1 := fun x hx => KDen.mono r.sub _ _ (denT_keys hd x hx)
    cases q : dlook k ds with
    | none => exact ⟨a, none, rfl, .inr ⟨ep, xs, k, b, hr, rfl, kd, dp, hks, .inl ⟨rfl, q2 q⟩⟩, fun d z => (by cases z), fun _ => rfl⟩
    | some d =>
      obtain ⟨pp, v, e1, e2, e3⟩ := q1 d q
      exact ⟨a, some v, rfl, .inr ⟨ep, xs, k, b, hr, rfl, kd, dp, hks, .inr ⟨v, pp, rfl, e1, e2⟩⟩, fun d' z => (by cases z; exact ⟨v, rfl, e3⟩), fun z => (by cases z)⟩
/-! in, not in -/
def rInX (X : Cx) (g : Bool → Bool) : R2 := fun x y H Q => ∃ a o, y = .ref a ∧ DGx X H a x o ∧ Q (.bl (g o.isSome)) H
theorem op_inX (hu : X.A.units + 64 < cLine) : OpR X (compareOp .In) (rInX X fun b => b) := by
  intro pins s σ H x y v u Q I rx ry h
  obtain ⟨a, ov, rfl, g, q⟩ := h
  cases ry
  exact dx_in hu I g rx fun s3 I3 => ⟨.bl ov.isSome, H, I3, rfl, q⟩
theorem op_notInX (hu : X.A.units + 64 < cLine) : OpR X (compareOp .NotIn) (rInX X fun b => !b) := by
  intro pins s σ H x y v u Q I rx ry h
  obtain ⟨a, ov, rfl, g, q⟩ := h
  cases ry
  exact dx_notIn hu I g rx fun s3 I3 => ⟨.bl (!ov.isSome), H, I3, rfl, q⟩
/-- in a list, a tuple, a dict -/
def oInD (g : Bool → Bool) : OP := fun a b k => match b with
  | .dic t ds => ∃ j, dKey t a = some j ∧ k (.d (.bl (g (dlook j ds).isSome)))
  | b => oInG g a b k
theorem ot_inD_of {g : Bool → Bool} {f : Value → Value → Sem Value} (cp : CurP wd X) (h0 : OpT wd X f (oInG g)) (h1 : OpR X f (rInX X g)) : OpT wd X f (oInD g) := by
  obtain ⟨r, hr, h0⟩ := h0.ok
  refine ⟨_, hr.or h1, fun v1 v2 d1 d2 G H μ k Q r' e1 e2 ho hk => ?_⟩
  cases d2 with
  | dic t ds =>
    obtain ⟨j, hj, ho⟩ := ho
    obtain ⟨a, ov, rfl, g', q1, q2⟩ := dgx_of cp r' e2 e1 hj
    refine .inr ⟨a, ov, rfl, g', ?_⟩
    have es : ov.isSome = (dlook j ds).isSome := by
      cases q : dlook j ds with
      | none => rw [q2 q]; rfl
      | some d => obtain ⟨v, e, _⟩ := q1 d q; rw [e]; rfl
    rw [es]
    exact hk _ ho _ G H (.refl r') (.bl _)
  | _ => exact .inl (h0 v1 v2 _ _ G H μ k Q r' e1 e2 ho hk)
theorem ot_inD (cp : CurP wd X) (hu : X.A.units + 65 < cLine) : OpT wd X (compareOp .In) (oInD fun b => b) := ot_inD_of cp (ot_in hu) (op_inX (by omega))
theorem ot_notInD (cp : CurP wd X) (hu : X.A.units + 65 < cLine) : OpT wd X (compareOp .NotIn) (oInD fun b => !b) := ot_inD_of cp (ot_notIn hu) (op_notInX (by omega))
def foInD (g : Bool → Bool) : FOp := fun a b => match b with
  | .dic t ds => (dKey t a).map fun j => .d (.bl (g (dlook j ds).isSome))
  | b => foIn g a b
theorem of_inD {g : Bool → Bool} : OpF (oInD g) (foInD g) := fun a b r k e q => by
  cases b with
  | dic t ds =>
    obtain ⟨j, e1, rfl⟩ := Option.map_eq_some_iff.mp (show ((dKey t a).map fun j => R.d (.bl (g (dlook j ds).isSome))) = some r from e)
    exact ⟨j, e1, q⟩
  | lst ds => exact of_in (f := g) a (.lst ds) r k e q
  | tup ds => exact of_in (f := g) a (.tup ds) r k e q
  | _ => cases e
/-! d[k] -/
def rIxX (X : Cx) : R2 := fun x y H Q => ∃ a v, x = .ref a ∧ DGx X H a y (some v) ∧ Q v H
theorem ix_dic (hu : X.A.units + 64 < cLine) : IxR X (rIxX X) := by
  intro value slice pins s σ H x y v u Q I rx ry h hs
  obtain ⟨a, z, rfl, g, q⟩ := h
  cases rx
  have hT := (dx_typeIs I g).1
  unfold PyProof.Rows.subscriptTail
  refine wpAny_bind ?_
  rw [getitemInPython_of_ne hT.not_modules]
  refine wpAny_bind (wpAny_specialOf hT PySem.F.slot_dict_getitem.lookup ?_)
  have fin : wpAny (model X.prog X.w) X.A (subscripted slice false (.ref a) u) (fun r s₃ => wpAny (model X.prog X.w) X.A (letTemporaryGo value (.ref a) r >>= fun _ => pure r) (EP X pins σ Q) X.xe s₃) X.xe s := by
    rw [hs]
    exact wpAny_operating (dx_getItem hu I g ry fun w' s' I' rw' => wpAny_bind (wpAny_letTemporaryGo (wpAny_pure ⟨z, H, I', rw', q⟩)))
  first
    | exact wpAny_pure (wpAny_bind fin)
    | exact wpAny_bind (wpAny_pure (wpAny_bind fin))
    | exact wpAny_bind fin
def oIxD : OP := fun a b k => match a with
  | .dic t ds => ∃ j d, dKey t b = some j ∧ dlook j ds = some d ∧ k (.d d)
  | a => oIx a b k
theorem qe_ixD (cp : CurP wd X) (hu : X.A.units + 64 < cLine) (ha : QE wd X a wa) (hb : QE wd X b wb) (hs : PlainIx b := by intro _ _; rfl) : QE wd X (.Subscript a b pos) (wBin oIxD wa wb) :=
  ⟨PE.imp (pe_ix (ix_seq.or (ix_dic hu)) ha.pe hb.pe hs) fun σ H Q h => two (f := getItem) (r := fun x y H Q => rIx X.K x y H Q ∨ rIxX X x y H Q) ha hb (fun v1 v2 d1 d2 G H μ k Q r h1 h2 ho hk => by
    cases d1 with
    | dic t ds =>
      obtain ⟨j, d, hj, hd, ho⟩ := ho
      obtain ⟨a, ov, rfl, g', q1, q2⟩ := dgx_of cp r h1 h2 hj
      obtain ⟨v, rfl, den⟩ := q1 d hd
      exact .inr ⟨a, v, rfl, g', hk _ ho v G H (.refl r) den⟩
    | _ => exact .inl (ix_hold r h1 h2 ho hk)) h⟩
def foIxD : FOp := fun a b => match a with
  | .dic t ds => (dKey t b).bind fun j => (dlook j ds).map R.d
  | a => foIx a b
theorem of_ixD : OpF oIxD foIxD := fun a b r k e q => by
  cases a with
  | dic t ds =>
    obtain ⟨j, e1, e2⟩ := Option.bind_eq_some_iff.mp (show ((dKey t b).bind fun j => (dlook j ds).map R.d) = some r from e)
    obtain ⟨d, e3, rfl⟩ := Option.map_eq_some_iff.mp e2
    exact ⟨j, d, e1, e3, q⟩
  | lst ds => exact of_ix (.lst ds) b r k e q
  | tup ds => exact of_ix (.tup ds) b r k e q
  | str z => exact of_ix (.str z) b r k e q
  | _ => cases e
theorem fe_ixD {A B : FE} (cp : CurP wd X) (hu : X.A.units + 64 < cLine) (ha : QE wd X a (ofE A)) (hb : QE wd X b (ofE B)) (hs : PlainIx b := by intro _ _; rfl) : QE wd X (.Subscript a b pos) (ofE (fBin foIxD A B)) := (qe_ixD cp hu ha hb hs).imp fun sd μ x k h => fBin_le of_ixD h
/-! {} -/
theorem pe_dnewX : PE X (.Dict [] [] pos) (fun _ H Q => ∀ p, H p = none → Q (.ref p) (upd H p (.ext (DicT X.prog X.w p 0 [])))) := ⟨fun pins s σ H Q I h =>
  wpAny_Dict_empty ⟨.ref s.heap.objs.size, _, I.laid (a := s.heap.objs.size) (o := .ext (DicT X.prog X.w s.heap.objs.size 0 [])) (t' := s.toks) (fun _ _ q => Heap.get?_push_of_some _ q) (Nat.le_refl _)
    ⟨⟨Nat.zero_le _, beq_eq_false_iff_ne.mpr (Ne.symm (Nat.ne_of_lt I.big)), fun x hx => (by cases hx), _, #[], Heap.get?_push_size _ rfl, ⟨rfl, rfl, rfl⟩, rfl, rfl, List.nodup_nil⟩, ⟨_, Heap.get?_push_size _ rfl⟩,
      fun h1 h2 ⟨a1, a2, a3, o, es, a4, a5⟩ z => ⟨a1, a2, a3, o, es, z _ a4, a5⟩⟩, rfl, h _ (I.hok.fresh (Nat.le_refl _))⟩⟩
theorem pe_dnewKX : PE X (.Dict [] [] pos) (fun _ H Q => ∀ p, H p = none → Q (.ref p) (upd H p (.ext (DicK X.prog X.w p 0 [])))) := ⟨fun pins s σ H Q I h =>
  wpAny_Dict_empty ⟨.ref s.heap.objs.size, _, I.laid (a := s.heap.objs.size) (o := .ext (DicK X.prog X.w s.heap.objs.size 0 [])) (t' := s.toks) (fun _ _ q => Heap.get?_push_of_some _ q) (Nat.le_refl _)
    ⟨⟨Nat.zero_le _, beq_eq_false_iff_ne.mpr (Ne.symm (Nat.ne_of_lt I.big)), [], .nil, _, #[], Heap.get?_push_size _ rfl, ⟨rfl, rfl, rfl⟩, rfl, (fun e he => absurd he (by simp)), .nil, List.nodup_nil⟩, ⟨_, Heap.get?_push_size _ rfl⟩,
      fun h1 h2 ⟨a1, a2, vs, a3, o, es, a4, a5⟩ z => ⟨a1, a2, vs, a3, o, es, z _ a4, a5⟩⟩, rfl, h _ (I.hok.fresh (Nat.le_refl _))⟩⟩
def wDnew (t : Bool) : WE := fun _ μ _ k => k (.new (.dic t [])) μ
theorem qe_dnew (cp : CurP wd X) (t : Bool) : QE wd X (.Dict [] [] pos) (wDnew t) := by
  cases t with
  | false => exact ⟨PE.imp pe_dnewKX fun σ H Q ⟨G0, H0, μ0, G, μ, sd, x, k, hx, hs, hw, hk, hxo⟩ p hp => hk _ _ hw _ G _ (Ext.loose hx.rep hp) ⟨p, _, rfl, hp, upd_same, ⟨0, [], by rw [cp.p, cp.w], .nil⟩, (hx.rep.free hp).1, (hx.rep.free hp).2⟩⟩
  | true => exact ⟨PE.imp pe_dnewX fun σ H Q ⟨G0, H0, μ0, G, μ, sd, x, k, hx, hs, hw, hk, hxo⟩ p hp => hk _ _ hw _ G _ (Ext.loose hx.rep hp) ⟨p, _, rfl, hp, upd_same, ⟨0, [], by rw [cp.p, cp.w], .nil⟩, (hx.rep.free hp).1, (hx.rep.free hp).2⟩⟩
def fDnew (t : Bool) : FE := fun _ μ => .ok (.new (.dic t [])) μ
theorem fe_dnew (cp : CurP wd X) (t : Bool) : QE wd X (.Dict [] [] pos) (ofE (fDnew t)) := qe_dnew cp t
/-! d[k] = v -/
def rSetX (X : Cx) : TSet := fun o i v H Q => ∃ a, o = .ref a ∧ DPx X H a i v Q
theorem set_dic (hu : X.A.units + 64 < cLine) : PSet X (rSetX X) := by
  intro pins s σ H o i v ov iv u Q I ro ri rv h
  obtain ⟨a, rfl, g⟩ := h
  cases ro
  exact dx_setItem hu I g ri rv fun H' s' I' q => ⟨H', I', q⟩
theorem dpx_of (cp : CurP wd X) {G : Gh} {H : Hp} {μ : Mu} {a : Addr} {ob : HO} {v2 v : V} {t : Bool} {ds : List (NestedKey × D)} {d2 d : D} {k : NestedKey} {Q : Hp → Prop} (r : Rep X.K wd.cl G H μ) (h1 : H a = some ob) (ok : CtOk X.K wd.cl G a ob (.dic t ds)) (h2 : Den1 X.K wd.cl G H v2 d2) (hk : dKey t d2 = some k) (hd : Den X.K wd.cl G v d) (hl : ds.length < sizeLine)
    (hkg : ∀ b, v2 = .ref b → KDen X.K G.fz (.ref b) k ∨ t = false)
    (hQ : ∀ ob', CtOk X.K wd.cl G a ob' (.dic t (dput k d ds)) → Q (upd H a ob')) : DPx X H a v2 v Q := by
  obtain ⟨hn, hko⟩ := dKey_eq hk
  have kd := Den.key _ _ _ (h2.den r.sub) hn
  cases t with
  | false =>
    obtain ⟨ep, vs, rfl, hd'⟩ := ok.dicK
    obtain ⟨j, rfl⟩ := keyOk_f hko
    rw [cp.p, cp.w] at h1
    exact .inl ⟨ep, vs, j, h1, kden_f kd, by rw [hd'.len]; exact hl, fun ep' => hQ _ ⟨ep', _, by rw [cp.p, cp.w], denK_put hd hd'⟩⟩
  | true =>
    obtain ⟨ep, xs, rfl, hd'⟩ := ok.dicT
    obtain ⟨dp, hb⟩ := keyOk_t hko
    obtain ⟨b, rfl⟩ := hb kd
    have hks : ∀ x ∈ xs, KDen X.K H (.ref x.2.1) x.1 := fun x hx => KDen.mono r.sub _ _ (denT_keys hd' x hx)
    have hg : KDen X.K G.fz (.ref b) k := by
      rcases hkg b rfl with z | z
      · exact z
      · cases z
    rw [cp.p, cp.w] at h1
    refine .inr ⟨ep, xs, k, b, h1, rfl, kd, dp, hks, by rw [hd'.len]; exact hl, fun u ep' ru => hQ _ ⟨ep', _, by rw [cp.p, cp.w], denT_put hg ru hd hd'⟩⟩
/-- x[e] = f, x's own dict -/
def wPutD (i : Nat) (wi wv : WE) : WS := fun E sd μ => match sd[i]? with
  | some (some (.own (.dic t ds))) => wv sd μ (E.x sd) fun r μ1 => withT r fun y => wi sd μ1 (E.x sd) fun r2 μ2 => withT r2 fun z => ∃ k, dKey t z = some k ∧ ds.length < sizeLine ∧ E.nx (sd.set i (some (.own (.dic t (dput k y ds))))) μ2
  | _ => False
theorem qs_putD {n : Nat} {x : Str} {p tpos : Pos} {ei : Expr} (cp : CurP wd X) (hu : X.A.units + 64 < cLine) (hi : QE wd X ei wi) (he : QE wd X e w) (hN : X.N[n]? = some x := by rfl) (hv : Vis X.env.scope x := by first | exact Or.inl rfl | exact Or.inr (Or.inl rfl) | exact Or.inr (Or.inr rfl)) (hd : (x == ("__debug__" : Str)) = false := by decide)
    (hcd : (x == ("__classdict__" : Str)) = false := by decide)
    (ha : ∀ v, assign (.Subscript (.Name x p) ei tpos) X.env v = (do
      let ov ← holding [v] (eval (.Name x p) X.env)
      let iv ← holding [v, ov] (eval ei X.env)
      standAt tpos
      holding [v, ov, iv] (setItem ov iv v)
      release [v, ov, iv] []) := by intro _; rfl)
    (hs : swapsWithSole [.Subscript (.Name x p) ei tpos] e pos.line X.env = pure false := by rfl) (hw : swappedStores [.Subscript (.Name x p) ei tpos] e X.env = pure none := by rfl)
    (h1 : (assignEach [.Subscript (.Name x p) ei tpos] X.env).map (·.2) = [assign (.Subscript (.Name x p) ei tpos) X.env] := by rfl) :
    QS wd X (.Assign [.Subscript (.Name x p) ei tpos] e pos) (wPutD n wi w) := by
  refine ⟨PS.imp (ps_asg he.pe (pg_sub (pe_var hN hv hd hcd) hi.pe (set_dic hu) ha) hs hw h1) fun D σ H ⟨G0, H0, μ0, G, μ, sd, E, hx, hsl, hw, hE⟩ => ?_⟩
  unfold wPutD at hw
  split at hw
  · rename_i t ds q
    refine ⟨G0, H0, μ0, G, μ, sd, _, _, hx, hsl, hw, fun r μ' q' v G' H' e' rel => ?_, hE.xok hx hsl⟩
    obtain ⟨y, hy, q'⟩ := withT_tree q'
    obtain ⟨G1, e1, s1, den⟩ := keep e' rel hy
    obtain ⟨pa, o, r1, r2, r3, r4, r5, r6⟩ := (hsl.step e1).own q
    refine ⟨.ref pa, r1, ?_⟩
    refine ⟨G0, H0, μ0, G1, μ', sd, _, _, hx.trans e1, hsl.step e1, q', fun r2' μ2 q2 v2 G2 H2 e2 rel2 => ?_, hE.xok (hx.trans e1) (hsl.step e1)⟩
    obtain ⟨z, hz, k, hk, hl, q2⟩ := withT_tree q2
    obtain ⟨G3, e3, s3, den2⟩ := keep e2 rel2 hz
    obtain ⟨t1, t2, t3⟩ := e3.fr pa _ r2 r4 r5
    refine ⟨pa, rfl, dpx_of cp e3.rep t1 (r3.mono e3.g) (Den.one e3.rep.sub den2) hk (Den.mono e3.g _ _ den) hl (fun b _ => .inl ?_) fun ob' ok' => ?_⟩
    · rename_i eb
      subst eb
      exact Den.key _ _ _ den2 (dKey_eq hk).1
    · obtain ⟨x1, x2⟩ := Slots.chg (es := .dic t (dput k y ds)) (us := ob') ((hx.trans e1).trans e3) ((hsl.step e1).step e3) q r1 t1 (r3.nxd) t2 t3 r6 ok'
      exact hE.nx _ _ q2 σ G3 _ x1 x2
  · exact hw.elim
/-- o[e] = f, a dict in the store -/
def wPutMD (wo wi wv : WE) : WS := fun E sd μ => wv sd μ (E.x sd) fun r μ1 => withT r fun y => wo sd μ1 (E.x sd) fun r2 μ2 => match r2 with
  | .d (.ref a) => wi sd μ2 (E.x sd) fun r3 μ3 => withT r3 fun z => ∃ t ds k, μ3[a]? = some (.box (.dic t ds)) ∧ dKey t z = some k ∧ ds.length < sizeLine ∧ E.nx sd (μ3.set a (.box (.dic t (dput k y ds))))
  | _ => False
theorem qs_putMD {ei : Expr} {tpos : Pos} (cp : CurP wd X) (hu : X.A.units + 64 < cLine) (ho : QE wd X o wo) (hi : QE wd X ei wi) (he : QE wd X e w)
    (ha : ∀ v, assign (.Subscript o ei tpos) X.env v = (do
      let ov ← holding [v] (eval o X.env)
      let iv ← holding [v, ov] (eval ei X.env)
      standAt tpos
      holding [v, ov, iv] (setItem ov iv v)
      release [v, ov, iv] []) := by intro _; rfl)
    (hs : swapsWithSole [.Subscript o ei tpos] e pos.line X.env = pure false := by rfl) (hw : swappedStores [.Subscript o ei tpos] e X.env = pure none := by rfl)
    (h1 : (assignEach [.Subscript o ei tpos] X.env).map (·.2) = [assign (.Subscript o ei tpos) X.env] := by rfl) :
    QS wd X (.Assign [.Subscript o ei tpos] e pos) (wPutMD wo wi w) := by
  refine ⟨PS.imp (ps_asg he.pe (pg_sub ho.pe hi.pe (set_dic hu) ha) hs hw h1) fun D σ H ⟨G0, H0, μ0, G, μ, sd, E, hx, hsl, hw, hE⟩ => ?_⟩
  refine ⟨G0, H0, μ0, G, μ, sd, _, _, hx, hsl, hw, fun r μ1 q v G1 H1 e1 rel => ?_, hE.xok hx hsl⟩
  obtain ⟨y, hy, q⟩ := withT_tree q
  obtain ⟨G1', e1', s1, den⟩ := keep e1 rel hy
  refine ⟨G0, H0, μ0, G1', μ1, sd, _, _, hx.trans e1', hsl.step e1', q, fun r2 μ2 q2 v2 G2 H2 e2 rel2 => ?_, hE.xok (hx.trans e1') (hsl.step e1')⟩
  cases r2 with
  | «at» i => exact q2.elim
  | new ds => exact q2.elim
  | d z =>
    cases z <;> try exact q2.elim
    rename_i n
    cases rel2 with
    | @ref pa _ hn =>
    refine ⟨G0, H0, μ0, G2, μ2, sd, _, _, (hx.trans e1').trans e2, (hsl.step e1').step e2, q2, fun r3 μ3 q3 v3 G3 H3 e3 rel3 => ?_, hE.xok ((hx.trans e1').trans e2) ((hsl.step e1').step e2)⟩
    obtain ⟨z, hz, t, ds, k, hm, hk, hl, q3⟩ := withT_tree q3
    obtain ⟨G4, e4, s4, den2⟩ := keep e3 rel3 hz
    obtain ⟨ob, ho, ok⟩ := e4.rep.box (e4.g.at hn) hm
    refine ⟨pa, rfl, dpx_of cp e4.rep ho ok (Den.one e4.rep.sub den2) hk (Den.mono (e2.g.trans e4.g) _ _ den) hl (fun b eb => .inl ?_) fun ob' ok' => ?_⟩
    · subst eb
      exact Den.key _ _ _ den2 (dKey_eq hk).1
    · exact hE.nx _ _ q3 σ G4 _ (Ext.chg (((hx.trans e1').trans e2).trans e4) (e4.g.at hn) (n' := .box (.dic t (dput k y ds))) ok') ((((hsl.step e1').step e2).step e4).chgN (e4.g.at hn))
end
end TL
/-! TL: the exception in hand, asked by an own class or a builtin one -/
namespace TL
open PySem PySem.Spec L2
open Classical
noncomputable section
section
variable {X : Cx} {cl : Cl} {fp : List D → V → Gh → Prop} {W : WX} {x : Str} {pos : Pos}
/-- T an own class -/
theorem fe_isEo {a C : Addr} {oe : Obj} {cls : Value} {d : Option Addr} {pn : List (Addr × Obj)} {xi T : Str} {p p1 p2 : Pos} {isx : Nat → Option Bool} {i : Nat} (hz : Zc cls d oe) (hf : ∃ vs, oe.data = .fields vs) (hT : IsxT X.K cl (.ref C) isx)
    (hm : X.mg xi = none) (hmT : X.mg T = some (.ref C)) (hgT : Gl X T := by rfl) (hdT : (T == ("__debug__" : Str)) = false := by decide)
    (hN : X.N[i]? = some x := by rfl) (hv : Vis X.env.scope x := by first | exact Or.inl rfl | exact Or.inr (Or.inl rfl) | exact Or.inr (Or.inr rfl)) (hd : (x == ("__debug__" : Str)) = false := by decide) (hcd : (x == ("__classdict__" : Str)) = false := by decide)
    (hg : Gl X xi := by rfl) (hvI : bootBuiltins xi = some (.builtin "isinstance") := by decide +kernel) (hn : xi ≠ "__name__" := by decide) (hdb : (xi == ("__debug__" : Str)) = false := by decide)
    (he1 : starEach [.Name x p1, .Name T p2] X.env = (false, eval (.Name x p1) X.env) :: starEach [.Name T p2] X.env := by rfl) (he2 : starEach [.Name T p2] X.env = (false, eval (.Name T p2) X.env) :: starEach [] X.env := by rfl)
    (hpl : (backTo pos (starEach [.Name T p2] X.env)).any (·.1) = false := by rfl) :
    QE ⟨cl, W, some (a, cls, d), fp⟩ (X.suite a ((a, oe) :: pn)) (.Call (.Name xi p) [.Name x p1, .Name T p2] [] pos) (ofE (fIsE i isx)) :=
  fe_isE (wd := ⟨cl, W, none, fp⟩) (i := i) hz hf hT hm (pe_glob (X := X.suite a ((a, oe) :: pn)) (v := .ref C) hgT hmT rfl hdT) (fun u h => h) hN hv hd hcd hg hvI hn hdb he1 he2 hpl
/-- T a builtin class -/
theorem fe_isEt {a : Addr} {t : String} {oe : Obj} {cls : Value} {d : Option Addr} {pn : List (Addr × Obj)} {xi T : Str} {p p1 p2 : Pos} {isx : Nat → Option Bool} {i : Nat} (hz : Zc cls d oe) (hf : ∃ vs, oe.data = .fields vs) (hT : IsxT X.K cl (.type t) isx)
    (hm : X.mg xi = none) (hmT : X.mg T = none) (hgT : Gl X T := by rfl) (hvT : bootBuiltins T = some (.type t) := by decide +kernel) (hnT : T ≠ "__name__" := by decide) (hdT : (T == ("__debug__" : Str)) = false := by decide)
    (hN : X.N[i]? = some x := by rfl) (hv : Vis X.env.scope x := by first | exact Or.inl rfl | exact Or.inr (Or.inl rfl) | exact Or.inr (Or.inr rfl)) (hd : (x == ("__debug__" : Str)) = false := by decide) (hcd : (x == ("__classdict__" : Str)) = false := by decide)
    (hg : Gl X xi := by rfl) (hvI : bootBuiltins xi = some (.builtin "isinstance") := by decide +kernel) (hn : xi ≠ "__name__" := by decide) (hdb : (xi == ("__debug__" : Str)) = false := by decide)
    (he1 : starEach [.Name x p1, .Name T p2] X.env = (false, eval (.Name x p1) X.env) :: starEach [.Name T p2] X.env := by rfl) (he2 : starEach [.Name T p2] X.env = (false, eval (.Name T p2) X.env) :: starEach [] X.env := by rfl)
    (hpl : (backTo pos (starEach [.Name T p2] X.env)).any (·.1) = false := by rfl) :
    QE ⟨cl, W, some (a, cls, d), fp⟩ (X.suite a ((a, oe) :: pn)) (.Call (.Name xi p) [.Name x p1, .Name T p2] [] pos) (ofE (fIsE i isx)) :=
  fe_isE (wd := ⟨cl, W, none, fp⟩) (i := i) hz hf hT hm (pe_bltn (X := X.suite a ((a, oe) :: pn)) hgT hmT hvT (v := .ty t) rfl hnT hdT) (fun u h => h) hN hv hd hcd hg hvI hn hdb he1 he2 hpl
theorem fe_xfo {a C : Addr} {oe : Obj} {cls : Value} {d : Option Addr} {pn : List (Addr × Obj)} {p1 : Pos} {f c i : Nat} {nf : Str} (hz : Zc cls d oe) (hf : ∃ vs, oe.data = .fields vs) (hc : cl c = some C) (T : XfC X.K C) (hno : PySem.W.findIn X.K (.ref C) nf = some none)
    (hN : X.N[i]? = some x := by rfl) (hv : Vis X.env.scope x := by first | exact Or.inl rfl | exact Or.inr (Or.inl rfl) | exact Or.inr (Or.inr rfl)) (hd : (x == ("__debug__" : Str)) = false := by decide) (hcd : (x == ("__classdict__" : Str)) = false := by decide)
    (hf3 : f < 32 := by decide) (hn : fnm f = nf := by rfl) (hb : attributeBase (.Name x p1) nf X.env (eval (.Name x p1) X.env) = eval (.Name x p1) X.env := by rfl) :
    QE ⟨cl, W, some (a, cls, d), fp⟩ (X.suite a ((a, oe) :: pn)) (.Attribute (.Name x p1) nf pos) (ofE (fXf i c f)) := fe_xf (wd := ⟨cl, W, none, fp⟩) (i := i) hz hf hc T hno hN hv hd hcd hf3 hn hb
end
end
end TL
/-! TL: words for plain laws -/
namespace TL
open PySem PySem.Spec L2
open Classical
noncomputable section
theorem mulX {i j : Int} (h1 : -(2 ^ 64) < i ∧ i < 2 ^ 64) (h3 : -(2 ^ 64) < j ∧ j < 2 ^ 64) : CMulX i j := mulX_small h1.1 h1.2 h3.1 h3.2
theorem divW {i j : Int} (h : 0 < j) (h2 : j < 2 ^ 62) : CDivW i j := ⟨h, by
  have : j.natAbs.log2 < 62 := (Nat.log2_lt (by omega)).mpr (by omega)
  omega⟩
theorem cpow : CPow 10 40 := ⟨by decide, by decide, by decide⟩
/-- the k-th cell -/
def cell (ns : List Int) (k : Nat) : Int := ns.getD k 0
theorem atI_map (ns : List Int) (k : Nat) (h : k < ns.length) : atI (ns.map D.int) (k : Int) = some (.int (cell ns k)) := by
  unfold atI ixN cell
  simp [h]
theorem atI_g {α : Type} {xs : List α} {i : Int} {k : Nat} {a : α} (e : i = k) (h : xs[k]? = some a) : atI xs i = some a := by
  subst e
  rw [atI_n]
  exact h
/-! things that nobody changes any more -/
@[simp] theorem bel_nil {n : Nat} : belowF n [] = true := by rw [belowF]
@[simp] theorem bel_cons {n f : Nat} {d : D} {fs : List (Nat × D)} : belowF n ((f, d) :: fs) = (below n d && belowF n fs) := by rw [belowF]
@[simp] theorem bel_non {n : Nat} : below n .non = true := by rw [below]
@[simp] theorem bel_bl {n : Nat} {b : Bool} : below n (.bl b) = true := by rw [below]
@[simp] theorem bel_int {n : Nat} {b : Int} : below n (.int b) = true := by rw [below]
@[simp] theorem bel_str {n : Nat} {b : Str} : below n (.str b) = true := by rw [below]
@[simp] theorem bel_lst {n : Nat} {ds : List D} : below n (.lst ds) = belowL n ds := by rw [below]
@[simp] theorem bel_tup {n : Nat} {ds : List D} : below n (.tup ds) = belowL n ds := by rw [below]
@[simp] theorem bel_dic {n : Nat} {t : Bool} {ds : List (NestedKey × D)} : below n (.dic t ds) = belowK n ds := by rw [below]
@[simp] theorem bel_obj {n c : Nat} {fs : List (Nat × D)} : below n (.obj c fs) = belowF n fs := by rw [below]
@[simp] theorem bel_ref {n a : Nat} : below n (.ref a) = decide (a < n) := by rw [below]
@[simp] theorem belL_nil {n : Nat} : belowL n [] = true := by rw [belowL]
@[simp] theorem belL_cons {n : Nat} {d : D} {ds : List D} : belowL n (d :: ds) = (below n d && belowL n ds) := by rw [belowL]
theorem belL_all {n : Nat} : ∀ {ds : List D}, belowL n ds = ds.all (below n)
  | [] => by simp
  | d :: ds => by simp [belL_all (ds := ds)]
theorem belL_map {n : Nat} {α : Type} {f : α → D} {xs : List α} (h : ∀ x, below n (f x) = true) : belowL n (xs.map f) = true := by
  rw [belL_all]; simp [h]
@[simp] theorem belK_nil {n : Nat} : belowK n [] = true := by rw [belowK]
@[simp] theorem belK_cons {n : Nat} {k : NestedKey} {d : D} {ds : List (NestedKey × D)} : belowK n ((k, d) :: ds) = (below n d && belowK n ds) := by rw [belowK]
theorem resF_bel {n : Nat} {μ : Mu} : ∀ {fs : List (Nat × D)}, belowF n fs = true → resF n μ fs = some fs
  | [], _ => rfl
  | (f, d) :: r, h => by
    simp at h
    simp [resF, res1, h.1, resF_bel (μ := μ) h.2]
theorem mkF_ok {c n : Nat} {F : FF} {dd ds : List D} {μ : Mu} {fs : List (Nat × D)} (h : F (.ref μ.length :: (ds ++ dd)) (μ ++ [.ins c []]) = .ok (.d .non) (μ ++ [.ins c fs])) (hb : belowF μ.length fs = true) (hn : (ds ++ dd).length = n := by rfl) : mkF c n F dd ds μ = .ok (.d (.obj c fs)) μ := by
  unfold mkF
  rw [if_pos hn, h]
  simp [cutE, nonOf, resF_bel hb]
theorem mkF_ex {c n c' : Nat} {F : FF} {dd ds : List D} {μ t : Mu} {fs : List (Nat × D)} (h : F (.ref μ.length :: (ds ++ dd)) (μ ++ [.ins c []]) = .ex c' fs (μ ++ t)) (hb : belowF μ.length fs = true) (hn : (ds ++ dd).length = n := by rfl) : mkF c n F dd ds μ = .ex c' fs μ := by
  unfold mkF
  rw [if_pos hn, h]
  simp [cutE, hb]
/-! the end of a store -/
@[simp] theorem end_at {μ : Mu} {n : Nd} : (μ ++ [n])[μ.length]? = some n := by simp
@[simp] theorem end_set {μ : Mu} {n m : Nd} : (μ ++ [n]).set μ.length m = μ ++ [m] := by simp
/-! == on alike things -/
theorem deq_self : ∀ (n : Nat) (d : D), okB n d = true → deq d d = true
  | n, .non, _ => by simp [deq]
  | n, .bl _, _ => by simp [deq]
  | n, .int _, _ => by simp [deq]
  | n, .str _, _ => by simp [deq]
  | n + 1, .lst ds, h => by
    rw [deq_lst]
    exact go n ds (fun d hd => deq_self n d (by simp at h; exact h d hd))
  | n + 1, .tup ds, h => by
    rw [deq_tup]
    exact go n ds (fun d hd => deq_self n d (by simp at h; exact h d hd))
  | 0, .lst ds, h => by simp [okB] at h
  | 0, .tup ds, h => by simp [okB] at h
  | n, .dic _ _, h => by cases n <;> simp [okB] at h
  | n, .obj _ _, h => by cases n <;> simp [okB] at h
  | n, .ref _, h => by cases n <;> simp [okB] at h
where
  go (n : Nat) : ∀ ds : List D, (∀ d ∈ ds, deq d d = true) → deqL ds ds = true
    | [], _ => by simp
    | d :: ds, h => by
      rw [deqL_cons, h d (by simp), go n ds (fun e he => h e (by simp [he]))]
      rfl
theorem deqL_self {n : Nat} {ds : List D} (h : ds.all (okB n) = true) : deqL ds ds = true := by
  have := deq_self (n + 1) (.lst ds) h
  rwa [deq_lst] at this
/-- an encoding that == tells apart -/
theorem deqL_inj {α : Type} [DecidableEq α] {f : α → D} (h : ∀ x y, deq (f x) (f y) = decide (x = y)) : ∀ {xs ys : List α}, deqL (xs.map f) (ys.map f) = decide (xs = ys)
  | [], [] => by simp
  | [], y :: ys => by simp
  | x :: xs, [] => by simp
  | x :: xs, y :: ys => by simp [h, deqL_inj h (xs := xs) (ys := ys), Bool.decide_and]
theorem anyD_inj {α : Type} [DecidableEq α] {f : α → D} (h : ∀ x y, deq (f x) (f y) = decide (x = y)) (x : α) : ∀ {xs : List α}, anyD (f x) (xs.map f) = decide (x ∈ xs)
  | [] => rfl
  | y :: xs => by
    have ih := anyD_inj h x (xs := xs)
    unfold anyD at ih ⊢
    rw [List.map_cons, List.any_cons, ih, h]
    by_cases e : y = x
    · subst e; simp
    · have e' : ¬ x = y := fun z => e z.symm
      simp [e, e']
/-- pairs of numbers -/
def prD (p : Int × Int) : D := .tup [.int p.1, .int p.2]
@[simp] theorem vw_prD {μ : Mu} {sd : SD} {p : Int × Int} : vw μ sd (.d (prD p)) = prD p := rfl
@[simp] theorem okB_prD {n : Nat} {p : Int × Int} : okB (n + 1) (prD p) = true := by simp [prD]
@[simp] theorem deq_prD {p q : Int × Int} : deq (prD p) (prD q) = decide (p = q) := by
  obtain ⟨a, b⟩ := p; obtain ⟨c, d⟩ := q
  simp [prD, Bool.decide_and, Prod.ext_iff]
@[simp] theorem deqL_prD {xs ys : List (Int × Int)} : deqL (xs.map prD) (ys.map prD) = decide (xs = ys) := deqL_inj fun _ _ => deq_prD
@[simp] theorem isNon_prD {p : Int × Int} : isNon (prD p) = false := rfl
@[simp] theorem bel_prD {n : Nat} {p : Int × Int} : below n (prD p) = true := by simp [prD]
@[simp] theorem belL_prD {n : Nat} {xs : List (Int × Int)} : belowL n (xs.map prD) = true := belL_map fun _ => bel_prD
/-! walks -/
/-- a for that is never left ahead of its end -/
theorem forF_inv {tg : Tg} {S : FS} (I : List D → SD → Mu → Prop) (step : ∀ d ds sd μ, I (d :: ds) sd μ → ∃ sd0, tg.bf d sd = some sd0 ∧ ∃ sd' μ', (S sd0 μ = .nx sd' μ' ∨ S sd0 μ = .ct sd' μ') ∧ I ds sd' μ') :
    ∀ {ds : List D} {sd : SD} {μ : Mu}, I ds sd μ → ∃ sd' μ', forF none tg S ds sd μ = .nx sd' μ' ∧ I [] sd' μ'
  | [], sd, μ, h => ⟨sd, μ, forF_nil, h⟩
  | d :: ds, sd, μ, h => by
    obtain ⟨sd0, h1, sd', μ', h2, h3⟩ := step d ds sd μ h
    obtain ⟨sd2, μ2, h4, h5⟩ := forF_inv I step h3
    refine ⟨sd2, μ2, ?_, h5⟩
    rw [forF_cons h1]
    rcases h2 with h2 | h2 <;> rw [h2] <;> simpa using h4
/-- a comprehension without effect -/
theorem lcF_map {α : Type} {tg : Tg} {T : FT} {A : FE} {sd : SD} {μ : Mu} {e : α → D} {t : α → Bool} {f : α → D} : ∀ {xs : List α} {acc : List D},
    (∀ x ∈ xs, ∃ sd', tg.bf (e x) sd = some sd' ∧ T sd' μ = .ok (t x) μ ∧ (t x = true → ∃ r, A sd' μ = .ok r μ ∧ r.tree = some (f x))) →
    lcF none tg T A sd (xs.map e) acc μ = .ok (.new (.lst (acc ++ (xs.filter t).map f))) μ
  | [], acc, _ => by simp [lcF, lkOk]
  | x :: xs, acc, h => by
    obtain ⟨sd', h1, h2, h3⟩ := h x (by simp)
    have ih := fun {acc : List D} => lcF_map (xs := xs) (acc := acc) fun y hy => h y (by simp [hy])
    rw [List.map_cons, lcF, if_pos (show lkOk none μ from trivial), h1]
    dsimp only
    rw [h2]
    cases q : t x with
    | false =>
      dsimp only
      rw [ih]
      simp [q]
    | true =>
      obtain ⟨r, h4, h5⟩ := h3 q
      dsimp only
      rw [h4]
      dsimp only
      rw [h5]
      dsimp only
      rw [ih]
      simp [q]
theorem rngD_map {n : Nat} : rngD 0 n = (List.range n).map fun k : Nat => D.int k := by
  unfold rngD
  refine List.map_congr_left fun i _ => ?_
  simp
theorem lcF_rng {tg : Tg} {T : FT} {A : FE} {sd : SD} {μ : Mu} {n : Nat} (t : Nat → Bool) (f : Nat → D)
    (h : ∀ k < n, ∃ sd', tg.bf (.int k) sd = some sd' ∧ T sd' μ = .ok (t k) μ ∧ (t k = true → ∃ r, A sd' μ = .ok r μ ∧ r.tree = some (f k))) :
    lcF none tg T A sd (rngD 0 n) [] μ = .ok (.new (.lst (((List.range n).filter t).map f))) μ := by
  rw [rngD_map]
  have := lcF_map (tg := tg) (T := T) (A := A) (sd := sd) (μ := μ) (e := fun k : Nat => D.int k) (t := t) (f := f) (xs := List.range n) (acc := []) fun k hk => h k (by simpa using hk)
  simpa using this
theorem enumD_map {α : Type} {e : α → D} {xs : List α} : enumD (xs.map e) = xs.zipIdx.map fun p => D.tup [.int (p.2 : Nat), e p.1] := by
  unfold enumD
  rw [List.zipIdx_map]
  simp [List.map_map, Function.comp_def]
end
end TL
/-! TL: dicts as functions -/
namespace TL
open PySem PySem.Spec L2
open Classical
noncomputable section
section
variable {X : Cx} {wd : Wd} {e o a b c i f value : Expr} {es rest : List Expr} {w wo wa wb wi wx : WE} {pos p apos cpos : Pos} {x m : Str} {hu : X.A.units + 64 < cLine} {A B C O I : FE}
def dOf (o : Option (Option SV)) : Option (Bool × List (NestedKey × D)) := match o with
  | some (some (.own (.dic t ds))) => some (t, ds)
  | _ => none
@[simp] theorem dOf_own {t : Bool} {ds : List (NestedKey × D)} : dOf (some (some (.own (.dic t ds)))) = some (t, ds) := rfl
theorem dOf_eq {o : Option (Option SV)} {t : Bool} {ds : List (NestedKey × D)} (h : dOf o = some (t, ds)) : o = some (some (.own (.dic t ds))) := by
  unfold dOf at h
  split at h
  · cases h; rfl
  · cases h
def putDK (sd : SD) (i : Nat) (t : Bool) (ds : List (NestedKey × D)) (y : D) (k : Option NestedKey) (μ : Mu) : OS := match k with
  | some k => if ds.length < sizeLine then .nx (sd.set i (some (.own (.dic t (dput k y ds))))) μ else .no
  | none => .no
@[simp] theorem putDK_some {sd : SD} {i : Nat} {t : Bool} {ds : List (NestedKey × D)} {y : D} {k : NestedKey} {μ : Mu} : putDK sd i t ds y (some k) μ = if ds.length < sizeLine then .nx (sd.set i (some (.own (.dic t (dput k y ds))))) μ else .no := rfl
def thenDo (o : Option (Bool × List (NestedKey × D))) (k : Bool → List (NestedKey × D) → OS) : OS := match o with
  | some p => k p.1 p.2
  | none => .no
@[simp] theorem thenDo_some {t : Bool} {ds : List (NestedKey × D)} {k : Bool → List (NestedKey × D) → OS} : thenDo (some (t, ds)) k = k t ds := rfl
def sPutD (i : Nat) (I A : FE) : FS := fun sd μ => thenDo (dOf sd[i]?) fun t ds => thenS ((A sd μ).bind fun r μ1 => Out.of r.tree μ1) sd fun y μ1 => thenS ((I sd μ1).bind fun r μ2 => Out.of r.tree μ2) sd fun z μ2 => putDK sd i t ds y (dKey t z) μ2
@[simp] theorem sPutD_ap {n : Nat} {sd : SD} {μ : Mu} : sPutD n I A sd μ = thenDo (dOf sd[n]?) fun t ds => thenS ((A sd μ).bind fun r μ1 => Out.of r.tree μ1) sd fun y μ1 => thenS ((I sd μ1).bind fun r μ2 => Out.of r.tree μ2) sd fun z μ2 => putDK sd n t ds y (dKey t z) μ2 := rfl
theorem sPutD_le {n : Nat} {E : TEn} {sd : SD} {μ : Mu} (h : ofS (sPutD n I A) E sd μ) : wPutD n (ofE I) (ofE A) E sd μ := by
  unfold ofS sPutD at h
  cases q : dOf sd[n]? with
  | none => rw [q] at h; exact h.elim
  | some p =>
    obtain ⟨t, ds⟩ := p
    rw [q] at h
    unfold wPutD
    rw [dOf_eq q]
    refine sat_mono (sat_bind (sat_thenS h)) fun r μ' h => let ⟨y, e, h⟩ := sat_of h; tree_with e ?_
    refine sat_mono (sat_bind (sat_thenS h)) fun r2 μ2 h => let ⟨z, e2, h⟩ := sat_of h; tree_with e2 ?_
    cases q3 : dKey t z with
    | none => rw [q3] at h; exact h.elim
    | some k =>
      rw [q3] at h
      obtain ⟨hl, h⟩ := sat_iteS h
      exact ⟨k, rfl, hl, h⟩
theorem fs_putD {n : Nat} {x : Str} {p tpos : Pos} {ei : Expr} (cp : CurP wd X) (hu : X.A.units + 64 < cLine) (hi : QE wd X ei (ofE I)) (he : QE wd X e (ofE A)) (hN : X.N[n]? = some x := by rfl) (hv : Vis X.env.scope x := by first | exact Or.inl rfl | exact Or.inr (Or.inl rfl) | exact Or.inr (Or.inr rfl)) (hd : (x == ("__debug__" : Str)) = false := by decide)
    (hcd : (x == ("__classdict__" : Str)) = false := by decide)
    (ha : ∀ v, assign (.Subscript (.Name x p) ei tpos) X.env v = (do
      let ov ← holding [v] (eval (.Name x p) X.env)
      let iv ← holding [v, ov] (eval ei X.env)
      standAt tpos
      holding [v, ov, iv] (setItem ov iv v)
      release [v, ov, iv] []) := by intro _; rfl)
    (hs : swapsWithSole [.Subscript (.Name x p) ei tpos] e pos.line X.env = pure false := by rfl) (hw : swappedStores [.Subscript (.Name x p) ei tpos] e X.env = pure none := by rfl)
    (h1 : (assignEach [.Subscript (.Name x p) ei tpos] X.env).map (·.2) = [assign (.Subscript (.Name x p) ei tpos) X.env] := by rfl) :
    QS wd X (.Assign [.Subscript (.Name x p) ei tpos] e pos) (ofS (sPutD n I A)) := (qs_putD cp hu hi he hN hv hd hcd ha hs hw h1).imp fun E sd μ h => sPutD_le h
/-- the dict at a node -/
def boxDN (o : Option Nd) : Option (Bool × List (NestedKey × D)) := match o with
  | some (.box (.dic t ds)) => some (t, ds)
  | _ => none
@[simp] theorem boxDN_dic {t : Bool} {ds : List (NestedKey × D)} : boxDN (some (.box (.dic t ds))) = some (t, ds) := rfl
theorem boxDN_eq {o : Option Nd} {t : Bool} {ds : List (NestedKey × D)} (h : boxDN o = some (t, ds)) : o = some (.box (.dic t ds)) := by
  unfold boxDN at h
  split at h
  · cases h; rfl
  · cases h
def putMK (sd : SD) (n : Nat) (t : Bool) (ds : List (NestedKey × D)) (y : D) (k : Option NestedKey) (μ : Mu) : OS := match k with
  | some k => if ds.length < sizeLine then .nx sd (μ.set n (.box (.dic t (dput k y ds)))) else .no
  | none => .no
@[simp] theorem putMK_some {sd : SD} {n : Nat} {t : Bool} {ds : List (NestedKey × D)} {y : D} {k : NestedKey} {μ : Mu} : putMK sd n t ds y (some k) μ = if ds.length < sizeLine then .nx sd (μ.set n (.box (.dic t (dput k y ds)))) else .no := rfl
def sPutMD (O I A : FE) : FS := fun sd μ => thenS ((A sd μ).bind fun r μ' => Out.of r.tree μ') sd fun y μ1 => thenS ((O sd μ1).bind fun r μ' => Out.of (refOf r) μ') sd fun n μ2 => thenS ((I sd μ2).bind fun r μ' => Out.of r.tree μ') sd fun z μ3 => thenDo (boxDN μ3[n]?) fun t ds => putMK sd n t ds y (dKey t z) μ3
@[simp] theorem sPutMD_ap {sd : SD} {μ : Mu} : sPutMD O I A sd μ = thenS ((A sd μ).bind fun r μ' => Out.of r.tree μ') sd fun y μ1 => thenS ((O sd μ1).bind fun r μ' => Out.of (refOf r) μ') sd fun n μ2 => thenS ((I sd μ2).bind fun r μ' => Out.of r.tree μ') sd fun z μ3 => thenDo (boxDN μ3[n]?) fun t ds => putMK sd n t ds y (dKey t z) μ3 := rfl
theorem sPutMD_le {E : TEn} {sd : SD} {μ : Mu} (h : ofS (sPutMD O I A) E sd μ) : wPutMD (ofE O) (ofE I) (ofE A) E sd μ := by
  refine sat_mono (sat_bind (sat_thenS h)) fun r μ1 h => ?_
  obtain ⟨y, e, h⟩ := sat_of h
  refine tree_with e (sat_mono (sat_bind (sat_thenS h)) fun r2 μ2 h => ?_)
  obtain ⟨n, e, h0⟩ := sat_of h
  cases refOf_eq e
  clear h
  refine sat_mono (sat_bind (sat_thenS h0)) fun r3 μ3 h1 => ?_
  obtain ⟨z, e, h2⟩ := sat_of h1
  refine tree_with e ?_
  clear h1
  cases q : boxDN μ3[n]? with
  | none => rw [q] at h2; exact h2.elim
  | some p =>
    obtain ⟨t, ds⟩ := p
    rw [q] at h2
    have h2 : (putMK sd n t ds y (dKey t z) μ3).sat E := h2
    cases q3 : dKey t z with
    | none => rw [q3] at h2; exact h2.elim
    | some k =>
      rw [q3] at h2
      obtain ⟨hl, h2⟩ := sat_iteS h2
      exact ⟨t, ds, k, boxDN_eq q, q3, hl, h2⟩
theorem fs_putMD {ei : Expr} {tpos : Pos} (cp : CurP wd X) (hu : X.A.units + 64 < cLine) (ho : QE wd X o (ofE O)) (hi : QE wd X ei (ofE I)) (he : QE wd X e (ofE A))
    (ha : ∀ v, assign (.Subscript o ei tpos) X.env v = (do
      let ov ← holding [v] (eval o X.env)
      let iv ← holding [v, ov] (eval ei X.env)
      standAt tpos
      holding [v, ov, iv] (setItem ov iv v)
      release [v, ov, iv] []) := by intro _; rfl)
    (hs : swapsWithSole [.Subscript o ei tpos] e pos.line X.env = pure false := by rfl) (hw : swappedStores [.Subscript o ei tpos] e X.env = pure none := by rfl)
    (h1 : (assignEach [.Subscript o ei tpos] X.env).map (·.2) = [assign (.Subscript o ei tpos) X.env] := by rfl) :
    QS wd X (.Assign [.Subscript o ei tpos] e pos) (ofS (sPutMD O I A)) := (qs_putMD cp hu ho hi he ha hs hw h1).imp fun E sd μ h => sPutMD_le h
/-! o.get(k, y) -/
def wGet2 (wo wk wy : WE) : WE := fun sd μ x k => wo sd μ x fun r μ1 => (∃ t ds, vw μ1 sd r = .dic t ds) ∧ wk sd μ1 x fun r2 μ2 => withT r2 fun z => wy sd μ2 x fun r3 μ3 => withT r3 fun y => ∃ t ds j, vw μ3 sd r = .dic t ds ∧ dKey t z = some j ∧ k (.d ((dlook j ds).getD y)) μ3
/-- a is a dict of one of the two kinds -/
def IsDx (X : Cx) (H : Hp) (a : Addr) : Prop := (∃ ep kvs, Rd H a (.ext (DicK X.prog X.w a ep kvs))) ∨ ∃ ep xs, Rd H a (.ext (DicT X.prog X.w a ep xs)) ∧ ∀ x ∈ xs, KDen X.K H (.ref x.2.1) x.1
theorem isDx_typeIs {pins : List (Addr × Obj)} {σ : L2.St} {H : Hp} {s : Shared} {a : Addr} (I : Inv X pins σ H s) (g : IsDx X H a) : s.TypeIs (.ref a) "dict" ∧ ∀ b, Value.ref a = .ref b → ∃ ob, s.heap.get? b = some ob ∧ ob.dict = none := by
  rcases g with ⟨ep, kvs, e⟩ | ⟨ep, xs, e, hk⟩
  · obtain ⟨_, _, vs, _, dd⟩ := dicK_rd I.hok e
    have t := dd.typeIs
    obtain ⟨ob, _, _, h1, h2, _⟩ := dd
    exact ⟨t, fun b q => by cases q; exact ⟨ob, h1, h2.2.1⟩⟩
  · obtain ⟨_, _, dd⟩ := dicT_of I e hk
    have t := dd.typeIs
    obtain ⟨ob, _, _, h1, h2, _⟩ := dd
    exact ⟨t, fun b q => by cases q; exact ⟨ob, h1, h2.2.1⟩⟩
def tGetX (X : Cx) (td ty tx : TE) : TE := fun σ H Q => td σ H fun x H1 => ∃ a, x = .ref a ∧ IsDx X H1 a ∧ ty σ H1 fun y H2 => tx σ H2 fun z H3 => ∃ o, DGx X H3 a y o ∧ Q (o.getD z) H3
theorem pe_getX {td ty tx : TE} (hu : X.A.units + 64 < cLine) (ho : PE X o td) (he : PE X e ty) (hf : PE X f tx) (m : M2 X o "get" apos e f cpos) : PE X (.Call (.Attribute o "get" apos) [e, f] [] cpos) (tGetX X td ty tx) := by
  refine ⟨fun pins s σ H Q I h => wpAny_Call_method m.base m.few m.line PySem.F.plainAttrs_dict PySem.F.slot_dict_get PySem.F.type_dict_get (thn (ho.run pins s σ H _ I h) fun u s1 ⟨x, H1, I1, rx, a, ex, g0, q1⟩ => ?_)⟩
  subst ex
  cases rx
  obtain ⟨t1, t2⟩ := isDx_typeIs I1 g0
  refine ⟨t1, t2, ?_⟩
  rw [m.trees]
  refine Calls.callWith_builtin rfl (Calls.evalArgs_plain (Calls.spliced_cons (thn (he.run pins s1 σ H1 _ I1 q1) ?_)))
  intro iv s2 ⟨y, H2, I2, ry, q2⟩
  refine Calls.spliced_cons (thn (hf.run pins s2 σ H2 _ I2 q2) ?_)
  intro fv s3 ⟨z, H3, I3, rz, ov, g, q3⟩
  exact Calls.spliced_nil (dx_get2 hu I3 g ry rz fun w' s4 I4 rw' => ⟨_, H3, I4, rw', q3⟩)
theorem dgx_any (cp : CurP wd X) {G : Gh} {H : Hp} {μ : Mu} {v1 : V} {t : Bool} {ds : List (NestedKey × D)} (r : Rep X.K wd.cl G H μ) (h1 : Den1 X.K wd.cl G H v1 (.dic t ds)) : ∃ a, v1 = .ref a ∧ IsDx X H a := by
  obtain ⟨a, ob, rfl, hr, ok⟩ := h1
  refine ⟨a, rfl, ?_⟩
  cases t with
  | false =>
    obtain ⟨ep, vs, rfl, hd⟩ := ok.dicK
    rw [cp.p, cp.w] at hr
    exact .inl ⟨ep, vs, hr⟩
  | true =>
    obtain ⟨ep, xs, rfl, hd⟩ := ok.dicT
    rw [cp.p, cp.w] at hr
    exact .inr ⟨ep, xs, hr, fun x hx => KDen.mono r.sub _ _ (denT_keys hd x hx)⟩
theorem qe_get2 (cp : CurP wd X) (hu : X.A.units + 64 < cLine) (ho : QE wd X o wo) (he : QE wd X e wa) (hf : QE wd X f wb) (m : M2 X o "get" apos e f cpos) : QE wd X (.Call (.Attribute o "get" apos) [e, f] [] cpos) (wGet2 wo wa wb) := by
  refine ⟨PE.imp (pe_getX hu ho.pe he.pe hf.pe m) fun σ H Q ⟨G0, H0, μ0, G, μ, sd, x, k, hx, hs, hw, hk, hxo⟩ => ?_⟩
  refine ⟨G0, H0, μ0, G, μ, sd, x, _, hx, hs, hw, fun r μ1 q v G1 H1 e1 rel => ?_, hxo⟩
  obtain ⟨G1', e1', s1, hold1⟩ := hold hs e1 rel
  obtain ⟨⟨t0, ds0, q0⟩, q⟩ := q
  obtain ⟨a, rfl, isd⟩ := dgx_any (t := t0) (ds := ds0) cp e1'.rep (by have := hold1 _ _ _ (.refl e1'.rep); rwa [q0] at this)
  refine ⟨a, rfl, isd, ?_⟩
  refine ⟨G0, H0, μ0, G1', μ1, sd, x, _, hx.trans e1', hs.step e1', q, fun r2 μ2 q2 v2 G2 H2 e2 rel2 => ?_, hxo.step e1'⟩
  obtain ⟨z, hz, q2⟩ := withT_tree q2
  obtain ⟨G2', e2', s2, den2⟩ := keep e2 rel2 hz
  refine ⟨G0, H0, μ0, G2', μ2, sd, x, _, (hx.trans e1').trans e2', (hs.step e1').step e2', q2, fun r3 μ3 q3 v3 G3 H3 e3 rel3 => ?_, (hxo.step e1').step e2'⟩
  obtain ⟨y, hy, t, ds, j, hv, hj, q3⟩ := withT_tree q3
  obtain ⟨G3', e3', s3, den3⟩ := keep e3 rel3 hy
  have h1 := hold1 _ _ _ (e2'.trans e3')
  rw [hv] at h1
  obtain ⟨a2, ov, ea, g, g1, g2⟩ := dgx_of cp e3'.rep h1 (Den.one e3'.rep.sub (Den.mono e3'.g _ _ den2)) hj
  cases ea
  refine ⟨ov, g, ?_⟩
  have hden : Den X.K wd.cl G3' (ov.getD v3) ((dlook j ds).getD y) := by
    cases q4 : dlook j ds with
    | none => rw [g2 q4]; exact den3
    | some d => obtain ⟨u, eu, du⟩ := g1 d q4; rw [eu]; exact du
  exact hk _ _ q3 _ G3' H3 ((e1'.trans e2').trans e3') hden
def getK (y : D) (a : D) (z : D) (μ : Mu) : Out R := match a with
  | .dic t ds => (match dKey t z with
    | some j => .ok (.d ((dlook j ds).getD y)) μ
    | none => .no)
  | _ => .no
def getJ (y : D) (ds : List (NestedKey × D)) (j : Option NestedKey) (μ : Mu) : Out R := match j with
  | some j => .ok (.d ((dlook j ds).getD y)) μ
  | none => .no
@[simp] theorem getK_dic {y z : D} {t : Bool} {ds : List (NestedKey × D)} {μ : Mu} : getK y (.dic t ds) z μ = getJ y ds (dKey t z) μ := rfl
@[simp] theorem getJ_some {y : D} {j : NestedKey} {ds : List (NestedKey × D)} {μ : Mu} : getJ y ds (some j) μ = .ok (.d ((dlook j ds).getD y)) μ := rfl
def isDic : D → Bool
  | .dic _ _ => true
  | _ => false
@[simp] theorem isDic_dic {t : Bool} {ds : List (NestedKey × D)} : isDic (.dic t ds) = true := rfl
def fGet2 (O A B : FE) : FE := fun sd μ => (O sd μ).bind fun r μ1 => if isDic (vw μ1 sd r) = true then ((A sd μ1).bind fun r2 μ2 => Out.of r2.tree μ2).bind fun z μ2 => ((B sd μ2).bind fun r3 μ3 => Out.of r3.tree μ3).bind fun y μ3 => getK y (vw μ3 sd r) z μ3 else .no
@[simp] theorem fGet2_ap {sd : SD} {μ : Mu} : fGet2 O A B sd μ = (O sd μ).bind fun r μ1 => if isDic (vw μ1 sd r) = true then ((A sd μ1).bind fun r2 μ2 => Out.of r2.tree μ2).bind fun z μ2 => ((B sd μ2).bind fun r3 μ3 => Out.of r3.tree μ3).bind fun y μ3 => getK y (vw μ3 sd r) z μ3 else .no := rfl
theorem isDic_eq {d : D} (h : isDic d = true) : ∃ t ds, d = .dic t ds := by
  cases d <;> first | exact ⟨_, _, rfl⟩ | cases h
theorem fGet2_le {sd : SD} {μ : Mu} {x : XT} {k : R → Mu → Prop} (h : ofE (fGet2 O A B) sd μ x k) : wGet2 (ofE O) (ofE A) (ofE B) sd μ x k :=
  sat_mono (sat_bind h) fun r μ1 h => by
    obtain ⟨h1, h⟩ := sat_ite h
    refine ⟨isDic_eq h1, sat_mono (sat_bind (sat_bind h)) fun r2 μ2 h => ?_⟩
    obtain ⟨z, e, h⟩ := sat_of h
    refine tree_with e (sat_mono (sat_bind (sat_bind h)) fun r3 μ3 h => ?_)
    obtain ⟨y, e, h⟩ := sat_of h
    refine tree_with e ?_
    cases q : vw μ3 sd r with
    | dic t ds =>
      rw [q] at h
      have h : (getJ y ds (dKey t z) μ3).sat x k := h
      cases q2 : dKey t z with
      | none => rw [q2] at h; exact h.elim
      | some j => rw [q2] at h; exact ⟨t, ds, j, rfl, q2, h⟩
    | _ => rw [q] at h; exact h.elim
theorem fe_get2 (cp : CurP wd X) (hu : X.A.units + 64 < cLine) (ho : QE wd X o (ofE O)) (he : QE wd X e (ofE A)) (hf : QE wd X f (ofE B)) (m : M2 X o "get" apos e f cpos := by exact ⟨by rfl, by rfl, by rfl, by rfl⟩) : QE wd X (.Call (.Attribute o "get" apos) [e, f] [] cpos) (ofE (fGet2 O A B)) := (qe_get2 cp hu ho he hf m).imp fun sd μ x k h => fGet2_le h
@[simp] theorem fDnew_ap {t : Bool} {sd : SD} {μ : Mu} : fDnew t sd μ = .ok (.new (.dic t [])) μ := rfl
end
/-! reckoning -/
section
variable {a b d : D} {xs : List D} {g : Bool → Bool} {t : Bool} {ds : List (NestedKey × D)} {i : Int}
@[simp] theorem foInD_dic : foInD g a (.dic t ds) = (dKey t a).map fun j => .d (.bl (g (dlook j ds).isSome)) := rfl
@[simp] theorem foInD_lst : foInD g a (.lst xs) = foIn g a (.lst xs) := rfl
@[simp] theorem foInD_tup : foInD g a (.tup xs) = foIn g a (.tup xs) := rfl
@[simp] theorem foIxD_dic : foIxD (.dic t ds) b = (dKey t b).bind fun j => (dlook j ds).map R.d := rfl
@[simp] theorem foIxD_lst : foIxD (.lst xs) b = foIx (.lst xs) b := rfl
@[simp] theorem foIxD_tup : foIxD (.tup xs) b = foIx (.tup xs) b := rfl
@[simp] theorem dKey_int : dKey false (.int i) = some (.num i) := rfl
abbrev foInDD : FOp := foInD fun b => b
abbrev foNinD : FOp := foInD fun b => !b
end
end
end TL
/-! TL: more words for plain laws -/
namespace TL
open PySem PySem.Spec L2
open Classical
noncomputable section
abbrev fz (d : D) : Option SV := some (.fz d)
abbrev fI (i : Int) : Option SV := some (.fz (.int i))
abbrev ow (d : D) : Option SV := some (.own d)
abbrev Lint (ns : List Int) : D := .lst (ns.map D.int)
/-- what is known of the script -/
structure Scr (ns : List Int) : Prop where
  len : ns.length ≤ 63
  bits : ∀ z ∈ ns, Builtin.Int.intBits z ≤ 1048576
theorem Scr.cell {ns : List Int} (h : Scr ns) (k : Nat) : Builtin.Int.intBits (cell ns k) ≤ 1048576 := by
  unfold TL.cell
  by_cases q : k < ns.length
  · rw [List.getD_eq_getElem?_getD, List.getElem?_eq_getElem q]
    exact h.bits _ (List.getElem_mem q)
  · rw [List.getD_eq_getElem?_getD, List.getElem?_eq_none (by omega)]
    decide
theorem bits64 {i : Int} (h : -(2 ^ 64) < i ∧ i < 2 ^ 64) : Builtin.Int.intBits i ≤ 64 := intBits_le_64 h.1 h.2
theorem mulB {i j : Int} (hi : Builtin.Int.intBits i ≤ 2097152) (hj : Builtin.Int.intBits j ≤ 2097152) : CMulX i j := by
  unfold CMulX
  omega
theorem bitsAdd {i j : Int} {m n : Nat} (hi : Builtin.Int.intBits i ≤ m) (hj : Builtin.Int.intBits j ≤ n) : Builtin.Int.intBits (i + j) ≤ m + n + 1 := Nat.le_trans (intBits_add_le hi hj) (by omega)
@[simp] theorem deq_str {x y : Str} : deq (.str x) (.str y) = decide (x = y) := by rw [deq]; by_cases h : x = y <;> simp [h]
theorem at_some {α : Type} {xs : List α} {k : Nat} (h : k < xs.length) : atI xs (k : Int) = some xs[k] := by rw [atI_n, List.getElem?_eq_getElem h]
theorem at_map {α : Type} {f : α → D} {xs : List α} {k : Nat} (h : k < xs.length) : atI (xs.map f) (k : Int) = some (f xs[k]) := by
  rw [atI_n, List.getElem?_map, List.getElem?_eq_getElem h]
  rfl
/-- an item by an int -/
theorem at_int {α : Type} {f : α → D} {xs : List α} {i : Int} (h0 : 0 ≤ i) (h : i < xs.length) : ∃ x ∈ xs, xs[i.toNat]? = some x ∧ atI (xs.map f) i = some (f x) := by
  obtain ⟨k, rfl⟩ := Int.eq_ofNat_of_zero_le h0
  have hk : k < xs.length := by omega
  exact ⟨xs[k], List.getElem_mem hk, by simp [hk], at_map hk⟩
/-- a for, with leaving by return -/
theorem forF_ret {α : Type} {e : α → D} {tg : Tg} {S : FS} {μ : Mu} (I : List α → SD → Prop) (Q : R → Prop)
    (step : ∀ x xs sd, I (x :: xs) sd → ∃ sd0, tg.bf (e x) sd = some sd0 ∧ ((∃ sd', (S sd0 μ = .nx sd' μ ∨ S sd0 μ = .ct sd' μ) ∧ I xs sd') ∨ ∃ r, S sd0 μ = .rt r μ ∧ Q r)) :
    ∀ {xs : List α} {sd : SD}, I xs sd → (∃ sd', forF none tg S (xs.map e) sd μ = .nx sd' μ ∧ I [] sd') ∨ ∃ r, forF none tg S (xs.map e) sd μ = .rt r μ ∧ Q r
  | [], sd, h => .inl ⟨sd, forF_nil, h⟩
  | x :: xs, sd, h => by
    obtain ⟨sd0, h1, h2⟩ := step x xs sd h
    rw [List.map_cons, forF_cons h1]
    rcases h2 with ⟨sd', h2, h3⟩ | ⟨r, h2, h3⟩
    · have ih := forF_ret I Q step h3
      rcases h2 with h2 | h2 <;> rw [h2] <;> simpa using ih
    · rw [h2]; exact .inr ⟨r, by simp, h3⟩
/-- a for that runs through -/
theorem forF_thru {α : Type} {e : α → D} {tg : Tg} {S : FS} {μ : Mu} (I : List α → SD → Prop)
    (step : ∀ x xs sd, I (x :: xs) sd → ∃ sd0, tg.bf (e x) sd = some sd0 ∧ ∃ sd', (S sd0 μ = .nx sd' μ ∨ S sd0 μ = .ct sd' μ) ∧ I xs sd') :
    ∀ {xs : List α} {sd : SD}, I xs sd → ∃ sd', forF none tg S (xs.map e) sd μ = .nx sd' μ ∧ I [] sd'
  | [], sd, h => ⟨sd, forF_nil, h⟩
  | x :: xs, sd, h => by
    obtain ⟨sd0, h1, sd', h2, h3⟩ := step x xs sd h
    rw [List.map_cons, forF_cons h1]
    have ih := forF_thru I step h3
    rcases h2 with h2 | h2 <;> rw [h2] <;> simpa using ih
/-- .. and may change the store -/
theorem forF_thruM {α : Type} {e : α → D} {tg : Tg} {S : FS} (I : List α → SD → Mu → Prop)
    (step : ∀ x xs sd μ, I (x :: xs) sd μ → ∃ sd0, tg.bf (e x) sd = some sd0 ∧ ∃ sd' μ', (S sd0 μ = .nx sd' μ' ∨ S sd0 μ = .ct sd' μ') ∧ I xs sd' μ') :
    ∀ {xs : List α} {sd : SD} {μ : Mu}, I xs sd μ → ∃ sd' μ', forF none tg S (xs.map e) sd μ = .nx sd' μ' ∧ I [] sd' μ'
  | [], sd, μ, h => ⟨sd, μ, forF_nil, h⟩
  | x :: xs, sd, μ, h => by
    obtain ⟨sd0, h1, sd', μ', h2, h3⟩ := step x xs sd μ h
    rw [List.map_cons, forF_cons h1]
    have ih := forF_thruM I step h3
    rcases h2 with h2 | h2 <;> rw [h2] <;> simpa using ih
/-- a range, from its start on -/
def irg (lo : Int) (n : Nat) : List Int := (List.range n).map fun i : Nat => lo + i
theorem rngD_irg {lo : Int} {n : Nat} : rngD lo n = (irg lo n).map D.int := by
  unfold rngD irg
  rw [List.map_map]
  rfl
theorem irg_succ {lo : Int} {n : Nat} : irg lo (n + 1) = lo :: irg (lo + 1) n := by
  unfold irg
  rw [List.range_succ_eq_map]
  simp only [List.map_cons, List.map_map]
  congr 1
  · simp
  · refine List.map_congr_left fun i _ => ?_
    simp only [Function.comp, Nat.succ_eq_add_one]
    omega
theorem mem_irg {lo : Int} {n : Nat} {x : Int} : x ∈ irg lo n ↔ lo ≤ x ∧ x < lo + n := by
  unfold irg
  simp only [List.mem_map, List.mem_range]
  constructor
  · rintro ⟨i, hi, rfl⟩; omega
  · intro h; exact ⟨(x - lo).toNat, by omega, by omega⟩
@[simp] theorem irg_len {lo : Int} {n : Nat} : (irg lo n).length = n := by simp [irg]
/-- a comprehension whose items are only known by what holds of them -/
theorem lcF_ex {α β : Type} {tg : Tg} {A : FE} {sd : SD} {μ : Mu} {e : α → D} {f : β → D} (P : α → β → Prop) : ∀ {xs : List α} {acc : List D},
    (∀ x ∈ xs, ∃ sd', tg.bf (e x) sd = some sd' ∧ ∃ r y, A sd' μ = .ok r μ ∧ r.tree = some (f y) ∧ P x y) →
    ∃ ys : List β, lcF none tg fYes A sd (xs.map e) acc μ = .ok (.new (.lst (acc ++ ys.map f))) μ ∧ ys.length = xs.length ∧ ∀ (i : Nat) x y, xs[i]? = some x → ys[i]? = some y → P x y
  | [], acc, _ => ⟨[], by simp [lcF, lkOk], rfl, fun i x y h => by simp at h⟩
  | x :: xs, acc, h => by
    obtain ⟨sd', h1, r, y, h2, h3, h4⟩ := h x (by simp)
    obtain ⟨ys, h5, h6, h7⟩ := lcF_ex P (xs := xs) (acc := acc ++ [f y]) fun z hz => h z (by simp [hz])
    refine ⟨y :: ys, ?_, by simp [h6], fun i a b ha hb => ?_⟩
    · rw [List.map_cons, lcF, if_pos (show lkOk none μ from trivial), h1]
      dsimp only [fYes]
      rw [h2]
      dsimp only
      rw [h3]
      dsimp only
      rw [h5]
      simp
    · cases i with
      | zero => simp at ha hb; subst ha; subst hb; exact h4
      | succ i => exact h7 i a b (by simpa using ha) (by simpa using hb)
/-- through the store -/
def seeN (a : Nat) (o : Option Nd) : D := match o with
  | some (.box (.lst ds)) => .lst ds
  | _ => .ref a
section
variable {μ : Mu} {ds : List D} {a : Nat} {i : Int} {b : Bool} {x : Str}
@[simp] theorem seeN_box : seeN a (some (.box (.lst ds))) = .lst ds := rfl
@[simp] theorem see1_ref : see1 μ (.ref a) = seeN a μ[a]? := rfl
@[simp] theorem see1_int : see1 μ (.int i) = .int i := rfl
@[simp] theorem see1_bl : see1 μ (.bl b) = .bl b := rfl
@[simp] theorem see1_non : see1 μ .non = .non := rfl
@[simp] theorem see1_str : see1 μ (.str x) = .str x := rfl
@[simp] theorem see1_tup : see1 μ (.tup ds) = .tup ds := rfl
@[simp] theorem see1_lst : see1 μ (.lst ds) = .lst ds := rfl
@[simp] theorem see2_lst : see2 μ (.lst ds) = .lst (ds.map (see1 μ)) := rfl
@[simp] theorem see2_tup : see2 μ (.tup ds) = .tup (ds.map (see1 μ)) := rfl
@[simp] theorem see2_int : see2 μ (.int i) = .int i := rfl
@[simp] theorem see2_non : see2 μ .non = .non := rfl
end
def isEK (isx : Nat → Option Bool) (o : Option (Option SV)) (μ : Mu) : Out R := match o with
  | some (some (.exc c _)) => Out.of ((isx c).map fun b => .d (.bl b)) μ
  | _ => .no
@[simp] theorem fIsE_ap {i : Nat} {isx : Nat → Option Bool} {sd : SD} {μ : Mu} : fIsE i isx sd μ = isEK isx sd[i]? μ := rfl
@[simp] theorem isEK_exc {isx : Nat → Option Bool} {c : Nat} {fs : List (Nat × D)} {μ : Mu} : isEK isx (some (some (.exc c fs))) μ = Out.of ((isx c).map fun b => .d (.bl b)) μ := rfl
def xfK (c f : Nat) (o : Option (Option SV)) (μ : Mu) : Out R := match o with
  | some (some (.exc c' fs)) => if c' = c then Out.of ((fs.lookup f).map R.d) μ else .no
  | _ => .no
@[simp] theorem fXf_ap {i c f : Nat} {sd : SD} {μ : Mu} : fXf i c f sd μ = xfK c f sd[i]? μ := rfl
@[simp] theorem xfK_exc {c f c' : Nat} {fs : List (Nat × D)} {μ : Mu} : xfK c f (some (some (.exc c' fs))) μ = if c' = c then Out.of ((fs.lookup f).map R.d) μ else .no := rfl
@[simp] theorem noExc_nil : noExc [] = true := rfl
@[simp] theorem noExc_none {r : SD} : noExc (none :: r) = noExc r := rfl
@[simp] theorem noExc_fz {d : D} {r : SD} : noExc (some (.fz d) :: r) = noExc r := rfl
@[simp] theorem noExc_own {d : D} {r : SD} : noExc (some (.own d) :: r) = noExc r := rfl
@[simp] theorem lkB_cons {c i : Nat} {b : Bool} {l : List (Nat × Bool)} : lkB ((i, b) :: l) c = if c = i then some b else lkB l c := by
  unfold lkB
  rw [List.lookup_cons]
  by_cases h : c = i
  · simp [h]
  · have h' : (c == i) = false := by simpa using h
    rw [h', if_neg h]
@[simp] theorem bf_prD {is : List Nat} {sd : SD} {p : Int × Int} : (Tg.t is).bf (TL.prD p) sd = (Tg.t is).bf (.tup [.int p.1, .int p.2]) sd := rfl
@[simp] theorem foIx_prD {p : Int × Int} {d : D} : foIx (TL.prD p) d = foIx (.tup [.int p.1, .int p.2]) d := rfl
@[simp] theorem foIxD_prD {p : Int × Int} {d : D} : foIxD (TL.prD p) d = foIx (.tup [.int p.1, .int p.2]) d := rfl
end
end TL
/-! TL: enumerate of a list in the store -/
namespace TL
open PySem PySem.Spec L2
open Classical
noncomputable section
section
variable {X : Cx} {wd : Wd} {e a b c : Expr} {w : WE} {pos : Pos} {A : FE}
theorem goes_enumN {K : PySem.W.Frag} {cl : Cl} {G : Gh} {a : Addr} {n : Nat} {ds : List D} (hn : G.ρ[n]? = some a) : Goes K cl G (Ite K a) (enumD ds) (some (n, ds)) := by
  refine ⟨fun H => ∃ vs : List V, vs.length = ds.length ∧ H a = some (.lst vs), fun i H x H' => ∃ vs : List V, H a = some (.lst vs) ∧ ∃ T x', x = .ref T ∧ H T = none ∧ H' = upd H T (.tup [.int (i : Nat), x']) ∧ vs[i]? = some x', ?_, fun G2 H μ2 s r l => ?_, fun i H x H' y G2 μ2 s2 r l => ?_⟩
  · rw [enumD_len]
    exact ⟨fun i H hi ⟨vs, hl, h⟩ => walk_enum.goes i H (hl ▸ hi) (SqL.of h), fun H ⟨vs, hl, h⟩ => hl ▸ walk_enum.stops H (SqL.of h), fun i H x H' hi ⟨vs, hl, h⟩ y => by
      obtain ⟨T, x', y', q1, q2, q3, q4, q5⟩ := walk_enum.yields i H x H' (hl ▸ hi) (SqL.of h) y
      cases q4
      exact ⟨vs, h, T, _, q1, q2, q3, q5⟩⟩
  · obtain ⟨o, h1, h2⟩ := r.box (s.at hn) l
    obtain ⟨vs, rfl, h3⟩ := h2.lst
    exact ⟨vs, h3.len, h1⟩
  · obtain ⟨vs', hv, T, x', rfl, t1, rfl, y⟩ := y
    obtain ⟨o, h1, h2⟩ := r.box (s2.at hn) l
    obtain ⟨vs, rfl, h3⟩ := h2.lst
    rw [hv] at h1
    cases h1
    obtain ⟨d, e1, e2⟩ := h3.getV y
    exact ⟨_, _, enumD_get e1, Ext.frozen r t1, .tup (.inl (.inl upd_same)) (.cons (.int _) (.cons (Den.mono (gle_put (r.free t1).1) _ _ e2) .nil))⟩
def wiEnumX (w : WE) : WI := fun sd μ x k => w sd μ x fun r μ1 => match r with
  | .d (.lst ds) => k (enumD ds) none μ1
  | .new (.lst ds) => k (enumD ds) none μ1
  | .d (.ref n) => ∃ ds, μ1[n]? = some (.box (.lst ds)) ∧ k (enumD ds) (some (n, ds)) μ1
  | _ => False
theorem qi_enumX {p tpos : Pos} {elts : List Expr} {kk : Nat} (ha : QE wd X e w) (hm : X.mg "enumerate" = none) (hg : Gl X "enumerate" := by rfl) (hst : starEach (e :: []) X.env = (false, eval e X.env) :: starEach [] X.env := by rfl) (hs : starEach [e] X.env = [(false, eval e X.env)] := by rfl) :
    QI wd X (.Tuple elts kk tpos) (.Call (.Name "enumerate" p) [e] [] pos) (wiEnumX w) := by
  refine ⟨PI.imp (pi_enum hg hm (pa_cons ha.pe pa_nil hst) hs) fun σ H R ⟨G0, H0, μ0, G, μ, sd, x, k, hx, hs, hw, hk, hxo⟩ => ?_⟩
  refine ⟨G0, H0, μ0, G, μ, sd, x, _, hx, hs, hw, fun r μ1 q v G1 H1 e1 rel => ?_, hxo⟩
  cases r with
  | «at» i => exact q.elim
  | new c =>
    cases c <;> try exact q.elim
    rename_i ds
    obtain ⟨G1', e1', s1, den⟩ := keep (x := .lst ds) e1 rel rfl
    cases den with
    | @lst a vs _ q1 q2 => exact ⟨a, vs, rfl, e1'.rep.sub.seq q1, hk _ _ _ q _ _ _ e1' (goes_enum q1 q2)⟩
  | d y =>
    cases y <;> try exact q.elim
    · cases rel with
      | @lst a vs _ q1 q2 => exact ⟨a, vs, rfl, e1.rep.sub.seq q1, hk _ _ _ q _ _ _ e1 (goes_enum q1 q2)⟩
    · cases rel with
      | @ref a _ hn =>
      obtain ⟨ds, hm, q⟩ := q
      obtain ⟨o, h1, h2⟩ := e1.rep.box hn hm
      obtain ⟨vs, rfl, h3⟩ := h2.lst
      exact ⟨a, vs, rfl, SqL.of h1, hk _ _ _ q _ _ _ e1 (goes_enumN hn)⟩
def fiEnumX (A : FE) : FI := fun sd μ => (A sd μ).bind fun r μ1 => (Out.of (itOf r μ1) μ1).bind fun p μ1 => if r = .d (.tup p.1) then .no else .ok (enumD p.1, p.2) μ1
theorem fi_enumX {p tpos : Pos} {elts : List Expr} {kk : Nat} (ha : QE wd X e (ofE A)) (hm : X.mg "enumerate" = none) (hg : Gl X "enumerate" := by rfl) (hst : starEach (e :: []) X.env = (false, eval e X.env) :: starEach [] X.env := by rfl) (hs : starEach [e] X.env = [(false, eval e X.env)] := by rfl) :
    QI wd X (.Tuple elts kk tpos) (.Call (.Name "enumerate" p) [e] [] pos) (ofI (fiEnumX A)) := (qi_enumX ha hm hg hst hs).imp fun sd μ x k h => sat_mono (sat_bind h) fun r μ1 h => by
  obtain ⟨ds, e, q⟩ := sat_of (sat_bind h)
  unfold itOf at e
  split at e
  · cases e; rw [if_neg (by intro z; cases z)] at q; exact q
  · cases e; rw [if_pos rfl] at q; exact q.elim
  · cases e; rw [if_neg (by intro z; cases z)] at q; exact q
  · split at e
    · rename_i ds hm
      cases e
      rw [if_neg (by intro z; cases z)] at q
      exact ⟨_, hm, q⟩
    · cases e
  · cases e
theorem fiEnumX_lst {sd : SD} {μ μ1 : Mu} {ds : List D} (h : A sd μ = .ok (.d (.lst ds)) μ1) : fiEnumX A sd μ = .ok (enumD ds, none) μ1 := by
  unfold fiEnumX
  rw [h]
  exact if_neg (by intro z; cases z)
theorem fiEnumX_ref {sd : SD} {μ μ1 : Mu} {ds : List D} {n : Nat} (h : A sd μ = .ok (.d (.ref n)) μ1) (hn : μ1[n]? = some (.box (.lst ds))) : fiEnumX A sd μ = .ok (enumD ds, some (n, ds)) μ1 := by
  unfold fiEnumX
  rw [h, bind_ok, itOf_ref, hn]
  exact if_neg (by intro z; cases z)
def enX (r : R) (ds : List D × Lk) (μ : Mu) : Out (List D × Lk) := if r = .d (.tup ds.1) then .no else .ok (enumD ds.1, ds.2) μ
@[simp] theorem fiEnumX_ap {sd : SD} {μ : Mu} : fiEnumX A sd μ = (A sd μ).bind fun r μ1 => (Out.of (itOf r μ1) μ1).bind fun p μ1 => enX r p μ1 := rfl
@[simp] theorem enX_lst {ds : List D} {l : Lk} {μ : Mu} {ds2 : List D} : enX (.d (.lst ds2)) (ds, l) μ = .ok (enumD ds, l) μ := if_neg (by intro z; cases z)
@[simp] theorem enX_new {ds : List D} {l : Lk} {μ : Mu} {d : D} : enX (.new d) (ds, l) μ = .ok (enumD ds, l) μ := if_neg (by intro z; cases z)
@[simp] theorem enX_ref {ds : List D} {l : Lk} {μ : Mu} {n : Nat} : enX (.d (.ref n)) (ds, l) μ = .ok (enumD ds, l) μ := if_neg (by intro z; cases z)
end
@[simp] theorem okB_str {i : Nat} {x : Str} : okB i (.str x) = PyData.strOk x := by cases i <;> rfl
/-- a list: frozen, or in the store -/
inductive IsL (μ : Mu) : D → List D → Lk → Prop
  | fz (ds : List D) : IsL μ (.lst ds) ds none
  | ref {n : Nat} {ds : List D} : μ[n]? = some (.box (.lst ds)) → IsL μ (.ref n) ds (some (n, ds))
section
variable {μ : Mu} {x : D} {ds : List D} {l : Lk} {sd : SD}
theorem IsL.vw (h : IsL μ x ds l) : vw μ sd (.d x) = .lst ds := by
  cases h with
  | fz => rfl
  | ref h => rw [vw_ref', h]; rfl
theorem IsL.lk (h : IsL μ x ds l) : lkOk l μ := by
  cases h with
  | fz => trivial
  | ref h => exact h
theorem IsL.it (h : IsL μ x ds l) : itOf (.d x) μ = some (ds, l) := by
  cases h with
  | fz => rfl
  | ref h => rw [itOf_ref, h]; rfl
theorem IsL.en (h : IsL μ x ds l) {p : List D × Lk} {μ' : Mu} : enX (.d x) p μ' = .ok (enumD p.1, p.2) μ' := by
  cases h with
  | fz => exact enX_lst
  | ref h => exact enX_ref
theorem IsL.app (h : IsL μ x ds l) {t : Mu} : IsL (μ ++ t) x ds l := by
  cases h with
  | fz => exact .fz _
  | ref h => exact .ref (by rw [List.getElem?_append_left (List.getElem?_eq_some_iff.mp h).1]; exact h)
theorem IsL.bel (h : IsL μ x ds l) (hd : belowL μ.length ds = true) : below μ.length x = true := by
  cases h with
  | fz => rw [bel_lst]; exact hd
  | ref h => rw [bel_ref]; exact decide_eq_true (List.getElem?_eq_some_iff.mp h).1
/-! a for over a list that may stand in the store -/
variable {tg : Tg} {S : FS} {L : Lk}
theorem forL_nil (h : lkOk L μ) : forF L tg S [] sd μ = .nx sd μ := by rw [forF]; exact if_pos h
theorem forL_cons {d : D} {ds : List D} {sd' : SD} (hl : lkOk L μ) (h : tg.bf d sd = some sd') : forF L tg S (d :: ds) sd μ = forK L tg S ds (S sd' μ) := by
  rw [forF, if_pos hl, h]
  rfl
end
end
end TL
/-! TL: sets of ints made of a list or a tuple, at once sorted or counted -/
namespace L2
open PySem PySem.Spec PyProof.Rows
section
variable {P : Program} {w : World} {A : Around} {E : Value → Shared → Prop} {s : Shared}
/-- an empty set, new -/
abbrev oS0 (w : World) : Obj := { cls := .type "set", dict := none, data := .set #[] 0 (.fresh 0 0 (!w.params.followText "set-order")) }
abbrev hS0 (s : Shared) (w : World) : Heap := s.heap.push (oS0 w)
set_option maxHeartbeats 3200000 in
theorem setI_list {l : Addr} {items : Array Value} (ns : List Int) {Q : Value → Shared → Prop} (hh : A.handled = none) (hl : s.heap.IsList l items) (hit : IntsAre items.toList ns) (hb : ns.length + 1 < scanBound)
    (h : ∀ (h' : Heap) (tk c : Nat), SetR w h' s.heap.objs.size (fun j => decide (j ∈ ns)) c → c ≤ ns.length → (∀ b o, s.heap.get? b = some o → h'.get? b = some o) → Q (.ref s.heap.objs.size) { s with heap := h', toks := tk }) :
    wpAny (model P w) A (call (.type "set") [.ref l]) Q E s := by
  have hsz : items.size = ns.length := (Array.length_toList (xs := items)).symm.trans (IntsAre.length hit)
  have ⟨c, tl, hmro⟩ := F.called_set.mro; have hmade := F.called_set.made; have hsub := F.called_set.sub
  refine wpAny_call (codeAny_of_tree (show wpAny _ _ (callAny (.type "set") _) _ _ _ from ?_))
  refine wpAny_pure ⟨Code.quiet_builtin _ (by decide +kernel), codeAny_builtin F.entry_type_call ?_⟩
  rw [Around.under_plain (weight_type_call_type "set" [.ref l] []) rfl]
  have h1 := F.called_set.notType; have h2 := F.called_set.canCreate; have hct := F.typeCall_set_1 (.ref l)
  repeat (any_goals (first | assumption | wp_step))
  refine codeAny_mono (code_set_led1 (.ref l) (E := E) (Q₁ := fun obj s₁ => obj = .ref s.heap.objs.size ∧ s₁ = { s with heap := hS0 s w }) ⟨rfl, rfl⟩) fun r s₁ hr => ?_
  rcases r with e | fl
  · exact hr
  cases fl with
  | ret obj =>
    obtain ⟨rfl, rfl⟩ := hr
    have hS : (hS0 s w).get? s.heap.objs.size = some (oS0 w) := Heap.get?_push_size _ rfl
    have hT : Shared.TypeIs { s with heap := hS0 s w } (.ref s.heap.objs.size) "set" := ⟨_, hS, rfl⟩
    have hli := F.called_set.init.lookup; have hbi := F.called_set.init.bind (.ref s.heap.objs.size)
    repeat (any_goals (first | assumption | wp_step))
    have kept : ∀ b o, s.heap.get? b = some o → b ≠ s.heap.objs.size ∧ b ≠ (hS0 s w).objs.size := fun b o e => by
      have hb0 : b < s.heap.objs.size := Heap.lt_size e
      rw [show (hS0 s w).objs.size = s.heap.objs.size + 1 from Heap.size_push ..]; exact ⟨Nat.ne_of_lt hb0, Nat.ne_of_lt (Nat.lt_succ_of_lt hb0)⟩
    refine codeAny_mono (codeAny_call_builtin (R := wants (fun r s₂ => r = .none ∧ ∃ h' tk c, s₂ = { s with heap := h', toks := tk } ∧ SetR w h' s.heap.objs.size (fun j => decide (j ∈ ns)) c ∧ c ≤ ns.length ∧ (∀ b o, s.heap.get? b = some o → h'.get? b = some o)) E) F.called_set.init.plain F.entry_set_init (check_set_init_1 hT ?_)) fun r₂ s₂ hr₂ => ?_
    · have ⟨⟨ocls, odict, odata, oslots⟩, hol, hcl, nl, hdl⟩ := hl
      simp only at hcl hdl; subst hcl; subst hdl
      have hol' : (hS0 s w).get? l = some { cls := .type "list", dict := odict, data := .seq items nl, slots := oslots } := Heap.get?_push_of_some _ hol
      have hsls := F.sub_list_set; have hslf := F.sub_list_frozenset; have hne : (Value.type "list" == Value.type "dict") = false := by decide
      have hl1 : (hS0 s w).IsList l items := ⟨_, hol', rfl, nl, rfl⟩
      unfold Builtin.«set.__init__» noKeywords Builtin.Frozenset.updateFrom
      generalize hPI : pyIter = PI; wp_walk; subst hPI
      refine wpAny_pyIter_list hl1 (wpAny_bind (wpAny_runValue ?_))
      have hh3 : A.in1.in1.in1.handled = none := by simp [hh]
      have ⟨k1, k2⟩ := kept l _ hol
      have hSf : s.heap.objs.size ∉ [(hS0 s w).objs.size, l] := by
        rw [show (hS0 s w).objs.size = s.heap.objs.size + 1 from Heap.size_push ..]; simp only [List.mem_cons, List.not_mem_nil, or_false, not_or]; exact ⟨Nat.ne_of_lt (Nat.lt_succ_self _), fun z => k1 z.symm⟩
      have hval : ∀ (i : Nat) (v : Value), items[i]? = some v → ∃ k t, ns[i]? = some k ∧ v = .int k t := fun i v hv => by
        have hi : i < ns.length := hsz ▸ (Array.getElem?_eq_some_iff.mp hv).1
        have ⟨t, e⟩ := PyProof.Rows.IntsAre.int_at hit i v (by rw [Array.getElem?_toList]; exact hv)
        exact ⟨ns[i], t, List.getElem?_eq_getElem hi, by rw [e, List.getD_eq_getElem?_getD, List.getElem?_eq_getElem hi] <;> rfl⟩
      refine set_update_ints ((Walks.list hh3 _ l k2 items).toS) s.heap.objs.size hSf ns hsz hb hval (items.size - 0) 0 _ (by omega) (Nat.zero_le _) ⟨⟨_, Heap.get?_push_size _ rfl, rfl, rfl⟩, (hl1.push _)⟩ ?a0 ?a1
      case a0 => exact ⟨0, Nat.le_refl 0, setR_new_at (Heap.get?_push_of_some _ hS)⟩
      case a1 =>
        intro ⟨h', g2, d', tk', os'⟩ c' hm hc' hS'
        have eg : g2 = s.gens := hm.gens; have ed : d' = s.drawn := hm.drawn; have eo : os' = s.os := hm.os
        subst eg; subst ed; subst eo
        refine (show wpAny _ _ _ _ _ _ from wpAny_pure (show wpAny _ _ (ret Value.none) _ _ _ from ?_))
        refine wpAny_pure ⟨rfl, h', tk', c', rfl, hS', hsz ▸ hc', fun b o e => hm.heap b o ?_ (Heap.get?_push_of_some _ (Heap.get?_push_of_some _ e))⟩
        have ⟨q1, q2⟩ := kept b o e; simp only [List.mem_cons, List.not_mem_nil, or_false, not_or]; exact ⟨q1, q2⟩
    · rcases r₂ with e | fl₂
      · exact hr₂
      cases fl₂ with
      | ret r =>
        obtain ⟨rfl, h', tk, c', rfl, a1, a2, a3⟩ := hr₂
        repeat (any_goals (first | assumption | wp_step))
        exact h _ _ _ a1 a2 a3
      | _ => exact hr₂.elim
  | _ => exact hr.elim
end
end L2
namespace L2
open PySem PySem.Spec PyProof.Rows
section
variable {X : Cx}
/-- set(x), x a list or a tuple of ints -/
def rSetI (K : PySem.W.Frag) (w : World) : List V → Hp → VK → Prop := fun xs H Q => ∃ (a : Addr) (ns : List Int), xs = [.ref a] ∧ (SqL K H a (ns.map V.int) ∨ SqT K H a (ns.map V.int)) ∧ ns.length < 4000 ∧
  ∀ p c, H p = none → (∀ l : List Int, l.Nodup → (∀ k : Int, k ∈ l ↔ k ∈ ns) → l.length = c) → Q (.ref p) (upd H p (SetO w p (fun j => decide (j ∈ ns)) c))
theorem setR_count {w : World} {h : Heap} {a : Addr} {S : Int → Bool} {n : Nat} (R : SetR w h a S n) {l : List Int} (n1 : l.Nodup) (n2 : ∀ k : Int, k ∈ l ↔ S k = true) : l.length = n := by
  have ⟨o, es, ep, t, ho, hex, hd, g, nd, hm, hb, hf, hn, hr, hl⟩ := R
  have p : l.Perm (es.toList.map keyOf) := (List.perm_ext_iff_of_nodup n1 nd).mpr fun k => (n2 k).trans (hm k)
  rw [p.length_eq, List.length_map, Array.length_toList, hn]
theorem cr_setI (hc : X.calm = true) : CallR X (.type "set") (rSetI X.K X.w) := by
  intro pins s σ H xs us Q I r ⟨a, ns, e, hq, hl, q⟩
  subst e
  rw [Vals.ref1 r]
  have hb : ns.length + 1 < scanBound := by unfold scanBound; omega
  rcases hq with hq | hq
  · obtain ⟨its, rv, pl, hz⟩ := I.list hq
    refine setI_list ns (I.ok.hd hc) pl.isList (by simpa using Vals.ints rv) hb fun h' tk c R hc' kept => ?_
    exact ⟨.ref _, _, I.laid (t' := tk) kept (Nat.le_refl _) (setO_new R), rfl, q _ c (I.hok.fresh (Nat.le_refl _)) fun l l1 l2 => setR_count R l1 fun k => (l2 k).trans (by simp)⟩
  · obtain ⟨its, rv, pl, hz⟩ := I.tuple hq
    refine call_set_tupI ns (I.ok.hd hc) (show s.heap.IsTuple a its.toArray from pl) (by simpa using Vals.ints rv) hb fun h' tk c R hc' kept => ?_
    exact ⟨.ref _, _, I.laid (t' := tk) kept (Nat.le_refl _) (setO_new R), rfl, q _ c (I.hok.fresh (Nat.le_refl _)) fun l l1 l2 => setR_count R l1 fun k => (l2 k).trans (by simp)⟩
/-- len(s) of such a set, not empty of what was asked -/
def rLenSet (w : World) : List V → Hp → VK → Prop := fun vs H Q => ∃ (a : Addr) (S : Int → Bool) (c : Nat), vs = [V.ref a] ∧ H a = some (SetO w a S c) ∧ ∀ n : Nat, (∀ ns : List Int, ns.Nodup → (∀ k : Int, k ∈ ns ↔ S k = true) → ns.length = n) → Q (.int n) H
theorem cr_lenSet : CallR X (.builtin "len") (rLenSet X.w) := by
  intro pins s σ H vs us Q I r ⟨a, S, c, e, ha, q⟩
  subst e
  rw [Vals.ref1 r]
  have ⟨o, es, ep, t, ho, hex, hd, g, nd, hm, hb, hf, hn, hr, hl⟩ := setO_get I ha
  refine call_len_set ho hex hd hf (by unfold scanBound at hb; omega) ⟨.int es.size, H, I.tok _, ⟨_, rfl⟩, q es.size fun ns n1 n2 => ?_⟩
  have p : ns.Perm (es.toList.map keyOf) := (List.perm_ext_iff_of_nodup n1 nd).mpr fun k => (n2 k).trans (hm k)
  rw [p.length_eq, List.length_map, Array.length_toList]
end
end L2
namespace TL
open PySem PySem.Spec L2
open Classical
noncomputable section
/-- the ints in order, each once -/
def insD (x : Int) : List Int → List Int
  | [] => [x]
  | y :: r => if x < y then x :: y :: r else if x = y then y :: r else y :: insD x r
def sortD : List Int → List Int
  | [] => []
  | x :: r => insD x (sortD r)
theorem mem_insD {x z : Int} : ∀ {l : List Int}, z ∈ insD x l ↔ z = x ∨ z ∈ l
  | [] => by simp [insD]
  | y :: r => by
    unfold insD
    split
    · simp
    · split
      · rename_i h1 h2; subst h2; simp
      · simp only [List.mem_cons, mem_insD (l := r)]
        constructor
        · rintro (h | h | h)
          · exact .inr (.inl h)
          · exact .inl h
          · exact .inr (.inr h)
        · rintro (h | h | h)
          · exact .inr (.inl h)
          · exact .inl h
          · exact .inr (.inr h)
theorem mem_sortD {z : Int} : ∀ {l : List Int}, z ∈ sortD l ↔ z ∈ l
  | [] => by simp [sortD]
  | x :: r => by rw [sortD, mem_insD, mem_sortD (l := r), List.mem_cons]
theorem insD_sorted (x : Int) : ∀ l : List Int, l.Pairwise (· < ·) → (insD x l).Pairwise (· < ·)
  | [], _ => by simp [insD]
  | y :: r, h => by
    rw [List.pairwise_cons] at h
    unfold insD
    split
    · rename_i hxy
      rw [List.pairwise_cons]
      refine ⟨fun z hz => ?_, List.pairwise_cons.mpr h⟩
      rcases List.mem_cons.mp hz with rfl | hz
      · exact hxy
      · exact Int.lt_trans hxy (h.1 z hz)
    · split
      · exact List.pairwise_cons.mpr h
      · rw [List.pairwise_cons]
        refine ⟨fun z hz => ?_, insD_sorted x r h.2⟩
        rcases mem_insD.mp hz with rfl | hz
        · omega
        · exact h.1 z hz
theorem sortD_sorted : ∀ l : List Int, (sortD l).Pairwise (· < ·)
  | [] => List.Pairwise.nil
  | x :: r => insD_sorted x _ (sortD_sorted r)
theorem strict_uniq : ∀ {l m : List Int}, l.Pairwise (· < ·) → m.Pairwise (· < ·) → (∀ k, k ∈ l ↔ k ∈ m) → l = m
  | [], [], _, _, _ => rfl
  | [], y :: m, _, _, h => by have := (h y).mpr (by simp); simp at this
  | x :: l, [], _, _, h => by have := (h x).mp (by simp); simp at this
  | x :: l, y :: m, h1, h2, h => by
    rw [List.pairwise_cons] at h1 h2
    have a : x = y := by
      rcases List.mem_cons.mp ((h x).mp (by simp)) with e | e
      · exact e
      · rcases List.mem_cons.mp ((h y).mpr (by simp)) with e' | e'
        · exact e'.symm
        · have := h2.1 x e; have := h1.1 y e'; omega
    subst a
    congr 1
    refine strict_uniq h1.2 h2.2 fun k => ⟨fun hk => ?_, fun hk => ?_⟩
    · rcases List.mem_cons.mp ((h k).mp (by simp [hk])) with e | e
      · have := h1.1 k hk; omega
      · exact e
    · rcases List.mem_cons.mp ((h k).mpr (by simp [hk])) with e | e
      · have := h2.1 k hk; omega
      · exact e
theorem strict_nodup {l : List Int} (h : l.Pairwise (· < ·)) : l.Nodup := h.imp fun {a b} z => by intro e; subst e; exact Int.lt_irrefl _ z
theorem sortD_self {l : List Int} (h : l.Pairwise (· < ·)) : sortD l = l := strict_uniq (sortD_sorted l) h fun k => mem_sortD
section
variable {X : Cx} {wd : Wd} {e : Expr} {es : List Expr} {pos p p2 q : Pos} {A : FE} {As : FA}
def bSeqI (ds : List D) : Option (List Int) := match ds with
  | [.lst xs] => dInts xs
  | [.tup xs] => dInts xs
  | _ => none
theorem seqI_den {K : PySem.W.Frag} {cl : Cl} {G : Gh} {H : Hp} {μ : Mu} (r : Rep K cl G H μ) {vs : List V} {ds : List D} {ns : List Int} (hd : DenL1 K cl G H vs ds) (h : bSeqI ds = some ns) : ∃ a, vs = [.ref a] ∧ (SqL K H a (ns.map V.int) ∨ SqT K H a (ns.map V.int)) := by
  unfold bSeqI at h
  split at h
  · rename_i xs
    obtain ⟨v, rfl, h1⟩ := den1_1 hd
    obtain ⟨a, us, rfl, q1, q2⟩ := h1
    cases dInts_eq h
    have := DenL.of_ints q2
    subst this
    exact ⟨a, rfl, .inl q1⟩
  · rename_i xs
    obtain ⟨v, rfl, h1⟩ := den1_1 hd
    cases h1 with
    | @tup a us _ q1 q2 =>
    cases dInts_eq h
    have := DenL.of_ints q2
    subst this
    exact ⟨a, rfl, .inr (sqT_same r.sub q1)⟩
  · cases h
/-- sorted(set(..)) -/
def bSorSet : BP := fun ds k => ∃ ns, bSeqI ds = some ns ∧ ns.length < 4000 ∧ (sortD ns).length < 64 ∧ k (.new (.lst ((sortD ns).map D.int)))
theorem qe_sorSet {x y : Str} (hc : X.calm = true) {ws : WA} (ha : QB wd X [e] ws) (hm : X.mg x = none) (hm2 : X.mg y = none) (hg : Gl X x := by rfl) (hg2 : Gl X y := by rfl) (hv : bootBuiltins x = some (.builtin "sorted") := by decide +kernel) (hv2 : bootBuiltins y = some (.type "set") := by decide +kernel)
    (hn : x ≠ "__name__" := by decide) (hdb : (x == ("__debug__" : Str)) = false := by decide) (hn2 : y ≠ "__name__" := by decide) (hdb2 : (y == ("__debug__" : Str)) = false := by decide)
    (he2 : starEach [e] X.env = (false, eval e X.env) :: starEach [] X.env := by rfl) (hpl : (backTo q (starEach [] X.env)).any (·.1) = false := by rfl)
    (he : starEach [.Call (.Name y p2) [e] [] q] X.env = (false, eval (.Call (.Name y p2) [e] [] q) X.env) :: starEach [] X.env := by rfl) (hpl2 : (backTo pos (starEach [] X.env)).any (·.1) = false := by rfl) :
    QE wd X (.Call (.Name x p) [.Call (.Name y p2) [e] [] q] [] pos) (wB bSorSet ws) := by
  refine ⟨PE.imp (pe_callB (cr_sortedSet hc) hg hm hv (pa_cons (pe_callTy (cr_setI hc) hg2 hm2 hv2 ha.pa hn2 hdb2 he2 hpl) pa_nil he) hn hdb he hpl2) fun σ H Q h => ?_⟩
  have h := callB_of (r := fun vs H Q => rSetI X.K X.w vs H fun v H2 => rSortedSet X.w [v] H2 Q) (op := bSorSet) (fun vs ds G H μ k Q r hd ho hk => ?_) h
  · exact h
  · obtain ⟨ns, h1, h2, h3, h4⟩ := ho
    obtain ⟨a, rfl, hq⟩ := seqI_den r hd h1
    refine ⟨a, ns, rfl, hq, h2, fun p c hp hcn => ?_⟩
    have hc' := hcn (sortD ns) (strict_nodup (sortD_sorted ns)) fun k => mem_sortD
    refine ⟨p, _, c, rfl, upd_same, by omega, fun ms p2 s1 s2 s3 hp2 => ?_⟩
    have em : ms = sortD ns := strict_uniq s1 (sortD_sorted ns) fun k => by rw [s2, mem_sortD]; simp
    subst em
    have hne : p2 ≠ p := fun z => by subst z; rw [upd_same] at hp2; cases hp2
    have hp3 : H p2 = none := by rw [upd_ne hne] at hp2; exact hp2
    have e1 : Ext X.K wd.cl G H μ G (upd H p (SetO X.w p (fun j => decide (j ∈ ns)) c)) μ := Ext.loose r hp
    exact hk _ h4 _ G _ (e1.trans (Ext.loose e1.rep hp2)) ⟨p2, _, rfl, hp3, upd_same, DenL.ints _, (r.free hp3).1, (r.free hp3).2⟩
def fbSorSet : FBp := fun ds => (bSeqI ds).bind fun ns => if ns.length < 4000 ∧ (sortD ns).length < 64 then some (.new (.lst ((sortD ns).map D.int))) else none
theorem bf_sorSet : BpF bSorSet fbSorSet := fun ds r k e q => by
  obtain ⟨ns, e1, e2⟩ := Option.bind_eq_some_iff.mp e
  split at e2
  · rename_i h; cases e2; exact ⟨ns, e1, h.1, h.2, q⟩
  · cases e2
theorem fe_sorSet {x y : Str} (hc : X.calm = true) (ha : QB wd X [e] (ofA As)) (hm : X.mg x = none) (hm2 : X.mg y = none) (hg : Gl X x := by rfl) (hg2 : Gl X y := by rfl) (hv : bootBuiltins x = some (.builtin "sorted") := by decide +kernel) (hv2 : bootBuiltins y = some (.type "set") := by decide +kernel)
    (hn : x ≠ "__name__" := by decide) (hdb : (x == ("__debug__" : Str)) = false := by decide) (hn2 : y ≠ "__name__" := by decide) (hdb2 : (y == ("__debug__" : Str)) = false := by decide)
    (he2 : starEach [e] X.env = (false, eval e X.env) :: starEach [] X.env := by rfl) (hpl : (backTo q (starEach [] X.env)).any (·.1) = false := by rfl)
    (he : starEach [.Call (.Name y p2) [e] [] q] X.env = (false, eval (.Call (.Name y p2) [e] [] q) X.env) :: starEach [] X.env := by rfl) (hpl2 : (backTo pos (starEach [] X.env)).any (·.1) = false := by rfl) :
    QE wd X (.Call (.Name x p) [.Call (.Name y p2) [e] [] q] [] pos) (ofE (fB fbSorSet As)) := (qe_sorSet hc ha hm hm2 hg hg2 hv hv2 hn hdb hn2 hdb2 he2 hpl he hpl2).imp fun sd μ x k h => fB_le bf_sorSet h
/-- len(set(..)) -/
def bLenSet : BP := fun ds k => ∃ ns, bSeqI ds = some ns ∧ ns.length < 4000 ∧ k (.d (.int (sortD ns).length))
theorem qe_lenSet {x y : Str} (hc : X.calm = true) {ws : WA} (ha : QB wd X [e] ws) (hm : X.mg x = none) (hm2 : X.mg y = none) (hg : Gl X x := by rfl) (hg2 : Gl X y := by rfl) (hv : bootBuiltins x = some (.builtin "len") := by decide +kernel) (hv2 : bootBuiltins y = some (.type "set") := by decide +kernel)
    (hn : x ≠ "__name__" := by decide) (hdb : (x == ("__debug__" : Str)) = false := by decide) (hn2 : y ≠ "__name__" := by decide) (hdb2 : (y == ("__debug__" : Str)) = false := by decide)
    (he2 : starEach [e] X.env = (false, eval e X.env) :: starEach [] X.env := by rfl) (hpl : (backTo q (starEach [] X.env)).any (·.1) = false := by rfl)
    (he : starEach [.Call (.Name y p2) [e] [] q] X.env = (false, eval (.Call (.Name y p2) [e] [] q) X.env) :: starEach [] X.env := by rfl) (hpl2 : (backTo pos (starEach [] X.env)).any (·.1) = false := by rfl) :
    QE wd X (.Call (.Name x p) [.Call (.Name y p2) [e] [] q] [] pos) (wB bLenSet ws) := by
  refine ⟨PE.imp (pe_callB cr_lenSet hg hm hv (pa_cons (pe_callTy (cr_setI hc) hg2 hm2 hv2 ha.pa hn2 hdb2 he2 hpl) pa_nil he) hn hdb he hpl2) fun σ H Q h => ?_⟩
  have h := callB_of (r := fun vs H Q => rSetI X.K X.w vs H fun v H2 => rLenSet X.w [v] H2 Q) (op := bLenSet) (fun vs ds G H μ k Q r hd ho hk => ?_) h
  · exact h
  · obtain ⟨ns, h1, h2, h4⟩ := ho
    obtain ⟨a, rfl, hq⟩ := seqI_den r hd h1
    refine ⟨a, ns, rfl, hq, h2, fun p c hp hcn => ?_⟩
    refine ⟨p, _, c, rfl, upd_same, fun n hn' => ?_⟩
    have e1 : Ext X.K wd.cl G H μ G (upd H p (SetO X.w p (fun j => decide (j ∈ ns)) c)) μ := Ext.loose r hp
    have en := hn' (sortD ns) (strict_nodup (sortD_sorted ns)) fun k => by rw [mem_sortD]; simp
    rw [← en]
    exact hk _ h4 _ G _ e1 (Den.int _)
def fbLenSet : FBp := fun ds => (bSeqI ds).bind fun ns => if ns.length < 4000 then some (.d (.int (sortD ns).length)) else none
theorem bf_lenSet : BpF bLenSet fbLenSet := fun ds r k e q => by
  obtain ⟨ns, e1, e2⟩ := Option.bind_eq_some_iff.mp e
  split at e2
  · rename_i h; cases e2; exact ⟨ns, e1, h, q⟩
  · cases e2
theorem fe_lenSet {x y : Str} (hc : X.calm = true) (ha : QB wd X [e] (ofA As)) (hm : X.mg x = none) (hm2 : X.mg y = none) (hg : Gl X x := by rfl) (hg2 : Gl X y := by rfl) (hv : bootBuiltins x = some (.builtin "len") := by decide +kernel) (hv2 : bootBuiltins y = some (.type "set") := by decide +kernel)
    (hn : x ≠ "__name__" := by decide) (hdb : (x == ("__debug__" : Str)) = false := by decide) (hn2 : y ≠ "__name__" := by decide) (hdb2 : (y == ("__debug__" : Str)) = false := by decide)
    (he2 : starEach [e] X.env = (false, eval e X.env) :: starEach [] X.env := by rfl) (hpl : (backTo q (starEach [] X.env)).any (·.1) = false := by rfl)
    (he : starEach [.Call (.Name y p2) [e] [] q] X.env = (false, eval (.Call (.Name y p2) [e] [] q) X.env) :: starEach [] X.env := by rfl) (hpl2 : (backTo pos (starEach [] X.env)).any (·.1) = false := by rfl) :
    QE wd X (.Call (.Name x p) [.Call (.Name y p2) [e] [] q] [] pos) (ofE (fB fbLenSet As)) := (qe_lenSet hc ha hm hm2 hg hg2 hv hv2 hn hdb hn2 hdb2 he2 hpl he hpl2).imp fun sd μ x k h => fB_le bf_lenSet h
@[simp] theorem fbSorSet_lst {ns : List Int} : fbSorSet [.lst (ns.map D.int)] = if ns.length < 4000 ∧ (sortD ns).length < 64 then some (.new (.lst ((sortD ns).map D.int))) else none := by simp [fbSorSet, bSeqI]
@[simp] theorem fbSorSet_tup {ns : List Int} : fbSorSet [.tup (ns.map D.int)] = if ns.length < 4000 ∧ (sortD ns).length < 64 then some (.new (.lst ((sortD ns).map D.int))) else none := by simp [fbSorSet, bSeqI]
@[simp] theorem fbLenSet_lst {ns : List Int} : fbLenSet [.lst (ns.map D.int)] = if ns.length < 4000 then some (.d (.int (sortD ns).length)) else none := by simp [fbLenSet, bSeqI]
@[simp] theorem fbLenSet_tup {ns : List Int} : fbLenSet [.tup (ns.map D.int)] = if ns.length < 4000 then some (.d (.int (sortD ns).length)) else none := by simp [fbLenSet, bSeqI]
end
end
end TL
/-! TL: still more words -/
namespace TL
open PySem PySem.Spec L2
open Classical
noncomputable section
@[simp] theorem belL_app {n : Nat} {ds es : List D} : belowL n (ds ++ es) = (belowL n ds && belowL n es) := by simp [belL_all]
@[simp] theorem belL_int {n : Nat} {ns : List Int} : belowL n (ns.map D.int) = true := belL_map fun _ => bel_int
theorem belL_map' {n : Nat} {α : Type} {f : α → D} {xs : List α} (h : ∀ x ∈ xs, below n (f x) = true) : belowL n (xs.map f) = true := by
  rw [belL_all]; simpa using h
/-- a comprehension without if and effect -/
theorem lcF_all {α : Type} {tg : Tg} {A : FE} {sd : SD} {μ : Mu} {e : α → D} (f : α → D) {xs : List α} (h : ∀ x ∈ xs, ∃ sd', tg.bf (e x) sd = some sd' ∧ ∃ r, A sd' μ = .ok r μ ∧ r.tree = some (f x)) :
    lcF none tg fYes A sd (xs.map e) [] μ = .ok (.new (.lst (xs.map f))) μ := by
  have := lcF_map (tg := tg) (T := fYes) (A := A) (sd := sd) (μ := μ) (e := e) (t := fun _ => true) (f := f) (xs := xs) (acc := []) fun x hx => let ⟨sd', h1, h2⟩ := h x hx; ⟨sd', h1, rfl, fun _ => h2⟩
  rw [this]
  have e : xs.filter (fun _ => true) = xs := List.filter_eq_self.mpr fun _ _ => rfl
  rw [e]
  rfl
/-- .. with an if -/
theorem lcF_fil {α : Type} {tg : Tg} {T : FT} {A : FE} {sd : SD} {μ : Mu} {e : α → D} (t : α → Bool) (f : α → D) {xs : List α} (h : ∀ x ∈ xs, ∃ sd', tg.bf (e x) sd = some sd' ∧ T sd' μ = .ok (t x) μ ∧ (t x = true → ∃ r, A sd' μ = .ok r μ ∧ r.tree = some (f x))) :
    lcF none tg T A sd (xs.map e) [] μ = .ok (.new (.lst ((xs.filter t).map f))) μ := by
  have := lcF_map (tg := tg) (T := T) (A := A) (sd := sd) (μ := μ) (e := e) (t := t) (f := f) (xs := xs) (acc := []) h
  rw [this]
  rfl
/-- a number or None -/
def oD : Option Int → D
  | none => .non
  | some i => .int i
section
variable {μ : Mu} {sd : SD} {h g : Option Int} {n : Nat} {i : Int}
@[simp] theorem vw_oD : vw μ sd (.d (oD h)) = oD h := by cases h <;> rfl
@[simp] theorem isNon_oD : isNon (oD h) = h.isNone := by cases h <;> rfl
@[simp] theorem okB_oD : okB n (oD h) = true := by cases h <;> simp [oD]
@[simp] theorem bel_oD : below n (oD h) = true := by cases h <;> simp [oD]
@[simp] theorem deq_oD : deq (oD h) (oD g) = decide (h = g) := by cases h <;> cases g <;> simp [oD]
@[simp] theorem oD_none : oD none = .non := rfl
@[simp] theorem oD_some : oD (some i) = .int i := rfl
@[simp] theorem see1_oD : see1 μ (oD h) = oD h := by cases h <;> rfl
end
/-! turns of a for -/
theorem for_nx {tg : Tg} {S : FS} {d : D} {ds : List D} {sd sd0 sd1 : SD} {μ μ1 : Mu} {o : OS} (h1 : S sd0 μ = .nx sd1 μ1) (h2 : forF none tg S ds sd1 μ1 = o) (h0 : tg.bf d sd = some sd0 := by rfl) : forF none tg S (d :: ds) sd μ = o := by
  rw [forF_cons h0, h1, forK_nx, h2]
theorem for_ct {tg : Tg} {S : FS} {d : D} {ds : List D} {sd sd0 sd1 : SD} {μ μ1 : Mu} {o : OS} (h1 : S sd0 μ = .ct sd1 μ1) (h2 : forF none tg S ds sd1 μ1 = o) (h0 : tg.bf d sd = some sd0 := by rfl) : forF none tg S (d :: ds) sd μ = o := by
  rw [forF_cons h0, h1, forK_ct, h2]
theorem for_rt {tg : Tg} {S : FS} {d : D} {ds : List D} {sd sd0 : SD} {μ μ1 : Mu} {r : R} (h1 : S sd0 μ = .rt r μ1) (h0 : tg.bf d sd = some sd0 := by rfl) : forF none tg S (d :: ds) sd μ = .rt r μ1 := by
  rw [forF_cons h0, h1, forK_rt]
theorem for_ex {tg : Tg} {S : FS} {d : D} {ds : List D} {sd sd0 sd1 : SD} {μ μ1 : Mu} {c : Nat} {fs : List (Nat × D)} (h1 : S sd0 μ = .ex c fs sd1 μ1) (h0 : tg.bf d sd = some sd0 := by rfl) : forF none tg S (d :: ds) sd μ = .ex c fs sd1 μ1 := by
  rw [forF_cons h0, h1, forK_ex]
theorem rng_nil {lo : Int} {tg : Tg} {S : FS} {sd : SD} {μ : Mu} : forF none tg S (rngD lo 0) sd μ = .nx sd μ := forF_nil
theorem rng_nx {lo : Int} {n : Nat} {tg : Tg} {S : FS} {sd sd0 sd1 : SD} {μ μ1 : Mu} {o : OS} (h1 : S sd0 μ = .nx sd1 μ1) (h2 : forF none tg S (rngD (lo + 1) n) sd1 μ1 = o) (h0 : tg.bf (.int lo) sd = some sd0 := by rfl) : forF none tg S (rngD lo (n + 1)) sd μ = o := by
  rw [rngD_succ]
  exact for_nx h1 h2 h0
theorem rng_rt {lo : Int} {n : Nat} {tg : Tg} {S : FS} {sd sd0 : SD} {μ μ1 : Mu} {r : R} (h1 : S sd0 μ = .rt r μ1) (h0 : tg.bf (.int lo) sd = some sd0 := by rfl) : forF none tg S (rngD lo (n + 1)) sd μ = .rt r μ1 := by
  rw [rngD_succ]
  exact for_rt h1 h0
/-! rests -/
theorem mod_lo {x n : Int} (h : 0 ≤ x ∧ x < n) : x % n = x := Int.emod_eq_of_lt h.1 h.2
theorem mod_hi {x n : Int} (h : n ≤ x ∧ x < n + n) : x % n = x - n := by
  have : x % n = (x - n) % n := by rw [Int.sub_emod, Int.emod_self, Int.sub_zero, Int.emod_emod]
  rw [this, mod_lo (by omega)]
theorem mod_neg {x n : Int} (h : -n ≤ x ∧ x < 0) : x % n = x + n := by
  have : x % n = (x + n) % n := by rw [Int.add_emod_right]
  rw [this, mod_lo (by omega)]
theorem mod_b (x : Int) {n : Int} (h : 0 < n) : 0 ≤ x % n ∧ x % n < n := ⟨Int.emod_nonneg _ (by omega), Int.emod_lt_of_pos _ h⟩
end
end TL
/-! TL: loops that collect -/
namespace TL
open PySem PySem.Spec L2
open Classical
noncomputable section
/-- a for that collects into an own list what is known by its keys -/
theorem forF_keys {α β κ τ : Type} {e : α → D} {tg : Tg} {S : FS} {μ : Mu} (ab : τ → List β → SD) (key : β → κ) (kx : α → List κ) (G : β → Prop) (B : Nat) : ∀ (xs : List α),
    (∀ x ∈ xs, ∀ t acc, acc.length ≤ B → ∃ sd0, tg.bf (e x) (ab t acc) = some sd0 ∧ ∃ t' ys, (S sd0 μ = .nx (ab t' (acc ++ ys)) μ ∨ S sd0 μ = .ct (ab t' (acc ++ ys)) μ) ∧ ys.map key = kx x ∧ ∀ y ∈ ys, G y) →
    ∀ t acc, acc.length + (xs.flatMap kx).length ≤ B → ∃ t' zs, forF none tg S (xs.map e) (ab t acc) μ = .nx (ab t' (acc ++ zs)) μ ∧ zs.map key = xs.flatMap kx ∧ ∀ y ∈ zs, G y
  | [], _, t, acc, _ => ⟨t, [], by rw [List.append_nil]; exact forF_nil, rfl, fun y hy => by simp at hy⟩
  | x :: xs, h, t, acc, hB => by
    rw [List.flatMap_cons, List.length_append] at hB
    obtain ⟨sd0, h0, t1, ys, h1, h2, h3⟩ := h x (by simp) t acc (by omega)
    have hl : ys.length = (kx x).length := by rw [← h2, List.length_map]
    obtain ⟨t2, zs, h4, h5, h6⟩ := forF_keys ab key kx G B xs (fun z hz => h z (by simp [hz])) t1 (acc ++ ys) (by rw [List.length_append]; omega)
    refine ⟨t2, ys ++ zs, ?_, by rw [List.map_append, h2, h5, List.flatMap_cons], fun y hy => ?_⟩
    · rw [List.map_cons, forF_cons h0, ← List.append_assoc]
      rcases h1 with h1 | h1 <;> rw [h1] <;> simpa using h4
    · rcases List.mem_append.mp hy with hy | hy
      · exact h3 y hy
      · exact h6 y hy
/-- .. what is known -/
theorem forF_coll {α β τ : Type} {e : α → D} {tg : Tg} {S : FS} {μ : Mu} (ab : τ → List β → SD) (h : α → List β) (B : Nat) (xs : List α)
    (step : ∀ x ∈ xs, ∀ t acc, acc.length ≤ B → ∃ sd0, tg.bf (e x) (ab t acc) = some sd0 ∧ ∃ t', S sd0 μ = .nx (ab t' (acc ++ h x)) μ ∨ S sd0 μ = .ct (ab t' (acc ++ h x)) μ) (t : τ) (acc : List β) (hB : acc.length + (xs.flatMap h).length ≤ B) :
    ∃ t', forF none tg S (xs.map e) (ab t acc) μ = .nx (ab t' (acc ++ xs.flatMap h)) μ := by
  obtain ⟨t', zs, h1, h2, _⟩ := forF_keys (μ := μ) (tg := tg) (S := S) (e := e) ab id h (fun _ => True) B xs (fun x hx t acc ha => by
    obtain ⟨sd0, h0, t', h1⟩ := step x hx t acc ha
    exact ⟨sd0, h0, t', h x, h1, by simp, fun _ _ => trivial⟩) t acc hB
  rw [List.map_id] at h2
  exact ⟨t', by rw [h1, h2]⟩
@[simp] theorem deqL_mapnil {α : Type} {f : α → D} {xs : List α} : deqL (xs.map f) [] = decide (xs = []) := by cases xs <;> simp
@[simp] theorem deqL_nilmap {α : Type} {f : α → D} {xs : List α} : deqL [] (xs.map f) = decide (xs = []) := by cases xs <;> simp
theorem rngD_0 {n : Nat} : rngD 0 n = (irg 0 n).map D.int := rngD_irg
theorem flatMap_len {α β : Type} {f : α → List β} {m : Nat} : ∀ {xs : List α}, (∀ x ∈ xs, (f x).length ≤ m) → (xs.flatMap f).length ≤ m * xs.length
  | [], _ => by simp
  | x :: xs, h => by
    have := flatMap_len (f := f) (m := m) (xs := xs) fun y hy => h y (by simp [hy])
    have := h x (by simp)
    rw [List.flatMap_cons, List.length_append, List.length_cons, Nat.mul_succ]
    omega
theorem irg_nodup {lo : Int} {n : Nat} : (irg lo n).Nodup := by
  unfold irg
  unfold List.Nodup
  rw [List.pairwise_map]
  exact List.nodup_range.imp fun h e => h (by omega)
theorem nodup_flatMap {α β : Type} {f : α → List β} : ∀ {xs : List α}, xs.Nodup → (∀ x ∈ xs, (f x).Nodup) → (∀ x ∈ xs, ∀ y ∈ xs, x ≠ y → ∀ z, z ∈ f x → z ∈ f y → False) → (xs.flatMap f).Nodup
  | [], _, _, _ => by simp
  | x :: xs, h1, h2, h3 => by
    rw [List.nodup_cons] at h1
    rw [List.flatMap_cons, List.nodup_append]
    refine ⟨h2 x (by simp), nodup_flatMap h1.2 (fun y hy => h2 y (by simp [hy])) (fun y hy z hz => h3 y (by simp [hy]) z (by simp [hz])), fun a ha b hb e => ?_⟩
    subst e
    obtain ⟨y, hy, hz⟩ := List.mem_flatMap.mp hb
    exact h3 x (by simp) y (by simp [hy]) (fun z => h1.1 (z ▸ hy)) a ha hz
end
end TL
/-! TL: pairs in order -/
namespace TL
open PySem PySem.Spec L2
open Classical
noncomputable section
/-- p before q -/
def ltPr (p q : Int × Int) : Bool := decide (p.1 < q.1 ∨ p.1 = q.1 ∧ p.2 < q.2)
theorem ltPr_lex {p q : Int × Int} : SrtO.lexB p q = ltPr p q := by
  unfold ltPr
  rw [Bool.eq_iff_iff, SrtO.lexB_iff, decide_eq_true_eq]
def insPr (x : Int × Int) : List (Int × Int) → List (Int × Int)
  | [] => [x]
  | y :: r => if ltPr y x = true then y :: insPr x r else x :: y :: r
def sortPr : List (Int × Int) → List (Int × Int)
  | [] => []
  | x :: r => insPr x (sortPr r)
theorem insPr_perm (x : Int × Int) : ∀ l, (insPr x l).Perm (x :: l)
  | [] => List.Perm.refl _
  | y :: r => by
    unfold insPr
    split
    · exact ((insPr_perm x r).cons y).trans (List.Perm.swap x y r)
    · exact List.Perm.refl _
theorem sortPr_perm : ∀ l, (sortPr l).Perm l
  | [] => List.Perm.refl _
  | x :: r => (insPr_perm x _).trans ((sortPr_perm r).cons x)
abbrev SrtP (l : List (Int × Int)) : Prop := l.Pairwise fun x y => ltPr y x = false
theorem insPr_sorted (x : Int × Int) : ∀ l, SrtP l → SrtP (insPr x l)
  | [], _ => by simp [insPr, SrtP]
  | y :: r, h => by
    have h' := List.pairwise_cons.mp h
    unfold insPr
    split
    · rename_i hyx
      refine List.pairwise_cons.mpr ⟨fun z hz => ?_, insPr_sorted x r h'.2⟩
      rcases List.mem_cons.mp ((insPr_perm x r).mem_iff.mp hz) with rfl | hz
      · simp [ltPr] at hyx ⊢; omega
      · exact h'.1 z hz
    · rename_i hyx
      refine List.pairwise_cons.mpr ⟨fun z hz => ?_, h⟩
      rcases List.mem_cons.mp hz with rfl | hz
      · simpa using hyx
      · have a := h'.1 z hz
        simp [ltPr] at hyx a ⊢
        omega
theorem sortPr_sorted : ∀ l, SrtP (sortPr l)
  | [] => List.Pairwise.nil
  | x :: r => insPr_sorted x _ (sortPr_sorted r)
theorem srtP_uniq : ∀ {l m : List (Int × Int)}, l.Perm m → SrtP l → SrtP m → l = m
  | [], m, p, _, _ => p.nil_eq
  | x :: l, [], p, _, _ => by have := p.length_eq; simp at this
  | x :: l, y :: m, p, h1, h2 => by
    have h1 := List.pairwise_cons.mp h1
    have h2 := List.pairwise_cons.mp h2
    have a : x = y := by
      rcases List.mem_cons.mp (p.mem_iff.mp (List.mem_cons_self (a := x) (l := l))) with e | m1
      · exact e
      · rcases List.mem_cons.mp (p.mem_iff.mpr (List.mem_cons_self (a := y) (l := m))) with e | m2
        · exact e.symm
        · have b := h2.1 x m1
          have c := h1.1 y m2
          obtain ⟨x1, x2⟩ := x
          obtain ⟨y1, y2⟩ := y
          simp [ltPr] at b c
          have : x1 = y1 ∧ x2 = y2 := by omega
          rw [this.1, this.2]
    subst a
    rw [srtP_uniq p.cons_inv h1.2 h2.2]
theorem perm_lift {α β : Type} {f : α → β} {out : List β} {l : List β} (h : out.Perm l) : ∀ {ps : List α}, l = ps.map f → ∃ qs : List α, qs.Perm ps ∧ qs.map f = out := by
  induction h with
  | nil => intro ps e; exact ⟨ps, List.Perm.refl _, e.symm⟩
  | cons x _ ih =>
    intro ps e
    match ps, e with
    | p :: r, e =>
      obtain ⟨e1, e2⟩ := List.cons.inj e
      obtain ⟨qs, h1, h2⟩ := ih e2
      exact ⟨p :: qs, h1.cons p, by rw [List.map_cons, h2, e1]⟩
  | swap x y l =>
    intro ps e
    match ps, e with
    | p :: q :: r, e =>
      obtain ⟨e1, e2⟩ := List.cons.inj e
      obtain ⟨e3, e4⟩ := List.cons.inj e2
      exact ⟨q :: p :: r, List.Perm.swap p q r, by simp [e1, e3, e4]⟩
  | trans _ _ ih1 ih2 =>
    intro ps e
    obtain ⟨qs, h1, h2⟩ := ih2 e
    obtain ⟨rs, h3, h4⟩ := ih1 h2.symm
    exact ⟨rs, h3.trans h1, h4⟩
/-- sorted, of pairs of ints, each with its value -/
def rSortP2 (K : PySem.W.Frag) : List V → Hp → VK → Prop := fun vs H Q => ∃ (a : Addr) (ps : List (V × Int × Int)), vs = [.ref a] ∧ SqL K H a (ps.map (·.1)) ∧ (∀ p ∈ ps, ∃ t, p.1 = .ref t ∧ SqT K H t [.int p.2.1, .int p.2.2]) ∧
  ∀ (qs : List (V × Int × Int)) (d : Addr), qs.Perm ps → SrtP (qs.map (·.2)) → H d = none → Q (.ref d) (upd H d (.lst (qs.map (·.1))))
theorem isPair_fun {h : Heap} {v : Value} {i j i' j' : Int} (a : Srt.IsPair h v i j) (b : Srt.IsPair h v i' j') : i = i' ∧ j = j' := by
  obtain ⟨t, o, t1, t2, n, rfl, ho, hc, hd⟩ := a
  obtain ⟨t', o', t1', t2', n', e, ho', hc', hd'⟩ := b
  cases e
  rw [ho] at ho'
  cases ho'
  rw [hd] at hd'
  cases hd'
  exact ⟨rfl, rfl⟩
theorem snd_map {k : Value → Int × Int} : ∀ {qs : List (V × Int × Int)} {out : List Value}, qs.map (·.1) = out.map backV → (∀ q ∈ qs, ∀ u ∈ out, q.1 = backV u → k u = q.2) → qs.map (·.2) = out.map k
  | [], [], _, _ => rfl
  | [], _ :: _, e, _ => by cases e
  | _ :: _, [], e, _ => by cases e
  | q :: qs, u :: out, e, h => by
    obtain ⟨e1, e2⟩ := List.cons.inj e
    rw [List.map_cons, List.map_cons, h q (by simp) u (by simp) e1, snd_map e2 fun q' hq u' hu => h q' (by simp [hq]) u' (by simp [hu])]
section
variable {X : Cx} {wd : Wd}
theorem cr_sortP2 : CallR X (.builtin "sorted") (rSortP2 X.K) := by
  intro pins s σ H vs us Q I r ⟨a, ps, e, hs, hx, q⟩
  subst e
  rw [Vals.ref1 r]
  obtain ⟨its, rv, hl, hz⟩ := I.list hs
  obtain ⟨e1, e2⟩ := refs_back rv fun x m => by
    obtain ⟨p, hp, rfl⟩ := List.mem_map.mp m
    obtain ⟨t, e, _⟩ := hx p hp
    exact ⟨t, e⟩
  have pr : ∀ p ∈ ps, ∀ u, p.1 = backV u → (∃ a, u = Value.ref a) → Srt.IsPair s.heap u p.2.1 p.2.2 := fun p hp u eu ⟨a, ea⟩ => by
    obtain ⟨t, e, ht⟩ := hx p hp
    subst ea
    have : t = a := by rw [e] at eu; cases eu; rfl
    subst this
    obtain ⟨its2, r2, ⟨o, ho, hc, n, hd⟩, _⟩ := I.tuple ht
    obtain ⟨u1, u2, rfl, ri, rj⟩ := vals2 r2
    obtain ⟨t1, rfl⟩ := ri
    obtain ⟨t2, rfl⟩ := rj
    exact ⟨t, o, t1, t2, n, rfl, ho, hc, hd⟩
  have kx : ∃ k : Value → Int × Int, ∀ u i j, Srt.IsPair s.heap u i j → k u = (i, j) := by
    refine ⟨fun u => if h : ∃ ij : Int × Int, Srt.IsPair s.heap u ij.1 ij.2 then h.choose else (0, 0), fun u i j h => ?_⟩
    have h' : ∃ ij : Int × Int, Srt.IsPair s.heap u ij.1 ij.2 := ⟨(i, j), h⟩
    dsimp only
    rw [dif_pos h']
    obtain ⟨a, b⟩ := isPair_fun h'.choose_spec h
    exact Prod.ext a b
  obtain ⟨k, hk⟩ := kx
  refine SrtO.sorted_pairsO (k := k) hl.isList (by rw [← rv.length]; exact hz) (fun v hv => ?_) fun h' d out h1 h2 kp hd hn => ?_
  · have hm : backV v ∈ ps.map (·.1) := by rw [e1]; exact List.mem_map.mpr ⟨v, hv, rfl⟩
    obtain ⟨p, hp, ep⟩ := List.mem_map.mp hm
    have := pr p hp v ep (e2 v hv)
    rw [hk v _ _ this]
    exact this
  · have h3 : ∀ u ∈ out, ∃ a, u = Value.ref a := fun u hu => e2 u (h2.perm.mem_iff.mp hu)
    obtain ⟨n, hn⟩ := hn
    obtain ⟨qs, g1, g2⟩ := perm_lift (f := fun p : V × Int × Int => p.1) (h2.perm.map backV) e1.symm
    have g3 : qs.map (·.2) = out.map k := snd_map g2 fun q hq u hu eu => hk u _ _ (pr q (g1.mem_iff.mp hq) u eu (h3 u hu))
    have hsrt : SrtP (qs.map (·.2)) := by
      rw [g3]
      refine List.pairwise_map.mpr (h1.imp fun {x y} z => ?_)
      rw [← ltPr_lex]; exact z
    refine ⟨.ref d, upd H d (.lst (qs.map (·.1))), I.laid (t' := s.toks) kp hd ⟨?_, out, n, ?_, hn⟩, rfl, q qs d g1 hsrt (I.hok.fresh hd)⟩
    · rw [List.length_map, g1.length_eq, ← List.length_map (f := fun p : V × Int × Int => p.1)]; exact hz
    · rw [g2]; exact vals_back h3
/-- sorted, of pairs of ints -/
def bSortP : BP := fun ds k => match ds with
  | [.lst xs] => ∃ ps : List (Int × Int), xs = ps.map TL.prD ∧ k (.new (.lst ((sortPr ps).map TL.prD)))
  | _ => False
theorem den_pr {K : PySem.W.Frag} {cl : Cl} {G : Gh} {v : V} {p : Int × Int} (h : Den K cl G v (TL.prD p)) : ∃ t, v = .ref t ∧ SqT K G.fz t [.int p.1, .int p.2] := by
  cases h with
  | @tup a us _ q1 q2 =>
  cases q2 with
  | cons x1 x2 =>
  cases x1
  cases x2 with
  | cons y1 y2 =>
  cases y1
  cases y2
  exact ⟨a, rfl, q1⟩
theorem zip_fst {α β : Type} : ∀ {l : List α} {m : List β}, l.length = m.length → (l.zip m).map (·.1) = l
  | [], [], _ => rfl
  | x :: l, y :: m, h => by rw [List.zip_cons_cons, List.map_cons, zip_fst (by simpa using h)]
theorem zip_snd {α β : Type} : ∀ {l : List α} {m : List β}, l.length = m.length → (l.zip m).map (·.2) = m
  | [], [], _ => rfl
  | x :: l, y :: m, h => by rw [List.zip_cons_cons, List.map_cons, zip_snd (by simpa using h)]
theorem den_zip {K : PySem.W.Frag} {cl : Cl} {G : Gh} : ∀ {vs : List V} {ps : List (Int × Int)}, DenL K cl G vs (ps.map TL.prD) → vs.length = ps.length ∧ ∀ q ∈ vs.zip ps, Den K cl G q.1 (TL.prD q.2)
  | [], [], _ => ⟨rfl, fun q hq => by simp at hq⟩
  | [], _ :: _, h => by cases h
  | _ :: _, [], h => by cases h
  | v :: vs, p :: ps, h => by
    cases h with
    | cons h1 h2 =>
    obtain ⟨a, b⟩ := den_zip h2
    refine ⟨by simp [a], fun q hq => ?_⟩
    rw [List.zip_cons_cons] at hq
    rcases List.mem_cons.mp hq with rfl | hq
    · exact h1
    · exact b q hq
theorem den_of {K : PySem.W.Frag} {cl : Cl} {G : Gh} : ∀ {qs : List (V × Int × Int)}, (∀ q ∈ qs, Den K cl G q.1 (TL.prD q.2)) → DenL K cl G (qs.map (·.1)) ((qs.map (·.2)).map TL.prD)
  | [], _ => .nil
  | q :: qs, h => .cons (h q (by simp)) (den_of fun z hz => h z (by simp [hz]))
theorem ct_sortP : CallT wd X (.builtin "sorted") bSortP := by
  refine ⟨_, cr_sortP2, fun vs ds G H μ k Q r hd ho hk => ?_⟩
  match ds, ho with
  | [.lst xs], ho =>
    obtain ⟨v, rfl, h1⟩ := den1_1 hd
    obtain ⟨a, us, rfl, q1, q2⟩ := h1
    obtain ⟨ps, rfl, h⟩ := ho
    obtain ⟨hl, hz⟩ := den_zip q2
    refine ⟨a, us.zip ps, rfl, by rw [zip_fst hl]; exact q1, fun p hp => ?_, fun qs d g1 g2 hd => ?_⟩
    · obtain ⟨t, e, ht⟩ := den_pr (hz p hp)
      exact ⟨t, e, sqT_same r.sub ht⟩
    · have e : qs.map (·.2) = sortPr ps := srtP_uniq ((g1.map _).trans ((by rw [zip_snd hl] : ((us.zip ps).map (·.2)).Perm ps) |>.trans (sortPr_perm ps).symm)) g2 (sortPr_sorted ps)
      have dn := den_of (K := X.K) (cl := wd.cl) (G := G) (qs := qs) fun q hq => hz q (g1.mem_iff.mp hq)
      rw [e] at dn
      exact new_lst r dn hk h d hd
def dPrs : List D → Option (List (Int × Int))
  | [] => some []
  | .tup [.int i, .int j] :: r => (dPrs r).map ((i, j) :: ·)
  | _ :: _ => none
@[simp] theorem dPrs_map : ∀ ps : List (Int × Int), dPrs (ps.map TL.prD) = some ps
  | [] => rfl
  | p :: ps => by
    rw [List.map_cons]
    show (dPrs (ps.map TL.prD)).map ((p.1, p.2) :: ·) = _
    rw [dPrs_map ps]
    rfl
theorem dPrs_eq : ∀ {xs : List D} {ps : List (Int × Int)}, dPrs xs = some ps → xs = ps.map TL.prD
  | [], ps, h => by cases h; rfl
  | x :: r, ps, h => by
    unfold dPrs at h
    split at h
    · rename_i h'; cases h'
    · rename_i i j r' h'
      cases h'
      obtain ⟨qs, e, rfl⟩ := Option.map_eq_some_iff.mp h
      rw [dPrs_eq e]
      rfl
    · cases h
def fbSortP : FBp := fun ds => match ds with
  | [.lst xs] => (dPrs xs).map fun ps => .new (.lst ((sortPr ps).map TL.prD))
  | _ => none
theorem bf_sortP : BpF bSortP fbSortP := fun ds r k e q => by
  unfold fbSortP at e
  split at e
  · obtain ⟨ps, h1, rfl⟩ := Option.map_eq_some_iff.mp e
    exact ⟨ps, dPrs_eq h1, q⟩
  · cases e
@[simp] theorem fbSortP_ap {ps : List (Int × Int)} : fbSortP [.lst (ps.map TL.prD)] = some (.new (.lst ((sortPr ps).map TL.prD))) := by simp [fbSortP]
end
end
end TL
/-! TL: bits, whiles -/
namespace TL
open PySem PySem.Spec L2
open Classical
noncomputable section
theorem and_nat (a b : Nat) : Builtin.bitAnd (a : Int) (b : Int) = ((a &&& b : Nat) : Int) := by
  unfold Builtin.bitAnd
  have h1 : decide ((0 : Int) ≤ a) = true := decide_eq_true (by omega)
  have h2 : decide ((0 : Int) ≤ b) = true := decide_eq_true (by omega)
  rw [h1, h2]
  rfl
theorem or_nat (a b : Nat) : Builtin.bitOr (a : Int) (b : Int) = ((a ||| b : Nat) : Int) := by
  unfold Builtin.bitOr Builtin.bitAnd Builtin.bitNot
  have h1 : decide ((0 : Int) ≤ -(a : Int) - 1) = false := decide_eq_false (by omega)
  have h2 : decide ((0 : Int) ≤ -(b : Int) - 1) = false := decide_eq_false (by omega)
  rw [h1, h2]
  dsimp only
  have e1 : (-(-(a : Int) - 1) - 1).toNat = a := by omega
  have e2 : (-(-(b : Int) - 1) - 1).toNat = b := by omega
  rw [e1, e2]
  omega
theorem bit_test (s k : Nat) : Builtin.bitAnd ((s : Int) / 2 ^ k) 1 = if s.testBit k then 1 else 0 := by
  rw [PyProof.Rows.bitAnd_m1]
  have e : (s : Int) / 2 ^ k % 2 = ((s / 2 ^ k % 2 : Nat) : Int) := by simp
  rw [e, Nat.testBit_eq_decide_div_mod_eq]
  have : s / 2 ^ k % 2 = 0 ∨ s / 2 ^ k % 2 = 1 := by omega
  rcases this with h | h <;> rw [h] <;> rfl
theorem or_bit (s k : Nat) : Builtin.bitOr (s : Int) (2 ^ k) = ((s ||| 2 ^ k : Nat) : Int) := by
  rw [← or_nat]
  simp
theorem or_gt {s k : Nat} (h : s.testBit k = false) : s < s ||| 2 ^ k := by
  have h1 : s ≤ s ||| 2 ^ k := Nat.left_le_or
  have h2 : s ≠ s ||| 2 ^ k := by
    intro e
    have := congrArg (Nat.testBit · k) e
    simp [h] at this
  omega
theorem or_lt {s k n : Nat} (h : s < 2 ^ n) (hk : k < n) : s ||| 2 ^ k < 2 ^ n := Nat.or_lt_two_pow h (Nat.pow_lt_pow_right (by omega) hk)
theorem test_or {s k j : Nat} : (s ||| 2 ^ k).testBit j = (s.testBit j || decide (k = j)) := by
  rw [Nat.testBit_or, Nat.testBit_two_pow]
theorem sum_set {α : Type} {f : α → Nat} : ∀ {xs : List α} {i : Nat} {x y : α}, xs[i]? = some x → f y < f x → ((xs.set i y).map f).sum < (xs.map f).sum
  | [], i, x, y, h, _ => by simp at h
  | z :: xs, 0, x, y, h, hl => by
    simp at h
    subst h
    simp
    omega
  | z :: xs, i + 1, x, y, h, hl => by
    have := sum_set (xs := xs) (i := i) (y := y) (by simpa using h) hl
    rw [List.set_cons_succ, List.map_cons, List.map_cons, List.sum_cons, List.sum_cons]
    omega
/-- a while by a measure -/
theorem while_inv {σ : Type} {T : FT} {S : FS} {μ : Mu} (ab : σ → SD) (m : σ → Nat) (I : σ → Prop) (tst : σ → Bool)
    (step : ∀ s, I s → T (ab s) μ = .ok (tst s) μ ∧ (tst s = true → ∃ s', (S (ab s) μ = .nx (ab s') μ ∨ S (ab s) μ = .ct (ab s') μ) ∧ I s' ∧ m s' < m s)) : ∀ (k : Nat) (s : σ), m s = k → I s → ∃ s', sWhile T S (ab s) μ = .nx (ab s') μ ∧ I s' ∧ tst s' = false := by
  intro k
  induction k using Nat.strongRecOn with
  | _ k ih =>
    intro s hk hI
    obtain ⟨h1, h2⟩ := step s hI
    rw [while_eq, h1, thenS_ok]
    cases q : tst s with
    | false => exact ⟨s, by simp, hI, q⟩
    | true =>
      obtain ⟨s', h3, h4, h5⟩ := h2 q
      obtain ⟨s2, h6, h7, h8⟩ := ih (m s') (by omega) s' rfl h4
      refine ⟨s2, ?_, h7, h8⟩
      rw [if_pos rfl]
      rcases h3 with h3 | h3 <;> rw [h3] <;> simpa using h6
@[simp] theorem rep_flat {α : Type} {x : α} : ∀ {n : Nat}, (List.replicate n [x]).flatten = List.replicate n x
  | 0 => rfl
  | n + 1 => by rw [List.replicate_succ, List.flatten_cons, rep_flat, List.replicate_succ]; rfl
/-- a number from nought on -/
def natD (s : Nat) : D := .int s
@[simp] theorem vw_natD {μ : Mu} {sd : SD} {s : Nat} : vw μ sd (.d (natD s)) = .int s := rfl
@[simp] theorem okB_natD {n s : Nat} : okB n (natD s) = true := by simp [natD]
@[simp] theorem bel_natD {n s : Nat} : below n (natD s) = true := by simp [natD]
@[simp] theorem deq_natD {s t : Nat} : deq (natD s) (natD t) = decide (s = t) := by simp [natD, Int.ofNat_inj]
theorem at_natD {xs : List Nat} {k : Nat} (h : k < xs.length) : atI (xs.map natD) (k : Int) = some (.int (xs[k] : Nat)) := at_map (f := natD) h
end
end TL
/-! TL: loops that are left by a return -/
namespace TL
open PySem PySem.Spec L2
open Classical
noncomputable section
theorem forF_find {α β τ : Type} {e : α → D} {tg : Tg} {S : FS} {μ : Mu} (ab : τ → SD) (h : α → Option β) (f : β → R) : ∀ (xs : List α),
    (∀ x ∈ xs, ∀ t, ∃ sd0, tg.bf (e x) (ab t) = some sd0 ∧ ((h x = none ∧ ∃ t', S sd0 μ = .nx (ab t') μ ∨ S sd0 μ = .ct (ab t') μ) ∨ ∃ y, h x = some y ∧ S sd0 μ = .rt (f y) μ)) →
    ∀ t, (xs.findSome? h = none ∧ ∃ t', forF none tg S (xs.map e) (ab t) μ = .nx (ab t') μ) ∨ ∃ y, xs.findSome? h = some y ∧ forF none tg S (xs.map e) (ab t) μ = .rt (f y) μ
  | [], _, t => .inl ⟨rfl, t, forF_nil⟩
  | x :: xs, hs, t => by
    obtain ⟨sd0, h0, h1⟩ := hs x (by simp) t
    rw [List.map_cons, forF_cons h0, List.findSome?_cons]
    rcases h1 with ⟨h1, t', h2⟩ | ⟨y, h1, h2⟩
    · have ih := forF_find ab h f xs (fun z hz => hs z (by simp [hz])) t'
      rw [h1]
      rcases h2 with h2 | h2 <;> rw [h2] <;> simpa using ih
    · rw [h1, h2]
      exact .inr ⟨y, rfl, by simp⟩
end
end TL
/-! TL: lists turned about, chained comparisons, calls without arguments -/
namespace TL
open PySem PySem.Spec L2
open Classical
noncomputable section
section
variable {X : Cx} {wd : Wd} {e a b c : Expr} {w wa wb wc : WE} {pos : Pos} {A B C : FE} {x : Str} {p : Pos}
/-- xs[::-1] -/
def wRevL (w : WE) : WE := fun sd μ x k => w sd μ x fun r μ1 => ∃ ds, vw μ1 sd r = .lst ds ∧ k (.new (.lst ds.reverse)) μ1
theorem qe_revL {k : Nat} {p1 p2 p3 : Pos} (he : QE wd X e w) : QE wd X (.Subscript e (.Slice none none (some (.UnaryOp .USub (.Constant (.int 1) k p1) p2)) p3) pos) (wRevL w) := by
  refine ⟨PE.imp (pe_revL he.pe) fun σ H Q ⟨G0, H0, μ0, G, μ, sd, x, k, hx, hs, hw, hk, hxo⟩ => ?_⟩
  refine ⟨G0, H0, μ0, G, μ, sd, x, _, hx, hs, hw, fun r μ1 q v G1 H1 e1 rel => ?_, hxo⟩
  obtain ⟨G1', e1', s1, hold1⟩ := hold hs e1 rel
  obtain ⟨ds, hv, q⟩ := q
  have h1 := hold1 _ _ _ (.refl e1'.rep)
  rw [hv] at h1
  obtain ⟨a, vs, rfl, h2, h3⟩ := h1
  refine ⟨a, vs, rfl, h2, fun p hp => ?_⟩
  have e2 : Ext X.K wd.cl G1' H1 μ1 G1' (upd H1 p (.lst vs.reverse)) μ1 := Ext.loose e1'.rep hp
  have hp0 : H p = none := e1'.dom _ hp
  exact hk _ _ q _ _ _ (e1'.trans e2) ⟨p, _, rfl, hp0, upd_same, h3.rev, (e1'.rep.free hp).1, (e1'.rep.free hp).2⟩
def revK (d : D) (μ : Mu) : Out R := match d with
  | .lst ds => .ok (.new (.lst ds.reverse)) μ
  | _ => .no
@[simp] theorem revK_lst {ds : List D} {μ : Mu} : revK (.lst ds) μ = .ok (.new (.lst ds.reverse)) μ := rfl
def fRevL (A : FE) : FE := fun sd μ => (A sd μ).bind fun r μ1 => revK (vw μ1 sd r) μ1
@[simp] theorem fRevL_ap {sd : SD} {μ : Mu} : fRevL A sd μ = (A sd μ).bind fun r μ1 => revK (vw μ1 sd r) μ1 := rfl
theorem fRevL_le {sd : SD} {μ : Mu} {x : XT} {k : R → Mu → Prop} (h : ofE (fRevL A) sd μ x k) : wRevL (ofE A) sd μ x k :=
  sat_mono (sat_bind h) fun r μ1 h => by
    cases q : vw μ1 sd r with
    | lst ds => rw [q] at h; exact ⟨ds, rfl, h⟩
    | _ => rw [q] at h; exact h.elim
theorem fe_revL {k : Nat} {p1 p2 p3 : Pos} (he : QE wd X e (ofE A)) : QE wd X (.Subscript e (.Slice none none (some (.UnaryOp .USub (.Constant (.int 1) k p1) p2)) p3) pos) (ofE (fRevL A)) := (qe_revL he).imp fun sd μ x k h => fRevL_le h
/-! a op b op' c, of ints -/
def wChain (f g : Int → Int → Bool) (wa wb wc : WE) : WE := fun sd μ x k => wa sd μ x fun r1 μ1 => wb sd μ1 x fun r2 μ2 => ∃ i j, r1 = .d (.int i) ∧ r2 = .d (.int j) ∧ (f i j = true → wc sd μ2 x fun r3 μ3 => ∃ l, r3 = .d (.int l) ∧ k (.d (.bl (g j l))) μ3) ∧ (f i j = false → k (.d (.bl false)) μ2)
theorem chain_red {f g : Int → Int → Bool} {σ : L2.St} {H : Hp} {Q : VK} (h : rdE X.K wd (wChain f g wa wb wc) σ H Q) : tChain (rI0 fun i j => .bl (f i j)) (rI0 fun i j => .bl (g i j)) (rdE X.K wd wa) (rdE X.K wd wb) (rdE X.K wd wc) σ H Q := by
  obtain ⟨G0, H0, μ0, G, μ, sd, x, k, hx, hs, hw, hk, hxo⟩ := h
  refine ⟨G0, H0, μ0, G, μ, sd, x, _, hx, hs, hw, fun r1 μ1 q1 v1 G1 H1 e1 rel1 => ?_, hxo⟩
  refine ⟨G0, H0, μ0, G1, μ1, sd, x, _, hx.trans e1, hs.step e1, q1, fun r2 μ2 q2 v2 G2 H2 e2 rel2 => ?_, hxo.step e1⟩
  obtain ⟨i, j, rfl, rfl, q3, q4⟩ := q2
  cases rel1
  cases rel2
  refine ⟨i, j, rfl, rfl, f i j, rfl, ?_⟩
  cases q : f i j with
  | false =>
    rw [if_neg (by decide)]
    exact hk _ _ (q4 q) _ G2 H2 (e1.trans e2) (Den.bl _)
  | true =>
    rw [if_pos rfl]
    refine ⟨G0, H0, μ0, G2, μ2, sd, x, _, (hx.trans e1).trans e2, (hs.step e1).step e2, q3 q, fun r3 μ3 q5 v3 G3 H3 e3 rel3 => ?_, (hxo.step e1).step e2⟩
    obtain ⟨l, rfl, q5⟩ := q5
    cases rel3
    exact ⟨j, l, rfl, rfl, hk _ _ q5 _ G3 H3 ((e1.trans e2).trans e3) (Den.bl _)⟩
theorem qe_chain {op op' : CmpOp} {f g : Int → Int → Bool} (ho : OpR X (compareOp op) (rI0 fun i j => .bl (f i j))) (ho' : OpR X (compareOp op') (rI0 fun i j => .bl (g i j))) (ha : QE wd X a wa) (hb : QE wd X b wb) (hc : QE wd X c wc) (hm : lastMarks [op, op'] [b, c] = false := by with_unfolding_all rfl) :
    QE wd X (.Compare a [op, op'] [b, c] pos) (wChain f g wa wb wc) := ⟨PE.imp (pe_chain ho ho' ha.pe hb.pe hc.pe hm) fun σ H Q h => chain_red h⟩
def wTstB (w : WE) : WT := fun sd μ x k => w sd μ x fun r μ' => match r with
  | .d (.bl b) => k b μ'
  | _ => False
theorem qt_chain {op op' : CmpOp} {f g : Int → Int → Bool} (ho : OpR X (compareOp op) (rI0 fun i j => .bl (f i j))) (ho' : OpR X (compareOp op') (rI0 fun i j => .bl (g i j))) (ha : QE wd X a wa) (hb : QE wd X b wb) (hc : QE wd X c wc) (hm : lastMarks [op, op'] [b, c] = false := by with_unfolding_all rfl) :
    QT wd X (.Compare a [op, op'] [b, c] pos) (wTst (wChain f g wa wb wc)) :=
  ⟨PT.imp (pt_chain ho ho' ha.pe hb.pe hc.pe hm) fun σ H Q h => chain_red (Q := fun x H' => ∃ c, x = .bl c ∧ Q c H') (tst_of h)⟩
def fChain (f g : Int → Int → Bool) (A B C : FE) : FE := fun sd μ => (A sd μ).bind fun r1 μ1 => (B sd μ1).bind fun r2 μ2 => (Out.of (iOf r1) μ2).bind fun i μ2 => (Out.of (iOf r2) μ2).bind fun j μ2 => if f i j = true then (C sd μ2).bind fun r3 μ3 => (Out.of (iOf r3) μ3).bind fun l μ3 => .ok (.d (.bl (g j l))) μ3 else .ok (.d (.bl false)) μ2
@[simp] theorem fChain_ap {f g : Int → Int → Bool} {sd : SD} {μ : Mu} : fChain f g A B C sd μ = (A sd μ).bind fun r1 μ1 => (B sd μ1).bind fun r2 μ2 => (Out.of (iOf r1) μ2).bind fun i μ2 => (Out.of (iOf r2) μ2).bind fun j μ2 => if f i j = true then (C sd μ2).bind fun r3 μ3 => (Out.of (iOf r3) μ3).bind fun l μ3 => .ok (.d (.bl (g j l))) μ3 else .ok (.d (.bl false)) μ2 := rfl
theorem fChain_le {f g : Int → Int → Bool} {sd : SD} {μ : Mu} {x : XT} {k : R → Mu → Prop} (h : ofE (fChain f g A B C) sd μ x k) : wChain f g (ofE A) (ofE B) (ofE C) sd μ x k :=
  sat_mono (sat_bind h) fun r1 μ1 h => sat_mono (sat_bind h) fun r2 μ2 h => by
    obtain ⟨i, e1, h0⟩ := sat_of (sat_bind h)
    obtain ⟨j, e2, h1⟩ := sat_of (sat_bind h0)
    refine ⟨i, j, iOf_eq e1, iOf_eq e2, fun q => ?_, fun q => ?_⟩
    · rw [if_pos q] at h1
      refine sat_mono (sat_bind h1) fun r3 μ3 h => ?_
      obtain ⟨l, e3, h2⟩ := sat_of (sat_bind h)
      exact ⟨l, iOf_eq e3, h2⟩
    · rw [if_neg (by rw [q]; decide)] at h1
      exact h1
abbrev iLt (i j : Int) : Bool := decide (i < j)
abbrev iLe (i j : Int) : Bool := decide (i ≤ j)
theorem fe_chain {op op' : CmpOp} {f g : Int → Int → Bool} (ho : OpR X (compareOp op) (rI0 fun i j => .bl (f i j))) (ho' : OpR X (compareOp op') (rI0 fun i j => .bl (g i j))) (ha : QE wd X a (ofE A)) (hb : QE wd X b (ofE B)) (hc : QE wd X c (ofE C)) (hm : lastMarks [op, op'] [b, c] = false := by with_unfolding_all rfl) :
    QE wd X (.Compare a [op, op'] [b, c] pos) (ofE (fChain f g A B C)) := (qe_chain ho ho' ha hb hc hm).imp fun sd μ x k h => fChain_le h
theorem ft_chain {op op' : CmpOp} {f g : Int → Int → Bool} (ho : OpR X (compareOp op) (rI0 fun i j => .bl (f i j))) (ho' : OpR X (compareOp op') (rI0 fun i j => .bl (g i j))) (ha : QE wd X a (ofE A)) (hb : QE wd X b (ofE B)) (hc : QE wd X c (ofE C)) (hm : lastMarks [op, op'] [b, c] = false := by with_unfolding_all rfl) :
    QT wd X (.Compare a [op, op'] [b, c] pos) (ofT (fTst (fChain f g A B C))) := (qt_chain ho ho' ha hb hc hm).imp fun sd μ x k h => by
  have h2 : wTst (ofE (fChain f g A B C)) sd μ x k := fTst_le h
  exact fChain_le h2
/-! f() -/
theorem fe_call0 {k : Nat} {f : Addr} {F : FF} (O : OkF X.prog X.w X.K X.mg X.base wd.cl k f [] (ofF F)) (hr : Room k X.A) (hm : X.mg x = some (.ref f)) (tk : TakesE wd X) (hg : Gl X x := by rfl) (hdb : (x == ("__debug__" : Str)) = false := by decide) :
    QE wd X (.Call (.Name x p) [] [] pos) (ofE (fCall 0 F fNil)) := by
  obtain ⟨fd, F', b, kp⟩ := O
  exact (qe_call0 (ps := []) F' hr hm kp b tk hg hdb).imp fun sd μ x k h => fCall_le h
end
end
end TL
/-! TL: a pair behind a pair -/
namespace TL
open PySem PySem.Spec L2
open Classical
noncomputable section
def dP (p : Int × Int) : PyData := .tuple [.int p.1, .int p.2]
theorem dataLt_dP (p q : Int × Int) : PySem.W.dataLt (dP p) (dP q) = ltPr p q := by
  obtain ⟨a, b⟩ := p
  obtain ⟨c, d⟩ := q
  simp [PySem.W.dataLt, dP, PySem.W.keyToks, PySem.W.keyToksAll, PyProof.Rows.lexLt, PyProof.Rows.itemLt, ltPr]
  rw [Bool.eq_iff_iff]
  simp
  omega
section
variable {wd : Wd} {X : Cx} {a b : Expr} {pos : Pos} {A B : FE}
def rGtP (K : PySem.W.Frag) : R2 := fun x y H Q => ∃ p q : Int × Int, Dp K H x (dP p) ∧ Dp K H y (dP q) ∧ Q (.bl (ltPr q p)) H
theorem op_gtP (hu : X.A.units + 64 < cLine) : OpR X (compareOp .Gt) (rGtP X.K) := by
  intro pins s σ H x y v u Q I rx ry h
  obtain ⟨d, e, hd, he, q⟩ := h
  obtain ⟨as, r1⟩ := Dp.reads I _ x v hd rx
  obtain ⟨bs, r2⟩ := Dp.reads I _ y u he ry
  refine PySem.W.gt_data r1 r2 rfl (by unfold dP; exact fun h => by cases h) ?_ ⟨.bl _, H, I, rfl, ?_⟩
  · have : (dP d).depth ≤ 64 := by simp [dP, PyData.depth, PyData.depthAll]
    omega
  · rw [dataLt_dP]; exact q
def oGtP : OP := fun x y k => match x, y with
  | .tup [.int a, .int b], .tup [.int c, .int d] => k (.d (.bl (ltPr (c, d) (a, b))))
  | _, _ => False
theorem ot_gtP (hu : X.A.units + 64 < cLine) : OpT wd X (compareOp .Gt) oGtP := by
  refine ⟨_, op_gtP hu, fun v1 v2 d1 d2 G H μ k Q r h1 h2 ho hk => ?_⟩
  unfold oGtP at ho
  split at ho
  · rename_i a b c d
    exact ⟨(a, b), (c, d), Den.dp _ _ _ (h1.den r.sub) rfl, Den.dp _ _ _ (h2.den r.sub) rfl, hk _ ho _ G H (.refl r) (.bl _)⟩
  · exact ho.elim
def foGtP : FOp := fun x y => match x, y with
  | .tup [.int a, .int b], .tup [.int c, .int d] => some (.d (.bl (ltPr (c, d) (a, b))))
  | _, _ => none
theorem of_gtP : OpF oGtP foGtP := fun a b r k e q => by
  unfold foGtP at e
  split at e
  · cases e; exact q
  · cases e
@[simp] theorem foGtP_ap {a b c d : Int} : foGtP (.tup [.int a, .int b]) (.tup [.int c, .int d]) = some (.d (.bl (ltPr (c, d) (a, b)))) := rfl
end
end
end TL
/-! TL: {k: v} of ints -/
namespace TL
open PySem PySem.Spec L2
open Classical
noncomputable section
section
variable {wd : Wd} {X : Cx} {a b : Expr} {pos : Pos} {wa wb : WE} {A B : FE}
def wDisp1 (wa wb : WE) : WE := fun sd μ x k => wa sd μ x fun r1 μ1 => match r1 with
  | .d (.int i) => wb sd μ1 x fun r2 μ2 => match r2 with
    | .d (.int j) => k (.new (.dic false [(.num i, .int j)])) μ2
    | _ => False
  | _ => False
/-- a dict that an expression has made, known with its epoch -/
theorem pe_epoch {e : Expr} {t : TE} (h : PE X e t) : PE X e fun σ H Q => t σ H fun v H1 => ∃ p kvs, v = .ref p ∧ H1 p = some (.dK kvs) ∧ ∀ ep, Q v (upd H1 p (.ext (DicK X.prog X.w p ep kvs))) := by
  refine ⟨fun pins s σ H Q I q => thn (h.run pins s σ H _ I q) fun u s1 ⟨v, H1, I1, rv, p, kvs, ev, hp, q1⟩ => ?_⟩
  subst ev
  obtain ⟨z, hd, vs, rel, dd⟩ := dk_of I1.hok hp
  obtain ⟨ep, ok⟩ := dicK_new (P := X.prog) (w := X.w) z hd rel dd
  obtain ⟨q0, es0, ep0, hq0, _⟩ := dd
  have I2 : Inv X pins σ (upd H1 p (.ext (DicK X.prog X.w p ep kvs))) s1 := d_write (t' := s1.toks) I1 (by rw [hp]; exact True.intro) ⟨rfl, fun _ _ => rfl⟩ ⟨q0, hq0⟩ (ok _)
  exact ⟨.ref p, _, I2, rv, q1 ep⟩
theorem qe_disp1 (cp : CurP wd X) (ha : QE wd X a wa) (hb : QE wd X b wb) : QE wd X (.Dict [some a] [b] pos) (wDisp1 wa wb) := by
  refine ⟨PE.imp (pe_epoch (pe_disp (pps_cons ha.pe hb.pe pps_nil) rfl rfl (by simp) (by simp))) fun σ H Q ⟨G0, H0, μ0, G, μ, sd, x, k, hx, hs, hw, hk, hxo⟩ p hp => ?_⟩
  have f0 := hx.rep.free hp
  have e0 : Ext X.K wd.cl G H μ G (upd H p (.dK [])) μ := Ext.loose hx.rep hp
  refine ⟨G0, H0, μ0, G, μ, sd, x, _, hx.trans e0, hs.step e0, hw, fun r1 μ1 q v1 G1 H1 e1 rel1 => ?_, hxo.step e0⟩
  cases r1 with
  | «at» i => exact q.elim
  | new ds => exact q.elim
  | d y =>
  cases y <;> try exact q.elim
  rename_i i
  cases rel1
  obtain ⟨a1, a2, a3⟩ := e1.fr p _ upd_same f0.1 f0.2
  refine ⟨G0, H0, μ0, G1, μ1, sd, x, _, (hx.trans e0).trans e1, (hs.step e0).step e1, q, fun r2 μ2 q2 v2 G2 H2 e2 rel2 => ?_, (hxo.step e0).step e1⟩
  cases r2 with
  | «at» i => exact q2.elim
  | new ds => exact q2.elim
  | d y =>
  cases y <;> try exact q2.elim
  rename_i j
  cases rel2
  obtain ⟨b1, b2, b3⟩ := e2.fr p _ a1 a2 a3
  refine ⟨b1, [(Sum.inl i, V.int j)], rfl, by simp, p, _, rfl, upd_same, fun ep => ?_⟩
  have e3 : Ext X.K wd.cl G H μ G2 (upd H2 p (.dK (mergeK [] [(Sum.inl i, V.int j)]))) μ2 := Ext.write ((e0.trans e1).trans e2) hp b1 b2 b3
  have e4 : Ext X.K wd.cl G H μ G2 (upd (upd H2 p (.dK (mergeK [] [(Sum.inl i, V.int j)]))) p (.ext (DicK X.prog X.w p ep (mergeK [] [(Sum.inl i, V.int j)])))) μ2 := Ext.write e3 hp upd_same b2 b3
  refine hk _ _ q2 _ G2 _ e4 ⟨p, _, rfl, hp, upd_same, ⟨ep, _, by rw [cp.p, cp.w], ?_⟩, b2, b3⟩
  exact DenK.cons (Den.int j) DenK.nil
def fDisp1 (A B : FE) : FE := fun sd μ => (A sd μ).bind fun r1 μ1 => (Out.of (iOf r1) μ1).bind fun i μ1 => (B sd μ1).bind fun r2 μ2 => (Out.of (iOf r2) μ2).bind fun j μ2 => .ok (.new (.dic false [(.num i, .int j)])) μ2
theorem fDisp1_le {sd : SD} {μ : Mu} {x : XT} {k : R → Mu → Prop} (h : ofE (fDisp1 A B) sd μ x k) : wDisp1 (ofE A) (ofE B) sd μ x k :=
  sat_mono (sat_bind h) fun r1 μ1 h => by
    obtain ⟨i, e1, h⟩ := sat_of (sat_bind h)
    cases iOf_eq e1
    exact sat_mono (sat_bind h) fun r2 μ2 h => by
      obtain ⟨j, e2, h⟩ := sat_of (sat_bind h)
      cases iOf_eq e2
      exact h
theorem fe_disp1 (cp : CurP wd X) (ha : QE wd X a (ofE A)) (hb : QE wd X b (ofE B)) : QE wd X (.Dict [some a] [b] pos) (ofE (fDisp1 A B)) := (qe_disp1 cp ha hb).imp fun sd μ x k h => fDisp1_le h
@[simp] theorem fDisp1_ap {sd : SD} {μ : Mu} : fDisp1 A B sd μ = (A sd μ).bind fun r1 μ1 => (Out.of (iOf r1) μ1).bind fun i μ1 => (B sd μ1).bind fun r2 μ2 => (Out.of (iOf r2) μ2).bind fun j μ2 => .ok (.new (.dic false [(.num i, .int j)])) μ2 := rfl
end
end
end TL
/-! TL: l.index(i) of ints -/
namespace TL
open PySem PySem.Spec L2
open Classical
noncomputable section
section
variable {wd : Wd} {X : Cx} {o e : Expr} {apos cpos : Pos} {wo wi : WE} {A B : FE}
theorem denL_ints {K : PySem.W.Frag} {cl : Cl} {G : Gh} : ∀ {ns : List Int} {vs : List V}, DenL K cl G vs (ns.map D.int) → vs = ns.map V.int
  | [], _, h => by cases h; rfl
  | n :: ns, _, h => by
    cases h with
    | cons h1 h2 =>
      cases h1
      rw [denL_ints h2]
      rfl
theorem idx_no {i : Int} : ∀ {ns : List Int} {m : Nat} {n : Int}, m < ns.idxOf i → ns[m]? = some n → n ≠ i
  | [], m, n, h, _ => by simp at h
  | a :: r, m, n, h, e => by
    rw [List.idxOf_cons] at h
    by_cases q : a = i
    · subst q; simp at h
    · have q' : (a == i) = false := by simpa using q
      rw [q'] at h
      cases m with
      | zero => simp at e; subst e; exact q
      | succ m =>
        simp at h e
        exact idx_no h e
def wIdx (wo wi : WE) : WE := fun sd μ x k => wo sd μ x fun r1 μ1 => ∃ ns : List Int, vw μ1 sd r1 = .lst (ns.map D.int) ∧ wi sd μ1 x fun r2 μ2 => ∃ i : Int, r2 = .d (.int i) ∧ vw μ2 sd r1 = .lst (ns.map D.int) ∧ i ∈ ns ∧ k (.d (.int (ns.idxOf i : Nat))) μ2
theorem qe_idx (ho : QE wd X o wo) (he : QE wd X e wi) (hst : starEach [e] X.env = (false, eval e X.env) :: starEach [] X.env := by rfl)
    (hbase : attributeBase o "index" X.env (eval o X.env) = eval o X.env := by rfl)
    (hfew : ((backTo cpos (starEach [e] X.env)).all (fun x => !x.1) && (backToKw cpos (keywordEach [] X.env)).all (fun x => x.1.isSome)
      && decide ([e].length + ([] : List Keyword).length + (if ([] : List Keyword).isEmpty then 0 else 1) < 30)) = true := by rfl)
    (hline : (apos.endLine == cpos.line) = true := by rfl) (hplain : (backTo cpos (starEach [] X.env)).any (·.1) = false := by rfl) :
    QE wd X (.Call (.Attribute o "index" apos) [e] [] cpos) (wIdx wo wi) := by
  refine ⟨PE.imp (pe_bm PySem.F.plainAttrs_list PySem.F.slot_list_index PySem.F.type_list_index mt_index ho.pe (pa_cons he.pe pa_nil hst) hbase hfew hline hst hplain) fun σ H Q ⟨G0, H0, μ0, G, μ, sd, x, k, hx, hs, hw, hk, hxo⟩ => ?_⟩
  refine ⟨G0, H0, μ0, G, μ, sd, x, _, hx, hs, hw, fun r1 μ1 q1 v1 G1 H1 e1 rel1 => ?_, hxo⟩
  obtain ⟨G1', e1', s1, hold1⟩ := hold hs e1 rel1
  obtain ⟨ns, e0, q1⟩ := q1
  have d1 := hold1 _ _ _ (.refl e1'.rep)
  rw [e0] at d1
  obtain ⟨a, vs, rfl, sq, _⟩ := d1
  refine ⟨.inl ⟨rfl, vs, sq⟩, ?_⟩
  refine ⟨G0, H0, μ0, G1', μ1, sd, x, _, hx.trans e1', hs.step e1', q1, fun r2 μ2 q2 v2 G2 H2 e2 rel2 => ?_, hxo.step e1'⟩
  obtain ⟨i, rfl, e3, hi, q⟩ := q2
  cases rel2
  have d2 := hold1 _ _ _ e2
  rw [e3] at d2
  obtain ⟨a', vs', e4, sq', dl⟩ := d2
  cases e4
  have ev := denL_ints dl
  subst ev
  refine ⟨a, ns.map V.int, .int i, ns.idxOf i, .int i, rfl, rfl, sq', rfl, ?_, ?_, by simp [eqV], ?_, hk _ _ q (.int _) G2 H2 (e1'.trans e2) (.int _)⟩
  · rw [List.all_eq_true]
    intro v hv
    obtain ⟨n, _, rfl⟩ := List.mem_map.mp hv
    rfl
  · have hlt := List.idxOf_lt_length_of_mem hi
    rw [List.getElem?_map, List.getElem?_eq_getElem hlt, List.getElem_idxOf hlt]
    rfl
  · intro m z hm hz
    rw [List.getElem?_map] at hz
    obtain ⟨n, hn, rfl⟩ := Option.map_eq_some_iff.mp hz
    have := idx_no hm hn
    simpa [eqV] using this
def lsI (d : D) : Option (List Int) := match d with
  | .lst xs => dInts xs
  | _ => none
theorem lsI_eq {d : D} {ns : List Int} (h : lsI d = some ns) : d = .lst (ns.map D.int) := by
  unfold lsI at h
  split at h
  · rw [dInts_eq h]
  · cases h
@[simp] theorem lsI_lst {ns : List Int} : lsI (.lst (ns.map D.int)) = some ns := by simp [lsI]
def fIdx (A B : FE) : FE := fun sd μ => (A sd μ).bind fun r1 μ1 => (Out.of (lsI (vw μ1 sd r1)) μ1).bind fun ns μ1 => (B sd μ1).bind fun r2 μ2 => (Out.of (iOf r2) μ2).bind fun i μ2 => (Out.of (lsI (vw μ2 sd r1)) μ2).bind fun ms μ2 => if ms = ns ∧ i ∈ ns then .ok (.d (.int (ns.idxOf i : Nat))) μ2 else .no
theorem fIdx_le {sd : SD} {μ : Mu} {x : XT} {k : R → Mu → Prop} (h : ofE (fIdx A B) sd μ x k) : wIdx (ofE A) (ofE B) sd μ x k :=
  sat_mono (sat_bind h) fun r1 μ1 h => by
    obtain ⟨ns, e1, h⟩ := sat_of (sat_bind h)
    refine ⟨ns, lsI_eq e1, sat_mono (sat_bind h) fun r2 μ2 h => ?_⟩
    obtain ⟨i, e2, h⟩ := sat_of (sat_bind h)
    obtain ⟨ms, e3, h⟩ := sat_of (sat_bind h)
    obtain ⟨⟨e4, e5⟩, h⟩ := sat_ite h
    subst e4
    exact ⟨i, iOf_eq e2, lsI_eq e3, e5, h⟩
theorem fe_idx (ho : QE wd X o (ofE A)) (he : QE wd X e (ofE B)) (hst : starEach [e] X.env = (false, eval e X.env) :: starEach [] X.env := by rfl)
    (hbase : attributeBase o "index" X.env (eval o X.env) = eval o X.env := by rfl)
    (hfew : ((backTo cpos (starEach [e] X.env)).all (fun x => !x.1) && (backToKw cpos (keywordEach [] X.env)).all (fun x => x.1.isSome)
      && decide ([e].length + ([] : List Keyword).length + (if ([] : List Keyword).isEmpty then 0 else 1) < 30)) = true := by rfl)
    (hline : (apos.endLine == cpos.line) = true := by rfl) (hplain : (backTo cpos (starEach [] X.env)).any (·.1) = false := by rfl) :
    QE wd X (.Call (.Attribute o "index" apos) [e] [] cpos) (ofE (fIdx A B)) := (qe_idx ho he hst hbase hfew hline hplain).imp fun sd μ x k h => fIdx_le h
@[simp] theorem fIdx_ap {sd : SD} {μ : Mu} : fIdx A B sd μ = (A sd μ).bind fun r1 μ1 => (Out.of (lsI (vw μ1 sd r1)) μ1).bind fun ns μ1 => (B sd μ1).bind fun r2 μ2 => (Out.of (iOf r2) μ2).bind fun i μ2 => (Out.of (lsI (vw μ2 sd r1)) μ2).bind fun ms μ2 => if ms = ns ∧ i ∈ ns then .ok (.d (.int (ns.idxOf i : Nat))) μ2 else .no := rfl
end
end
end TL
/-! TL: list(range(n)) -/
namespace TL
open PySem PySem.Spec L2
open Classical
noncomputable section
section
variable {wd : Wd} {X : Cx} {a : Expr} {p p2 pos pos2 : Pos} {wa : WE} {A : FE}
theorem denL_mk {K : PySem.W.Frag} {cl : Cl} {G : Gh} : ∀ (ns : List Int), DenL K cl G (ns.map V.int) (ns.map D.int)
  | [] => .nil
  | n :: ns => .cons (.int n) (denL_mk ns)
theorem denL_rg {K : PySem.W.Frag} {cl : Cl} {G : Gh} {n : Int} : DenL K cl G (rgV 0 n) (rngD 0 n.toNat) := by
  have := denL_mk (K := K) (cl := cl) (G := G) (irg 0 n.toNat)
  rw [← rngD_irg] at this
  have e : rgV 0 n = (irg 0 n.toNat).map V.int := by
    unfold rgV irg
    rw [List.map_map, Int.sub_zero]
    rfl
  rw [e]
  exact this
def wLrg (wa : WE) : WE := fun sd μ x k => wa sd μ x fun r μ1 => match r with
  | .d (.int n) => n ≤ 2 ^ 24 ∧ -(2 ^ 62) ≤ n ∧ k (.new (.lst (rngD 0 n.toNat))) μ1
  | _ => False
theorem qe_lrg (ha : QE wd X a wa) (hc : X.calm = true) (hm : X.mg "list" = none) (hmr : X.mg "range" = none) (hg : Gl X "list" := by rfl) (hgr : Gl X "range" := by rfl)
    (na : starEach [a] X.env = (false, eval a X.env) :: starEach [] X.env := by rfl)
    (na2 : starEach [.Call (.Name "range" p2) [a] [] pos2] X.env = (false, eval (.Call (.Name "range" p2) [a] [] pos2) X.env) :: starEach [] X.env := by rfl) :
    QE wd X (.Call (.Name "list" p) [.Call (.Name "range" p2) [a] [] pos2] [] pos) (wLrg wa) := by
  refine ⟨PE.imp (pe_listRg hc hg hm (prg_1 hgr hmr ha.pe na) na2) fun σ H Q ⟨G0, H0, μ0, G, μ, sd, x, k, hx, hs, hw, hk, hxo⟩ => ?_⟩
  refine ⟨G0, H0, μ0, G, μ, sd, x, _, hx, hs, hw, fun r μ1 q v G1 H1 e1 rel => ?_, hxo⟩
  cases r with
  | «at» i => exact q.elim
  | new ds => exact q.elim
  | d y =>
  cases y <;> try exact q.elim
  rename_i n
  cases rel
  obtain ⟨b1, b2, q⟩ := q
  refine ⟨n, rfl, ⟨by omega, by omega, by omega, by omega, by omega⟩, fun p hp => ?_⟩
  have f0 := e1.rep.free hp
  exact hk _ _ q _ G1 _ (e1.trans (Ext.loose e1.rep hp)) ⟨p, _, rfl, e1.dom p hp, upd_same, (denL_rg : DenL X.K wd.cl G1 (rgV 0 n) (rngD 0 n.toNat)), f0.1, f0.2⟩
def Lr1 (n : Int) : Prop := n ≤ 2 ^ 24 ∧ -(2 ^ 62) ≤ n
theorem lr1_ok {n : Int} (h : n ≤ 16777216 ∧ -1000000000000 < n) : Lr1 n := ⟨by omega, by omega⟩
theorem lr1_nat {n : Nat} (h : n ≤ 16777216) : Lr1 (n : Int) := lr1_ok (by omega)
def fLrg (A : FE) : FE := fun sd μ => (A sd μ).bind fun r μ1 => (Out.of (iOf r) μ1).bind fun n μ1 => if Lr1 n then .ok (.new (.lst (rngD 0 n.toNat))) μ1 else .no
theorem fLrg_le {sd : SD} {μ : Mu} {x : XT} {k : R → Mu → Prop} (h : ofE (fLrg A) sd μ x k) : wLrg (ofE A) sd μ x k :=
  sat_mono (sat_bind h) fun r1 μ1 h => by
    obtain ⟨n, e1, h⟩ := sat_of (sat_bind h)
    cases iOf_eq e1
    obtain ⟨⟨b1, b2⟩, h⟩ := sat_ite h
    exact ⟨b1, b2, h⟩
theorem fe_lrg (ha : QE wd X a (ofE A)) (hc : X.calm = true) (hm : X.mg "list" = none) (hmr : X.mg "range" = none) (hg : Gl X "list" := by rfl) (hgr : Gl X "range" := by rfl)
    (na : starEach [a] X.env = (false, eval a X.env) :: starEach [] X.env := by rfl)
    (na2 : starEach [.Call (.Name "range" p2) [a] [] pos2] X.env = (false, eval (.Call (.Name "range" p2) [a] [] pos2) X.env) :: starEach [] X.env := by rfl) :
    QE wd X (.Call (.Name "list" p) [.Call (.Name "range" p2) [a] [] pos2] [] pos) (ofE (fLrg A)) := (qe_lrg ha hc hm hmr hg hgr na na2).imp fun sd μ x k h => fLrg_le h
@[simp] theorem fLrg_ap {sd : SD} {μ : Mu} : fLrg A sd μ = (A sd μ).bind fun r μ1 => (Out.of (iOf r) μ1).bind fun n μ1 => if Lr1 n then .ok (.new (.lst (rngD 0 n.toNat))) μ1 else .no := rfl
end
end
end TL
/-! TL: an exception with two values -/
namespace TL
open PySem PySem.Spec L2
open Classical
noncomputable section
section
variable {X : Cx} {wd : Wd} {e e' : Expr} {w w' : WE} {A B : FE} {C : Addr} {x : Str} {fd : FuncData} {k : Nat}
def spX2 (K : PySem.W.Frag) (C : Addr) (f g : Str) : Sp := fun vs H Q _ => ∃ (a : Addr) (v u : V), vs = [.ref a, v, u] ∧ H a = some (exo a C none) ∧ ∀ dx, H dx = none → dx ≠ a → Q .non (upd (upd (upd H dx (exd dx [(f, v)])) a (exo a C (some dx))) dx (exd dx [(g, u), (f, v)]))
def wRaise2 (c f g : Nat) (w w' : WE) : WS := fun E sd μ => w sd μ (E.x sd) fun r μ1 => withT r fun y => w' sd μ1 (E.x sd) fun r2 μ2 => withT r2 fun z => E.ex c [(g, z), (f, y)] sd μ2
theorem upd_del2 {H : Hp} {a dx : Addr} {o1 o2 u1 u2 u3 : HO} (ha : H a = none) (hne : dx ≠ a) : upd (L2.del (upd (upd (upd (upd H a o1) dx u1) a o2) dx u3) a) dx u2 = upd H dx u2 := by
  funext b
  by_cases e1 : b = dx
  · subst e1; rw [upd_same, upd_same]
  · rw [upd_ne e1, upd_ne e1]
    by_cases e2 : b = a
    · subst e2; rw [del_same, ha]
    · rw [del_ne e2, upd_ne e1, upd_ne e2, upd_ne e1, upd_ne e2]
theorem qs_raise2 {c f g : Nat} {fI : Addr} {n m : Str} {p pos pos2 : Pos} {psI : List Str} (hc : wd.cl c = some C) (T : OexC X.K C) (iC : PySem.W.findIn X.K (.ref C) "__init__" = some (some (.ref fI))) (tI : PySem.W.typeIn X.K (.ref fI) = some (.type "function"))
    (F1 : FnOk X.prog X.w X.K X.mg X.base (L2.CX X.prog X.w) k fI fd psI (spX2 X.K C n m)) (hr : Room (k + 1) X.A) (hb : Binds X.K fd psI []) (hm : X.mg x = some (.ref C)) (hcalm : X.calm = true) (tk : Takes X wd.W) (he : QE wd X e w) (he' : QE wd X e' w') (hf : f < 32 := by decide) (hf' : g < 32 := by decide) (hn : fnm f = n := by rfl) (hn' : fnm g = m := by rfl)
    (hg : Gl X x := by rfl) (hdb : (x == ("__debug__" : Str)) = false := by decide) (hst : starEach [e, e'] X.env = (false, eval e X.env) :: starEach [e'] X.env := by rfl) (hst' : starEach [e'] X.env = (false, eval e' X.env) :: starEach [] X.env := by rfl) (hpl : (backTo pos (starEach [e'] X.env)).any (·.1) = false := by rfl) :
    QS wd X (.Raise (some (.Call (.Name x p) [e, e'] [] pos)) none pos2) (wRaise2 c f g w w') := by
  subst hn hn'
  refine ⟨PS.imp (ps_raise hcalm tk (pmk_oex (dvs := []) T iC tI F1 hr hb .nil passL hg hm (pa_cons he.pe (pa_cons he'.pe pa_nil hst') hst) hdb hst hpl)) fun D σ H ⟨G0, H0, μ0, G, μ, sd, E, hx, hs, hw, hE⟩ => ?_⟩
  refine ⟨G0, H0, μ0, G, μ, sd, _, _, hx, hs, hw, fun r μ1 q v G1 H1 e1 rel => ?_, hE.xok hx hs⟩
  obtain ⟨y, hy, q⟩ := withT_tree q
  obtain ⟨G2, e2, s2, den⟩ := keep e1 rel hy
  refine ⟨G0, H0, μ0, G2, μ1, sd, _, _, hx.trans e2, hs.step e2, q, fun r' μ2 q' v' G3 H3 e3 rel' => ?_, hE.xok (hx.trans e2) (hs.step e2)⟩
  obtain ⟨z, hz, q'⟩ := withT_tree q'
  obtain ⟨G4, e4, s4, den'⟩ := keep e3 rel' hz
  refine ⟨by show 2 ≤ 1000; decide, fun a ha => ⟨a, v, v', rfl, upd_same, fun dx hdx hne => ⟨rfl, dx, _, ?_, upd_same, by rw [upd_ne hne] at hdx; exact hdx, ?_⟩⟩⟩
  · rw [upd_ne (Ne.symm hne), upd_same]
  · rw [upd_ne hne] at hdx
    rw [upd_del2 ha hne]
    have e5 := Ext.loose (o := .xd [(fnm g, v'), (fnm f, v)]) e4.rep hdx
    obtain ⟨r1, r2⟩ := e4.rep.free hdx
    exact hE.ex c [(g, z), (f, y)] sd μ2 q' C (some dx) σ G4 _ hc (((hx.trans e2).trans e4).trans e5) (((hs.step e2).step e4).step e5) (.inr ⟨dx, _, rfl, upd_same, .cons hf' den' (.cons hf (Den.mono e4.g _ _ den) .nil), r1, r2⟩)
def sRaise2 (c f g : Nat) (A B : FE) : FS := fun sd μ => thenS ((A sd μ).bind fun r μ' => Out.of r.tree μ') sd fun y μ1 => thenS ((B sd μ1).bind fun r μ' => Out.of r.tree μ') sd fun z μ2 => .ex c [(g, z), (f, y)] sd μ2
@[simp] theorem sRaise2_ap {c f g : Nat} {sd : SD} {μ : Mu} : sRaise2 c f g A B sd μ = thenS ((A sd μ).bind fun r μ' => Out.of r.tree μ') sd fun y μ1 => thenS ((B sd μ1).bind fun r μ' => Out.of r.tree μ') sd fun z μ2 => .ex c [(g, z), (f, y)] sd μ2 := rfl
theorem sRaise2_le {c f g : Nat} {E : TEn} {sd : SD} {μ : Mu} (h : ofS (sRaise2 c f g A B) E sd μ) : wRaise2 c f g (ofE A) (ofE B) E sd μ := sat_mono (sat_bind (sat_thenS h)) fun r μ' h => by
  obtain ⟨y, e, h⟩ := sat_of h
  refine tree_with e ?_
  exact sat_mono (sat_bind (sat_thenS h)) fun r μ' h => let ⟨z, e2, h⟩ := sat_of h; tree_with e2 h
theorem fs_raise2O {c f g k : Nat} {fI C : Addr} {n m x : Str} {p pos pos2 : Pos} {psI : List Str} (hc : wd.cl c = some C) (T : OexC X.K C) (iC : PySem.W.findIn X.K (.ref C) "__init__" = some (some (.ref fI))) (tI : PySem.W.typeIn X.K (.ref fI) = some (.type "function"))
    (O : OkX X.prog X.w X.K X.mg X.base k fI psI (spX2 X.K C n m)) (hr : Room (k + 1) X.A) (hm : X.mg x = some (.ref C)) (hcalm : X.calm = true) (tk : Takes X wd.W) (he : QE wd X e (ofE A)) (he' : QE wd X e' (ofE B)) (hf : f < 32 := by decide) (hf' : g < 32 := by decide) (hn : fnm f = n := by rfl) (hn' : fnm g = m := by rfl)
    (hg : Gl X x := by rfl) (hdb : (x == ("__debug__" : Str)) = false := by decide) (hst : starEach [e, e'] X.env = (false, eval e X.env) :: starEach [e'] X.env := by rfl) (hst' : starEach [e'] X.env = (false, eval e' X.env) :: starEach [] X.env := by rfl) (hpl : (backTo pos (starEach [e'] X.env)).any (·.1) = false := by rfl) :
    QS wd X (.Raise (some (.Call (.Name x p) [e, e'] [] pos)) none pos2) (ofS (sRaise2 c f g A B)) := by
  obtain ⟨fd, F, b, kp⟩ := O
  exact (qs_raise2 hc T iC tI F hr b hm hcalm tk he he' hf hf' hn hn' hg hdb hst hst' hpl).imp fun E sd μ h => sRaise2_le h
end
end
end TL
/-! TL: a def with defaults, all of whose parameters are written -/
namespace TL
open PySem PySem.Spec L2
open Classical
noncomputable section
abbrev FunE (K : PySem.W.Frag) (x qual : Str) (st : Stmt) (f : Addr) (fd : FuncData) (dvs : List V) : Prop := FunD K x qual (defArgs st) (defBody st) (defScope st) dvs [] f fd
section
variable {P : Program} {w : World} {K : PySem.W.Frag} {mg : Str → Option Value} {base : Heap} {cl : Cl} {x qual : Str} {st : Stmt} {f : Addr} {fd : FuncData} {N ps : List Str} {k : Nat} {dvs : List V}
theorem fnTE {ws : WS} (F : FunE K x qual st f fd dvs) (S : FnScope N ps (defScope st))
    (hbody : ∀ (cdv : Value) (A : Around) (outer : List Env) (s : Shared) (H : Hp) (E : XK), Room k (A.deeper (PyProof.Rows.envOfC qual (defScope st) s.heap.objs.size f cdv)) →
      QSs ⟨cl, fun cls d _ H => E cls d H, none, fp0⟩ (cxOf (L2.CX P w) P w K mg base N qual (defScope st) f cdv A outer s H E) (defBody st) ws) :
    FnOk P w K mg base (L2.CX P w) (k + 1) f fd ps (spT K cl ps.length (run N.length ws)) := by
  refine F.ok S (fun vs H Q E ⟨G, μ, ds, x, k, hn, hr, hd, _⟩ => by rw [hd.len, hn]) fun cdv A outer s H vs Q E hr h => ⟨_, (hbody cdv A outer s H E hr).pss, ?_⟩
  obtain ⟨G, μ, ds, x, k, hn, rp, hd, hw, hk, hx⟩ := h
  refine ⟨G, H, μ, G, μ, startD N.length ds, _, .refl rp, slots_start hd, hw, ?_⟩
  exact ⟨fun sd μ' q σ G' H' e hs => hk _ _ q .non G' H' e Den.non, fun sd μ' q => q.elim, fun sd μ' q => q.elim, fun r μ' q v G' H' e rel => hk r μ' q v G' H' e rel, fun c fs sd μ' q C d σ G' H' hc e hs xd => hx c fs μ' q C d G' H' hc e xd⟩
theorem fnE {S : FS} (F : FunE K x qual st f fd dvs) (Sc : FnScope N ps (defScope st))
    (hbody : ∀ (cdv : Value) (A : Around) (outer : List Env) (s : Shared) (H : Hp) (E : XK), Room k (A.deeper (PyProof.Rows.envOfC qual (defScope st) s.heap.objs.size f cdv)) →
      QSs ⟨cl, fun cls d _ H => E cls d H, none, fp0⟩ (cxOf (L2.CX P w) P w K mg base N qual (defScope st) f cdv A outer s H E) (defBody st) (ofS S)) :
    FnOk P w K mg base (L2.CX P w) (k + 1) f fd ps (spT K cl ps.length (ofF (runF N.length S))) :=
  (fnTE F Sc hbody).imp fun vs H Q E h => spT_imp (fun ds μ x k h => runF_le h) h
theorem funE_mk {oc : Value} {od an : Option Addr} {osl tsl : Array (Option Value)} {kV doc pm cdv ct tc : Value} {td : Option Addr} {T : Addr} {its : List Value} {n : Nat}
    (l : K.lookup f = some ⟨oc, od, .func (PySem.W.fnOf x qual (defArgs st) (defBody st) (defScope st) (.ref T) kV doc pm an cdv ct), osl⟩)
    (t : K.lookup T = some ⟨tc, td, .seq its.toArray n, tsl⟩) (hv : Vals dvs its) (hd : dvs ≠ [])
    (c : PySem.W.codeIn K cdv qual = true) (k : PySem.W.keepIn K (.ref f) = true) : FunE K x qual st f (PySem.W.fnOf x qual (defArgs st) (defBody st) (defScope st) (.ref T) kV doc pm an cdv ct) dvs :=
  ⟨⟨oc, od, .ref T, kV, doc, pm, an, cdv, ct, osl, rfl, l, c, .inr ⟨hd, T, _, its, n, rfl, t, rfl, hv⟩, .inl rfl⟩, k⟩
/-- every parameter is written -/
theorem funE_binds (F : FunE K x qual st f fd dvs) (hd : dvs ≠ [])
    (h : ∀ (T : Addr) (kV doc pm : Value) (an : Option Addr) (cdv ct : Value) (us its : List Value), us.length = ps.length → its.length = dvs.length →
      ∃ k, bindArgs (PySem.W.fnOf x qual (defArgs st) (defBody st) (defScope st) (.ref T) kV doc pm an cdv ct) ⟨us, []⟩ = seqItems? (.ref T) >>= k ∧ k (some its.toArray) = pure (ps.zip us)) : Binds K fd ps [] := by
  obtain ⟨ds, hv, b⟩ := F.binds1 (ps := ps) ps.length dvs.length hd (by omega) (fun T kV doc pm an cdv ct us its h1 h2 => by
    obtain ⟨k, e1, e2⟩ := h T kV doc pm an cdv ct us its h1 h2
    refine ⟨k, e1, ?_⟩
    rw [e2, List.drop_of_length_le (by omega), List.append_nil])
  rw [List.drop_length] at hv
  cases hv
  exact b
theorem vals1 {v : V} {u : Value} (h : RelV v u) : Vals [v] [u] := .cons h .nil
end
end
end TL
/-! TL: calls that leave a default out -/
namespace TL
open PySem PySem.Spec L2
open Classical
noncomputable section
/-- the def at f keeps F, its last parameters filled up by dvs -/
def OkFD (P : Program) (w : World) (K : PySem.W.Frag) (mg : Str → Option Value) (base : Heap) (cl : Cl) (k : Nat) (f : Addr) (ps : List Str) (dvs : List V) (F : TSp) : Prop :=
  ∃ fd dsv, FnOk P w K mg base (L2.CX P w) k f fd ps (spT K cl ps.length F) ∧ Vals dvs dsv ∧ Binds K fd ps dsv ∧ PySem.W.keepIn K (.ref f) = true
section
variable {P : Program} {w : World} {K : PySem.W.Frag} {mg : Str → Option Value} {base : Heap} {cl : Cl}
theorem OkFD.mono {j k : Nat} {f : Addr} {ps : List Str} {dvs : List V} {F : TSp} (h : OkFD P w K mg base cl j f ps dvs F) (hk : j ≤ k) : OkFD P w K mg base cl k f ps dvs F :=
  let ⟨fd, dsv, a, v, b, c⟩ := h
  ⟨fd, dsv, a.mono hk, v, b, c⟩
def MethOD (P : Program) (w : World) (K : PySem.W.Frag) (mg : Str → Option Value) (base : Heap) (cl : Cl) (cs : List Nat) (m : Str) (n k : Nat) (dvs : List V) (Fs : Nat → TSp) : Prop :=
  ∀ c, cs.elem c = true → ∀ C, cl c = some C → Cls K C ∧ ∃ f ps, Meth K C m f ∧ ps.length = n + 1 ∧ OkFD P w K mg base cl k f ps dvs (Fs c)
theorem methOD_nil {m : Str} {n k : Nat} {dvs : List V} {Fs : Nat → TSp} : MethOD P w K mg base cl [] m n k dvs Fs := fun c h => by simp at h
theorem methOD_cons {m : Str} {n k c : Nat} {cs : List Nat} {dvs : List V} {Fs : Nat → TSp} (h : ∀ C, cl c = some C → Cls K C ∧ ∃ f ps, Meth K C m f ∧ ps.length = n + 1 ∧ OkFD P w K mg base cl k f ps dvs (Fs c)) (t : MethOD P w K mg base cl cs m n k dvs Fs) : MethOD P w K mg base cl (c :: cs) m n k dvs Fs := fun c' hc C e => by
  by_cases q : c' = c
  · subst q; exact h C e
  · refine t c' ?_ C e
    have q' : (c' == c) = false := by simpa using q
    rw [List.elem_cons, q'] at hc
    exact hc
end
section
variable {X : Cx} {wd : Wd} {e o : Expr} {es : List Expr} {w wo : WE} {ws : WA} {pos p apos : Pos} {k n : Nat} {f C : Addr} {ps : List Str} {Fn : TSp} {x m : Str} {cs : List Nat} {Fs : Nat → TSp} {dvs : List V} {dd : List D} {O : FE} {As : FA}
def MethTD (X : Cx) (cl : Cl) (cs : List Nat) (m : Str) (n : Nat) (dvs : List V) (Fs : Nat → TSp) : Prop := ∀ c, cs.elem c = true → ∀ C, cl c = some C → Cls X.K C ∧ ∃ f fd ps k dsv, Meth X.K C m f ∧ ps.length = n + 1 ∧
  FnOk X.prog X.w X.K X.mg X.base (L2.CX X.prog X.w) k f fd ps (spT X.K cl (n + 1) (Fs c)) ∧ Room k X.A ∧ Vals dvs dsv ∧ Binds X.K fd ps dsv
theorem MethOD.at {cl : Cl} (h : MethOD X.prog X.w X.K X.mg X.base cl cs m n k dvs Fs) (hr : Room k X.A) : MethTD X cl cs m n dvs Fs := fun c hc C e => by
  obtain ⟨hC, f, ps, hm, hl, fd, dsv, F, v, b, kp⟩ := h c hc C e
  exact ⟨hC, f, fd, ps, k, dsv, hm, hl, by rw [← hl]; exact F, hr, v, b⟩
theorem qe_methD {pl : Sem Bool} {j : Nat} (hj : j + dd.length = n) (ho : QE wd X o wo) (hM : MethTD X wd.cl cs m n dvs Fs) (hdd : DDen X.K wd.cl dvs dd) (tk : TakesE wd X) (ha : QA wd X (e :: es) ws) (hnf : ∀ k < 32, fnm k ≠ m := by decide +kernel)
    (hst : starEach (e :: es) X.env = (false, eval e X.env) :: starEach es X.env := by rfl) (hpl : (backTo pos (starEach es X.env)).any (·.1) = false := by rfl)
    (ht : eval (.Call (.Attribute o m apos) (e :: es) [] pos) X.env = (do
      let ov ← eval o X.env
      standAt apos.atName
      let (f, first) ← holding [ov] (getMethod ov m pl)
      callWith pos f first (backTo pos (starEach (e :: es) X.env)) (backToKw pos (keywordEach [] X.env))) := by rfl) :
    QE wd X (.Call (.Attribute o m apos) (e :: es) [] pos) (wMeth cs j (fun c ds => Fs c (ds ++ dd)) wo ws) := by
  refine ⟨⟨fun pins s σ H Q I h => ?_⟩⟩
  obtain ⟨G0, H0, μ0, G, μ, sd, x, k, hx, hs, hw, hk, hxo⟩ := h
  refine PySem.W.methodCall_KW (pl := pl) (thn (ho.pe.run pins s σ H (fun v H1 => ∃ r μ1 G1, Ext X.K wd.cl G H μ G1 H1 μ1 ∧ RelR X.K wd.cl H G1 H1 μ1 σ sd v r ∧ _) I ⟨G0, H0, μ0, G, μ, sd, x, _, hx, hs, hw, fun r μ1 q v G1 H1 e1 rel => ⟨r, μ1, G1, e1, rel, q⟩, hxo⟩) fun u s1 hh => ?_) ht
  obtain ⟨v, H1, I1, rv, r, μ1, G1, e1, rel, q⟩ := hh
  have fin : ∀ (a C dx : Addr) (vs0 : List (Str × V)) (fs : List (Nat × D)) (c : Nat) (d0 : D), v = .ref a → H1 a = some (.ins C dx vs0) → DenF X.K wd.cl G1 vs0 fs → wd.cl c = some C → cs.elem c = true → Den X.K wd.cl G1 v d0 →
      (ws sd μ1 x fun ds μ2 => ds.length = j ∧ Fs c (d0 :: ds ++ dd) μ2 x k) →
      wpAny (model X.prog X.w) X.A (getMethod u m pl) (fun p s2 => wpAny (model X.prog X.w) X.A (callWith pos p.1 p.2 (backTo pos (starEach (e :: es) X.env)) (backToKw pos (keywordEach [] X.env))) (EP X pins σ Q) X.xe s2) X.xe s1 := by
    intro a C dx vs0 fs c d0 ev ha1 hf hc hcs hd q
    subst ev
    obtain rfl : u = Value.ref a := rv
    obtain ⟨hC, f, fd, ps, k', dsv, hm, hl, F, hr, hv, hb⟩ := hM c hcs C hc
    refine getmeth_ok I1 ha1 hC hm (hf.look0 hnf) ?_
    refine PySem.W.callWith_K (first := [.ref a]) (h₀ := X.base) I.ok.mod.kin hm.kp (thn (ha.pa.run pos pins s1 σ H1 (fun vs H2 => spT X.K wd.cl (n + 1) (Fs c) ((.ref a :: vs) ++ dvs) H2 Q (L2.WE wd.W σ)) I1 ?_) fun us s2 ⟨vs, H2, I2, r, q2⟩ => ⟨I2.kIn, ?_⟩) hst hpl
    · refine ⟨G0, H0, μ0, G1, μ1, sd, x, _, hx.trans e1, hs.step e1, q, fun ds μ2 q2 vs G2 H2 e2 hd2 => ?_, hxo.step e1⟩
      refine ⟨G2, μ2, d0 :: ds ++ dd, x, k, by rw [List.length_append, List.length_cons, q2.1]; omega, e2.rep, (DenL.cons (Den.mono e2.g _ _ hd) hd2).app (hdd _), q2.2, fun r μ' q' v G' H' e' rel => ?_, fun c fs μ' q' C d G' H' hc e' xd => ?_⟩
      · exact hk r μ' q' v G' H' ((e1.trans e2).trans e') (rel.back fun a z => (e1.trans e2).dom a z).rel
      · exact hxo c fs μ' q' C d G' H' hc ((e1.trans e2).trans e') xd
    · exact run_fnSD (us := .ref a :: us) (vs := .ref a :: vs) F hr hb hv (tk σ) I2 (.cons rfl r) q2
  cases r with
  | «at» i => exact q.elim
  | new ds => exact q.elim
  | d y =>
    cases y <;> try exact q.elim
    · rename_i c fs
      have rel' := rel
      cases rel with
      | @obj a C dx _ vs _ h1 h2 h3 => exact fin a C dx vs fs c _ rfl (e1.rep.sub _ _ h2) h3 h1 q.1 rel' q.2
    · rename_i a
      obtain ⟨c, fs, hm, hc, q⟩ := q
      have rel' := rel
      cases rel with
      | @ref a' _ hn =>
      obtain ⟨C, dx, vs, n1, ho, n2⟩ := e1.rep.ins hn hm
      exact fin a' _ _ _ fs c _ rfl ho n2 n1 hc rel' q
theorem fe_methD {Fs : Nat → FF} {pl : Sem Bool} {j : Nat} (hj : j + dd.length = n) (ho : QE wd X o (ofE O)) (hM : MethTD X wd.cl cs m n dvs (fun c => ofF (Fs c))) (hdd : DDen X.K wd.cl dvs dd) (tk : TakesE wd X) (ha : QA wd X (e :: es) (ofA As)) (hnf : ∀ k < 32, fnm k ≠ m := by decide +kernel)
    (hst : starEach (e :: es) X.env = (false, eval e X.env) :: starEach es X.env := by rfl) (hpl : (backTo pos (starEach es X.env)).any (·.1) = false := by rfl)
    (ht : eval (.Call (.Attribute o m apos) (e :: es) [] pos) X.env = (do
      let ov ← eval o X.env
      standAt apos.atName
      let (f, first) ← holding [ov] (getMethod ov m pl)
      callWith pos f first (backTo pos (starEach (e :: es) X.env)) (backToKw pos (keywordEach [] X.env))) := by rfl) :
    QE wd X (.Call (.Attribute o m apos) (e :: es) [] pos) (ofE (fMeth cs j (fun c ds => Fs c (ds ++ dd)) O As)) := (qe_methD hj ho hM hdd tk ha hnf hst hpl ht).imp fun sd μ x k h => by
  have h2 : wMeth cs j (fun c => ofF (fun ds => Fs c (ds ++ dd))) (ofE O) (ofA As) sd μ x k := fMeth_le (Fs := fun c ds => Fs c (ds ++ dd)) h
  exact h2
theorem fe_makeOD {F : FF} {c : Nat} (O : OkFD X.prog X.w X.K X.mg X.base wd.cl k f ps dvs (ofF F)) (hdd : DDen X.K wd.cl dvs dd) (hn : ps.length = n + 1) (hc : wd.cl c = some C) (M : Mk X.K C f) (hr : Room (k + 1) X.A) (hm : X.mg x = some (.ref C)) (tk : TakesE wd X) (ha : QA wd X (e :: es) (ofA As)) (hg : Gl X x := by rfl) (hdb : (x == ("__debug__" : Str)) = false := by decide)
    (he : starEach (e :: es) X.env = (false, eval e X.env) :: starEach es X.env := by rfl) (hpl : (backTo pos (starEach es X.env)).any (·.1) = false := by rfl) :
    QE wd X (.Call (.Name x p) (e :: es) [] pos) (ofE (fMake c n F dd As)) := by
  obtain ⟨fd, dsv, Fk, v, b, kp⟩ := O
  rw [hn] at Fk
  exact (qe_make hc M Fk hr hm b v hdd tk ha hg hdb he hpl).imp fun sd μ x k h => fMake_le h
theorem dden_non {K : PySem.W.Frag} {cl : Cl} : DDen K cl [.non] [.non] := fun G => .cons .non .nil
theorem dden_int {K : PySem.W.Frag} {cl : Cl} {i : Int} : DDen K cl [.int i] [.int i] := fun G => .cons (.int _) .nil
end
section
variable {P : Program} {w : World} {K : PySem.W.Frag} {mg : Str → Option Value} {base : Heap} {cl : Cl} {x qual : Str} {st : Stmt} {f : Addr} {fd : FuncData} {N ps : List Str} {k : Nat} {dvs : List V}
/-- the defaults fill up -/
theorem funE_bindsD (F : FunE K x qual st f fd dvs) (hd : dvs ≠ []) {n : Nat} (hn : n + dvs.length = ps.length)
    (h : ∀ (T : Addr) (kV doc pm : Value) (an : Option Addr) (cdv ct : Value) (us its : List Value), us.length = n → its.length = dvs.length →
      ∃ k, bindArgs (PySem.W.fnOf x qual (defArgs st) (defBody st) (defScope st) (.ref T) kV doc pm an cdv ct) ⟨us, []⟩ = seqItems? (.ref T) >>= k ∧ k (some its.toArray) = pure (ps.zip (us ++ its))) : ∃ ds, Vals dvs ds ∧ Binds K fd ps ds := by
  have := F.binds1 (ps := ps) n 0 hd (by simpa using hn) (fun T kV doc pm an cdv ct us its h1 h2 => by
    obtain ⟨k, e1, e2⟩ := h T kV doc pm an cdv ct us its h1 h2
    exact ⟨k, e1, by rw [List.drop_zero]; exact e2⟩)
  rwa [List.drop_zero] at this
end
end
end TL
/-! TL: a comprehension into the store -/
namespace TL
open PySem PySem.Spec L2
open Classical
noncomputable section
section
variable {X : Cx} {wd : Wd} {e a b c : Expr} {es rest : List Expr} {w wa wb wc : WE} {wt wu : WT} {ws : WA} {wi : WI} {pos : Pos} {st : Stmt} {sts body : List Stmt} {s1 s2 s3 : WS} {tg iter : Expr}
theorem node_red {σ : L2.St} {H : Hp} {Q : VK} (h : rdE X.K wd (wNode w) σ H Q) : rdE X.K wd w σ H Q := by
  obtain ⟨G0, H0, μ0, G, μ, sd, x, k, hx, hs, hw, hk, hxo⟩ := h
  refine ⟨G0, H0, μ0, G, μ, sd, x, _, hx, hs, hw, fun r μ1 q v G1 H1 e1 rel => ?_, hxo⟩
  cases r with
  | d y => exact q.elim
  | «at» i => exact q.elim
  | new ds =>
    obtain ⟨p, vs, rfl, h1, h2, h3, h4, h5⟩ := rel
    exact hk _ _ q _ _ H1 (e1.tell h1 h2 h4 h5 h3) (Den.ref (gnew_at e1.rep))
theorem qs_setLcN {i : Nat} {y : Str} {py spos : Pos} {elt : Expr} {ifs : List Expr} {scope : Scope} {own : List (Str × Nat)} {t : Expr} {tg : Tg} (hc : X.calm = true) (hN : X.N.Nodup) (hi : QI wd X t iter wi) (ok : BlkOk X.N X.env.scope scope own)
    (hg : ∀ (s : Shared) (H : Hp) (C : Addr) (cl : List (Str × Addr)) (fp : List Addr), QG (X.blk s H scope (compEnvC scope cl C X.env) fp) t tg)
    (ht : ∀ (s : Shared) (H : Hp) (C : Addr) (cl : List (Str × Addr)) (fp : List Addr), QTs wd.calm (X.blk s H scope (compEnvC scope cl C X.env) fp) ifs wt)
    (he : ∀ (s : Shared) (H : Hp) (C : Addr) (cl : List (Str × Addr)) (fp : List Addr), QE wd.calm (X.blk s H scope (compEnvC scope cl C X.env) fp) elt w)
    (hsw : swapsWith (.ListComp elt [⟨t, iter, ifs, 0⟩] scope pos) (some (.Name y py)) spos.line X.env = pure true)
    (hy : X.N[i]? = some y := by rfl) (hyl : X.env.scope.names.lookup y = some .local := by rfl) (hsub : ∀ i ∈ tg.slots, i ∈ own.map (·.2) := by decide) (hs : ∀ x, foldedSetIterable iter X.env x = pure x := by intro _; rfl) :
    QS wd X (.Assign [.Name y py] (.ListComp elt [⟨t, iter, ifs, 0⟩] scope pos) spos) (wSet (.n i) (wNode (wLc wi tg wt w (own.map (·.2))))) :=
  ⟨PS.imp (ps_setLc hc hN hy hyl hsw hi.pi ok (fun s H C cl fp => (hg s H C cl fp).pg) (fun s H C cl fp => (ht s H C cl fp).pts) (fun s H C cl fp => (he s H C cl fp).pe) hs) fun D σ H h => by
    have h' := set_rel (tg := .n i) h
    exact lc_red hsub (node_red h')⟩
end
section
variable {X : Cx} {wd : Wd} {e o a b c : Expr} {es rest : List Expr} {pos p apos cpos : Pos} {st : Stmt} {sts body : List Stmt} {A B C O I : FE} {T U : FT} {As : FA} {S S1 S2 : FS} {x m : Str} {It : FI} {iter tge : Expr}
theorem fs_setLcN {i : Nat} {y : Str} {py spos : Pos} {elt : Expr} {ifs : List Expr} {scope : Scope} {own : List (Str × Nat)} {t : Expr} {tg : Tg} (hc : X.calm = true) (hN : X.N.Nodup) (hi : QI wd X t iter (ofI It)) (ok : BlkOk X.N X.env.scope scope own)
    (hg : ∀ (s : Shared) (H : Hp) (C : Addr) (cl : List (Str × Addr)) (fp : List Addr), QG (X.blk s H scope (compEnvC scope cl C X.env) fp) t tg)
    (ht : ∀ (s : Shared) (H : Hp) (C : Addr) (cl : List (Str × Addr)) (fp : List Addr), QTs wd.calm (X.blk s H scope (compEnvC scope cl C X.env) fp) ifs (ofT T))
    (he : ∀ (s : Shared) (H : Hp) (C : Addr) (cl : List (Str × Addr)) (fp : List Addr), QE wd.calm (X.blk s H scope (compEnvC scope cl C X.env) fp) elt (ofE A))
    (hsw : swapsWith (.ListComp elt [⟨t, iter, ifs, 0⟩] scope pos) (some (.Name y py)) spos.line X.env = pure true)
    (hy : X.N[i]? = some y := by rfl) (hyl : X.env.scope.names.lookup y = some .local := by rfl) (hsub : ∀ i ∈ tg.slots, i ∈ own.map (·.2) := by decide) (hs : ∀ x, foldedSetIterable iter X.env x = pure x := by intro _; rfl) :
    QS wd X (.Assign [.Name y py] (.ListComp elt [⟨t, iter, ifs, 0⟩] scope pos) spos) (ofS (sSet (.n i) (fNode (fLc It tg T A (own.map (·.2)))))) := (qs_setLcN hc hN hi ok hg ht he hsw hy hyl hsub hs).imp fun E sd μ h => by
  have h2 : wSet (.n i) (ofE (fNode (fLc It tg T A (own.map (·.2))))) E sd μ := sSet_le h
  have h3 : ∀ x k, ofE (fNode (fLc It tg T A (own.map (·.2)))) sd μ x k → wNode (ofE (fLc It tg T A (own.map (·.2)))) sd μ x k := fun x k h => sat_mono (sat_bind h) fun r μ1 h => by
    obtain ⟨c, e, q⟩ := sat_of (sat_bind h)
    cases newOf_eq e
    exact q
  exact fLc_le (h3 _ _ h2)
end
end
end TL
/-! TL: list(range(a, b)) -/
namespace TL
open PySem PySem.Spec L2
open Classical
noncomputable section
section
variable {wd : Wd} {X : Cx} {a b : Expr} {p p2 pos pos2 : Pos} {wa wb : WE} {A B : FE}
theorem denL_rg2 {K : PySem.W.Frag} {cl : Cl} {G : Gh} {m n : Int} : DenL K cl G (rgV m n) (rngD m (n - m).toNat) := by
  have := denL_mk (K := K) (cl := cl) (G := G) (irg m (n - m).toNat)
  rw [← rngD_irg] at this
  have e : rgV m n = (irg m (n - m).toNat).map V.int := by
    unfold rgV irg
    rw [List.map_map]
    rfl
  rw [e]
  exact this
def Lr2 (m n : Int) : Prop := -(2 ^ 62) ≤ m ∧ m < 2 ^ 62 ∧ -(2 ^ 62) ≤ n ∧ n < 2 ^ 62 ∧ n - m ≤ 2 ^ 24
def wLrg2 (wa wb : WE) : WE := fun sd μ x k => wa sd μ x fun r1 μ1 => wb sd μ1 x fun r2 μ2 => match r1, r2 with
  | .d (.int m), .d (.int n) => Lr2 m n ∧ k (.new (.lst (rngD m (n - m).toNat))) μ2
  | _, _ => False
theorem qe_lrg2 (ha : QE wd X a wa) (hb : QE wd X b wb) (hc : X.calm = true) (hm : X.mg "list" = none) (hmr : X.mg "range" = none) (hg : Gl X "list" := by rfl) (hgr : Gl X "range" := by rfl)
    (na : starEach [a, b] X.env = (false, eval a X.env) :: starEach [b] X.env := by rfl) (nb : starEach [b] X.env = (false, eval b X.env) :: starEach [] X.env := by rfl) (hp : (backTo pos2 (starEach [b] X.env)).any (·.1) = false := by rfl)
    (na2 : starEach [.Call (.Name "range" p2) [a, b] [] pos2] X.env = (false, eval (.Call (.Name "range" p2) [a, b] [] pos2) X.env) :: starEach [] X.env := by rfl) :
    QE wd X (.Call (.Name "list" p) [.Call (.Name "range" p2) [a, b] [] pos2] [] pos) (wLrg2 wa wb) := by
  refine ⟨PE.imp (pe_listRg hc hg hm (prg_2 hgr hmr ha.pe hb.pe na nb hp) na2) fun σ H Q ⟨G0, H0, μ0, G, μ, sd, x, k, hx, hs, hw, hk, hxo⟩ => ?_⟩
  refine ⟨G0, H0, μ0, G, μ, sd, x, _, hx, hs, hw, fun r1 μ1 q v1 G1 H1 e1 rel1 => ?_, hxo⟩
  refine ⟨G0, H0, μ0, G1, μ1, sd, x, _, hx.trans e1, hs.step e1, q, fun r2 μ2 q v2 G2 H2 e2 rel2 => ?_, hxo.step e1⟩
  match r1, r2, q, rel1, rel2 with
  | .d (.int m), .d (.int n), q, rel1, rel2 =>
    cases rel1
    cases rel2
    obtain ⟨⟨b1, b2, b3, b4, b5⟩, q⟩ := q
    refine ⟨m, n, rfl, rfl, ⟨by omega, by omega, by omega, by omega, by omega⟩, fun p hp => ?_⟩
    have f0 := e2.rep.free hp
    exact hk _ _ q _ G2 _ ((e1.trans e2).trans (Ext.loose e2.rep hp)) ⟨p, _, rfl, (e1.trans e2).dom p hp, upd_same, (denL_rg2 : DenL X.K wd.cl G2 (rgV m n) (rngD m (n - m).toNat)), f0.1, f0.2⟩
theorem lr2_ok {m n : Int} (h : -1000000000000 < m ∧ m < 1000000000000 ∧ -1000000000000 < n ∧ n < 1000000000000 ∧ n - m ≤ 16777216) : Lr2 m n := ⟨by omega, by omega, by omega, by omega, by omega⟩
def fLrg2 (A B : FE) : FE := fun sd μ => (A sd μ).bind fun r1 μ1 => (B sd μ1).bind fun r2 μ2 => (Out.of (iOf r1) μ2).bind fun m μ2 => (Out.of (iOf r2) μ2).bind fun n μ2 => if Lr2 m n then .ok (.new (.lst (rngD m (n - m).toNat))) μ2 else .no
theorem fLrg2_le {sd : SD} {μ : Mu} {x : XT} {k : R → Mu → Prop} (h : ofE (fLrg2 A B) sd μ x k) : wLrg2 (ofE A) (ofE B) sd μ x k :=
  sat_mono (sat_bind h) fun r1 μ1 h => sat_mono (sat_bind h) fun r2 μ2 h => by
    obtain ⟨m, e1, h⟩ := sat_of (sat_bind h)
    obtain ⟨n, e2, h⟩ := sat_of (sat_bind h)
    cases iOf_eq e1
    cases iOf_eq e2
    exact sat_ite h
theorem fe_lrg2 (ha : QE wd X a (ofE A)) (hb : QE wd X b (ofE B)) (hc : X.calm = true) (hm : X.mg "list" = none) (hmr : X.mg "range" = none) (hg : Gl X "list" := by rfl) (hgr : Gl X "range" := by rfl)
    (na : starEach [a, b] X.env = (false, eval a X.env) :: starEach [b] X.env := by rfl) (nb : starEach [b] X.env = (false, eval b X.env) :: starEach [] X.env := by rfl) (hp : (backTo pos2 (starEach [b] X.env)).any (·.1) = false := by rfl)
    (na2 : starEach [.Call (.Name "range" p2) [a, b] [] pos2] X.env = (false, eval (.Call (.Name "range" p2) [a, b] [] pos2) X.env) :: starEach [] X.env := by rfl) :
    QE wd X (.Call (.Name "list" p) [.Call (.Name "range" p2) [a, b] [] pos2] [] pos) (ofE (fLrg2 A B)) := (qe_lrg2 ha hb hc hm hmr hg hgr na nb hp na2).imp fun sd μ x k h => fLrg2_le h
@[simp] theorem fLrg2_ap {sd : SD} {μ : Mu} : fLrg2 A B sd μ = (A sd μ).bind fun r1 μ1 => (B sd μ1).bind fun r2 μ2 => (Out.of (iOf r1) μ2).bind fun m μ2 => (Out.of (iOf r2) μ2).bind fun n μ2 => if Lr2 m n then .ok (.new (.lst (rngD m (n - m).toNat))) μ2 else .no := rfl
end
end
end TL
/-! TL: try with more than one clause -/
namespace L2
open PySem PySem.Spec PyProof.Rows
/-- a row of except clauses answers a wish: wx says of a wish what is wished of the exception -/
def ClOk (X : Cx) (hs : List ExceptHandler) (wx : Ends → WX) : Prop :=
  ∀ (pins : List (Addr × Obj)) (D : Ends) (s sI : Shared) (a : Addr) (B : Heap) (σ : St) (H : Hp) (cls : Value) (d : Option Addr),
    Inv X pins σ H sI → (∀ b o, sI.heap.get? b = some o → b ∉ frs X.stack → B.get? b = some o) → sI.heap.UpToSlots s.heap →
    HandSPX.FlyingZ B (X.env :: X.outer) a (Zc cls d) s.heap → H a = none → s.os = sI.os → AllBare s.gens → wx D cls d σ H →
    wpAny (model X.prog X.w) X.A (handleBy (.ref a) X.env hs) (SP X pins D) X.xe s
section
variable {X : Cx} {hs : List ExceptHandler} {x n : Str} {c : Value} {i : Nat} {body suite : List Stmt} {b₀ : Stmt} {np pos pos' : Pos} {tb : WX → TS} {ts : Addr → Value → Option Addr → TS} {Wout : WX} {wx : Ends → WX}
/-- no clause is left: it goes on its way -/
theorem clOk_nil (hS : X.stack = X.env :: X.outer) (hf : X.env.frame = some X.env.locals) (tk : Takes X Wout) : ClOk X [] (fun _ => Wout) := by
  intro pins D s sI a B σ H cls d I nb up fl na os ag hw
  refine wpAny_handleBy_nil ?_
  obtain ⟨_, _, _, o, vs, T, _, _, ho, _, hdat, hT, _⟩ := id fl
  have go : wpAny (model X.prog X.w) X.A (setFlight (.ref a) X.env.frame) (fun _ s4 => wpAny (model X.prog X.w) X.A (throw (.ref a) : Sem Flow) (SP X pins D) X.xe s4) X.xe s := by
    rw [hf]
    refine HandSPX.setFlight_upZ fl fun h4 held up4 => wpAny_throw (tk _ _ ⟨a, B, sI, pins, σ, H, cls, d, rfl, I, nb, up.trans up4, .inr (.inr ?_), na, os, ag, hw⟩)
    rw [hS]
    exact held
  unfold PySem.passOn
  refine wpAny_bind (wpAny_field ho hdat hT ?_)
  rw [if_neg (by simp)]
  first
    | exact wpAny_bind (wpAny_pure (wpAny_bind go))
    | exact wpAny_bind go
/-- one clause more, ahead -/
theorem clOk_as (hS : X.stack = X.env :: X.outer) (hf : X.env.frame = some X.env.locals) (hN : X.N.Nodup) (hi : X.N[i]? = some n) (hln : X.env.kindOf n = some .local) (hc : Names X x c)
    (hsu : ∀ (a : Addr) (oe : Obj) (cls : Value) (d : Option Addr) (pn : List (Addr × Obj)), Zc cls d oe → (∃ vs, oe.data = .fields vs) → PSs (X.suite a ((a, oe) :: pn)) (b₀ :: suite) (ts a cls d))
    (rest : ClOk X hs wx) : ClOk X (.ExceptHandler (some (.Name x np)) (some n) (b₀ :: suite) pos' :: hs) (fun D => wAs X.K c i ts (wx D) D) := by
  intro pins D s sI a B σ H cls d I nb up fl na os ag hw
  have ok := I.ok
  obtain ⟨b, hm, yes, no⟩ := hw
  -- where the exception stands
  have off : ∀ {h : Heap}, HandSPX.FlyingZ B (X.env :: X.outer) a (Zc cls d) h → ∃ o vs, h.get? a = some o ∧ Zc cls d o ∧ o.data = .fields vs ∧ a ≠ X.env.locals ∧ a ∉ X.fs := fun {h} f => by
    obtain ⟨o, vs, ho, hz, hd⟩ := f.there
    have out : a ∉ frs (X.env :: X.outer) := fun mem => by
      obtain ⟨_, o', ho', nf⟩ := f.2.2.1.mem mem
      rw [ho] at ho'
      cases ho'
      exact nf _ hd
    refine ⟨o, vs, ho, hz, hd, fun z => out (List.mem_filterMap.mpr ⟨X.env, List.mem_cons_self, by rw [hf, z]⟩), fun mem => ?_⟩
    obtain ⟨e, he, q⟩ := List.mem_filterMap.mp mem
    exact out (List.mem_filterMap.mpr ⟨e, List.mem_cons_of_mem _ he, q⟩)
  have J : Inv X pins σ H s := I.landed nb fl.1 up os ag
  obtain ⟨o, vs, ho, hz, hd, nL, nF⟩ := off fl
  have S := J.suite ho hd na nL nF
  refine wpAny_handleBy_cons (codeAny_handlers_test ?_) (by intro q; cases q)
  have looks : PySem.W.Looks (model X.prog X.w) s.heap (typeOf (.ref a)) cls := fun A Q E s' k q => wpAny_typeOf_ref (k _ _ ho) (by rw [hz.1]; exact q)
  have asks := PySem.W.exm_one (M := model X.prog X.w) J.kIn looks hm
  have named : ∀ {Q E : Value → Shared → Prop}, Q c s → wpAny (model X.prog X.w) (X.A.mark (some (.ref a))) (eval (.Name x np) X.env) Q E s := fun {Q E} q => by
    obtain ⟨hg, hdbg, hm | ⟨hm, hv, hnn⟩⟩ := hc
    · exact ld_glob (X := X.suite a ((a, o) :: (X.pn ++ pins))) S hg hm q hdbg
    · exact ld_blt (X := X.suite a ((a, o) :: (X.pn ++ pins))) S hg hm hv q hnn hdbg
  refine named (asks.here ?_)
  cases b with
  | false => exact rest pins D s sI a B σ H cls d I nb up fl na os ag (no rfl)
  | true =>
    refine codeAny_handlers_suite_as (HandSPX.lands_againZ fl fun h4 fl4 up4 => ?_)
    have J4 : Inv X pins σ H { s with heap := h4 } := I.landed nb fl4.1 (up.trans up4) os ag
    obtain ⟨o4, vs4, ho4, hz4, hd4, nL4, nF4⟩ := off fl4
    refine store_ok (X := X.suite a ((a, o4) :: (X.pn ++ pins))) (v := .ref a) (J4.suite ho4 hd4 na nL4 nF4) hN hi (.inl hln) rfl (fun s5 S5 => ?_) (.inr hln)
    refine wpAny_mono ((hsu a o4 cls d (X.pn ++ pins) hz4 ⟨_, hd4⟩).run [] s5 _ H _ S5 (yes rfl a na)) (fun f s6 q6 => ?_) (fun _ _ z => z.elim)
    have away : ∀ {σ6 : St} {H6 : Hp} {Q : Shared → Prop}, Inv (X.suite a ((a, o4) :: (X.pn ++ pins))) [] σ6 H6 s6 → (∀ s7, Inv X pins (σ6.set i none) H6 s7 → Q s7) →
        wpAny (model X.prog X.w) X.A (do bindName X.env n .none; unbindBehindTheSuite X.env n pos') (fun _ s7 => Q s7) X.xe s6 := fun S6 k => gone_ok (S6.unsuite ok) hN hi hln k
    cases f with
    | ret u =>
      obtain ⟨v, _, _, S6, r, q⟩ := q6
      exact away S6 fun _ J7 => ⟨v, _, _, J7, r, q⟩
    | _ =>
      obtain ⟨_, _, S6, q⟩ := q6
      exact away S6 fun _ J7 => ⟨_, _, J7, q⟩
/-- try: body, and a row of clauses -/
theorem ps_tryL {h₀ : ExceptHandler} (hS : X.stack = X.env :: X.outer) (hf : X.env.frame = some X.env.locals)
    (hb : ∀ (W : WX) (pn : List (Addr × Obj)) (xe : Value → Shared → Prop), Takes (X.tr pn xe) W → PassesOwn (model X.prog X.w) X.A X.env xe → PSs (X.tr pn xe) body (tb W))
    (hc : ClOk X (h₀ :: hs) wx) : PS X (.Try body (h₀ :: hs) [] [] pos) (fun D σ H => tb (wx D) D σ H) := by
  refine ⟨fun pins s σ H D I h => ?_⟩
  have ok := I.ok
  have hfr : X.A.frames = some (X.env :: X.outer) := by rw [ok.frames, hS]
  refine wpAny_Try_except (wpAny_mono ((hb (wx D) (X.pn ++ pins) (fun e s₁ => wpAny (model X.prog X.w) X.A (noteFrame e X.env) (fun _ s₂ => wpAny (model X.prog X.w) X.A (setFlight e none) (fun _ s₃ =>
    wpAny (model X.prog X.w) X.A (handleBy e X.env (h₀ :: hs)) (SP X pins D) X.xe s₃) X.xe s₂) X.xe s₁) (fun u s' up => ?_) PassesOwn.looking).run [] s σ H D (I.toTry _) h) (fun f s1 q => ?_) fun _ _ z => z)
  · obtain ⟨a, B, sI, pins', σ', H', cls, d, rfl, J, nb, ups, sky, na, os, ag, hw⟩ := up
    have sky' : Sky B (X.env :: X.outer) a (Zc cls d) X.env.locals s'.heap := by rw [← hS]; exact sky
    show wpAny (model X.prog X.w) X.A (noteFrame (.ref a) X.env) _ _ _
    exact Sky.land Zc.steady hfr hf sky' fun h3 fl up3 => hc pins D { s' with heap := h3 } sI a B σ' H' cls d (J.ofTry ok) nb (ups.trans up3) fl na os ag hw
  · cases f with
    | next =>
      obtain ⟨_, _, J, q⟩ := q
      exact wpAny_execs_nil ⟨_, _, J.ofTry ok, q⟩
    | ret u =>
      obtain ⟨v, _, _, J, r, q⟩ := q
      exact ⟨v, _, _, J.ofTry ok, r, q⟩
    | _ =>
      obtain ⟨_, _, J, q⟩ := q
      exact ⟨_, _, J.ofTry ok, q⟩
end
end L2
namespace TL
open PySem PySem.Spec L2
section
variable {X : Cx} {wd : Wd} {body suite suite2 : List Stmt} {b₀ b₂ : Stmt} {s1 s2 s3 : WS} {S1 S2 S3 : FS} {x x2 n : Str} {cv cv2 : Value} {np np2 pos pos' pos2 : Pos} {i : Nat} {exm exm2 : Nat → Option Bool}
theorem qs_tryAs2 (hh : wd.hnd = none) (hs : X.stack = X.env :: X.outer) (hf : X.env.frame = some X.env.locals) (hN : X.N.Nodup) (hc : Names X x cv) (hc2 : Names X x2 cv2) (tk : Takes X wd.W) (hx : ExmT X wd.cl cv exm) (hx2 : ExmT X wd.cl cv2 exm2)
    (hb : ∀ (W : WX) (pn : List (Addr × Obj)) (xe : Value → Shared → Prop), Takes (X.tr pn xe) W → PassesOwn (model X.prog X.w) X.A X.env xe → QSs ⟨wd.cl, W, none, wd.fp⟩ (X.tr pn xe) body s1)
    (hsu : ∀ (a : Addr) (oe : Obj) (cls : Value) (d : Option Addr) (pn : List (Addr × Obj)), Zc cls d oe → (∃ vs, oe.data = .fields vs) → QSs ⟨wd.cl, fun _ _ _ _ => False, some (a, cls, d), wd.fp⟩ (X.suite a ((a, oe) :: pn)) (b₀ :: suite) s2)
    (hsu2 : ∀ (a : Addr) (oe : Obj) (cls : Value) (d : Option Addr) (pn : List (Addr × Obj)), Zc cls d oe → (∃ vs, oe.data = .fields vs) → QSs ⟨wd.cl, fun _ _ _ _ => False, some (a, cls, d), wd.fp⟩ (X.suite a ((a, oe) :: pn)) (b₂ :: suite2) s3)
    (hi : X.N[i]? = some n := by rfl) (hln : X.env.kindOf n = some .local := by rfl) :
    QS wd X (.Try body [.ExceptHandler (some (.Name x np)) (some n) (b₀ :: suite) pos', .ExceptHandler (some (.Name x2 np2)) (some n) (b₂ :: suite2) pos2] [] [] pos) (wTryAs exm2 i (wTryAs exm i s1 s2) s3) := by
  refine ⟨PS.imp (ps_tryL (tb := fun W => rdS X.K ⟨wd.cl, W, none, wd.fp⟩ s1) (wx := fun D => wAs X.K cv i (fun a cls d => rdS X.K ⟨wd.cl, fun _ _ _ _ => False, some (a, cls, d), wd.fp⟩ s2) (wAs X.K cv2 i (fun a cls d => rdS X.K ⟨wd.cl, fun _ _ _ _ => False, some (a, cls, d), wd.fp⟩ s3) wd.W D) D) hs hf
    (fun W pn xe t p => (hb W pn xe t p).pss)
    (clOk_as hs hf hN hi hln hc (fun a oe cls d pn z f => (hsu a oe cls d pn z f).pss) (clOk_as hs hf hN hi hln hc2 (fun a oe cls d pn z f => (hsu2 a oe cls d pn z f).pss) (clOk_nil hs hf tk)))) fun Dd σ H ⟨G0, H0, μ0, G, μ, sd, E, hxt, hsl, hw, hE⟩ => ?_⟩
  have bk : ∀ {W : WX} {H0 : Hp} {G : Gh} {H : Hp} {μ : Mu} {σ : L2.St} {sd : SD}, Slots X.K ⟨wd.cl, W, none, wd.fp⟩ H0 G H μ σ sd → Slots X.K wd H0 G H μ σ sd := fun {W _ _ _ _ _ _} h => h.plain (h.noHnd rfl)
  have one : ∀ {em : Nat → Option Bool} {v : Value} {s : WS} {Wo W : WX} {P : Prop}, ExmT X wd.cl v em → ∀ {c : Nat} {fs : List (Nat × D)} {sd : SD} {μ : Mu} {C : Addr} {d : Option Addr} {σ : L2.St} {G : Gh} {H : Hp},
      (match em c with | some true => s (exN i E) (sd.set i (some (.exc c fs))) μ | some false => P | none => False) → (P → Wo (.ref C) d σ H) → wd.cl c = some C → Ext X.K wd.cl G0 H0 μ0 G H μ → Slots X.K ⟨wd.cl, W, none, wd.fp⟩ H0 G H μ σ sd → XdOk X.K wd.cl G H μ d fs →
      wAs X.K v i (fun a cls d => rdS X.K ⟨wd.cl, fun _ _ _ _ => False, some (a, cls, d), wd.fp⟩ s) Wo Dd (.ref C) d σ H := by
    intro em v s Wo W P hx c fs sd μ C d σ G H q no hcl hxt hs xd
    cases e : em c with
    | none => rw [e] at q; exact q.elim
    | some b =>
      rw [e] at q
      refine ⟨b, hx c C b hcl e, fun eb a ha => ?_, fun eb => ?_⟩
      · subst eb
        refine ⟨G0, H0, μ0, G, μ, _, _, hxt, Slots.setX (wd := wd) (wd' := ⟨wd.cl, fun _ _ _ _ => False, some (a, .ref C, d), wd.fp⟩) rfl rfl hh rfl (bk hs) hcl xd, q, ?_⟩
        have un : ∀ {H0 : Hp} {G : Gh} {H : Hp} {μ : Mu} {σ : L2.St} {sd : SD}, Slots X.K ⟨wd.cl, fun _ _ _ _ => False, some (a, .ref C, d), wd.fp⟩ H0 G H μ σ sd → noExc (sd.set i none) = true → Slots X.K wd H0 G H μ (σ.set i none) (sd.set i none) := fun {_ _ _ _ _ _} h hn => h.setN.plain fun i c fs => noExc_at hn
        exact ⟨fun sd μ q σ G H hx hs => hE.nx _ μ q.2 _ G H hx (un hs q.1), fun sd μ q σ G H hx hs => hE.bk _ μ q.2 _ G H hx (un hs q.1), fun sd μ q σ G H hx hs => hE.ct _ μ q.2 _ G H hx (un hs q.1), hE.rt, fun c fs sd μ q => q.elim⟩
      · subst eb
        exact no q
  refine ⟨G0, H0, μ0, G, μ, sd, _, hxt, hsl.plain (hsl.noHnd hh), hw, ?_⟩
  exact ⟨fun sd μ q σ G H hx hs => hE.nx sd μ q σ G H hx (bk hs), fun sd μ q σ G H hx hs => hE.bk sd μ q σ G H hx (bk hs), fun sd μ q σ G H hx hs => hE.ct sd μ q σ G H hx (bk hs), hE.rt, fun c fs sd μ q C d σ G H hcl hxt hs xd =>
    one hx (s := s2) q (fun q2 => one hx2 (s := s3) q2 (fun q3 => hE.ex c fs sd μ q3 C d σ G H hcl hxt (bk hs) xd) hcl hxt hs xd) hcl hxt hs xd⟩
theorem fs_tryAs2 (hh : wd.hnd = none) (hs : X.stack = X.env :: X.outer) (hf : X.env.frame = some X.env.locals) (hN : X.N.Nodup) (hc : Names X x cv) (hc2 : Names X x2 cv2) (tk : Takes X wd.W) (hx : ExmT X wd.cl cv exm) (hx2 : ExmT X wd.cl cv2 exm2)
    (hb : ∀ (W : WX) (pn : List (Addr × Obj)) (xe : Value → Shared → Prop), Takes (X.tr pn xe) W → PassesOwn (model X.prog X.w) X.A X.env xe → QSs ⟨wd.cl, W, none, wd.fp⟩ (X.tr pn xe) body (ofS S1))
    (hsu : ∀ (a : Addr) (oe : Obj) (cls : Value) (d : Option Addr) (pn : List (Addr × Obj)), Zc cls d oe → (∃ vs, oe.data = .fields vs) → QSs ⟨wd.cl, fun _ _ _ _ => False, some (a, cls, d), wd.fp⟩ (X.suite a ((a, oe) :: pn)) (b₀ :: suite) (ofS S2))
    (hsu2 : ∀ (a : Addr) (oe : Obj) (cls : Value) (d : Option Addr) (pn : List (Addr × Obj)), Zc cls d oe → (∃ vs, oe.data = .fields vs) → QSs ⟨wd.cl, fun _ _ _ _ => False, some (a, cls, d), wd.fp⟩ (X.suite a ((a, oe) :: pn)) (b₂ :: suite2) (ofS S3))
    (hi : X.N[i]? = some n := by rfl) (hln : X.env.kindOf n = some .local := by rfl) :
    QS wd X (.Try body [.ExceptHandler (some (.Name x np)) (some n) (b₀ :: suite) pos', .ExceptHandler (some (.Name x2 np2)) (some n) (b₂ :: suite2) pos2] [] [] pos) (ofS (sTryAs exm2 i (sTryAs exm i S1 S2) S3)) :=
  (qs_tryAs2 hh hs hf hN hc hc2 tk hx hx2 hb hsu hsu2 hi hln).imp fun E sd μ h => sTryAs_le (sTryAs_le h)
end
end TL
/-! TL: o.pop() of a list in the store -/
namespace TL
open PySem PySem.Spec L2
open Classical
noncomputable section
section
variable {X : Cx} {wd : Wd} {o : Expr} {wo : WE} {O : FE} {apos cpos : Pos}
def wPopM0 (wo : WE) : WE := fun sd μ x k => wo sd μ x fun r μ1 => match r with
  | .d (.ref a) => ∃ ds d, μ1[a]? = some (.box (.lst ds)) ∧ ds[ds.length - 1]? = some d ∧ k (.d d) (μ1.set a (.box (.lst ds.dropLast)))
  | _ => False
theorem qe_popM0 (ho : QE wd X o wo) (hbase : attributeBase o "pop" X.env (eval o X.env) = eval o X.env := by rfl) (hline : (apos.endLine == cpos.line) = true := by rfl) :
    QE wd X (.Call (.Attribute o "pop" apos) [] [] cpos) (wPopM0 wo) := by
  refine ⟨PE.imp (pe_bm0 PySem.F.plainAttrs_list PySem.F.slot_list_pop PySem.F.type_list_pop mt_pop ho.pe hbase hline) fun σ H Q ⟨G0, H0, μ0, G, μ, sd, x, k, hx, hs, hw, hk, hxo⟩ => ?_⟩
  refine ⟨G0, H0, μ0, G, μ, sd, x, _, hx, hs, hw, fun r μ1 q v G1 H1 e1 rel => ?_, hxo⟩
  cases r with
  | «at» i => exact q.elim
  | new ds => exact q.elim
  | d y =>
    cases y <;> try exact q.elim
    rename_i n
    cases rel with
    | @ref a _ hn =>
    obtain ⟨ds, d, hm, hd, q⟩ := q
    obtain ⟨vs, hv, hdl⟩ := node_lst e1.rep hn hm
    obtain ⟨v, hv2, den⟩ := hdl.get hd
    refine ⟨.inl ⟨rfl, vs, SqL.of hv⟩, a, vs, v, rfl, rfl, hv, by rw [hdl.len]; exact hv2, ?_⟩
    exact hk _ _ q v G1 _ (Ext.chg e1 hn (o' := .lst vs.dropLast) hdl.dropLast) den
def fPopM0 (O : FE) : FE := fun sd μ => (O sd μ).bind fun r μ1 => (Out.of (refOf r) μ1).bind fun n μ1 => (Out.of (boxL n μ1) μ1).bind fun ds μ1 => match ds[ds.length - 1]? with
  | some d => .ok (.d d) (μ1.set n (.box (.lst ds.dropLast)))
  | none => .no
theorem fPopM0_le {sd : SD} {μ : Mu} {x : XT} {k : R → Mu → Prop} (h : ofE (fPopM0 O) sd μ x k) : wPopM0 (ofE O) sd μ x k := sat_mono (sat_bind h) fun r μ1 h => by
  obtain ⟨n, e, h0⟩ := sat_of (sat_bind h)
  cases refOf_eq e
  clear h
  obtain ⟨ds, e0, h1⟩ := sat_of (sat_bind h0)
  cases q : ds[ds.length - 1]? with
  | none => rw [q] at h1; exact h1.elim
  | some d => rw [q] at h1; exact ⟨ds, d, boxL_eq e0, q, h1⟩
theorem fe_popM0 (ho : QE wd X o (ofE O)) (hbase : attributeBase o "pop" X.env (eval o X.env) = eval o X.env := by rfl) (hline : (apos.endLine == cpos.line) = true := by rfl) :
    QE wd X (.Call (.Attribute o "pop" apos) [] [] cpos) (ofE (fPopM0 O)) := (qe_popM0 ho hbase hline).imp fun sd μ x k h => fPopM0_le h
@[simp] theorem fPopM0_ap {sd : SD} {μ : Mu} : fPopM0 O sd μ = (O sd μ).bind fun r μ1 => (Out.of (refOf r) μ1).bind fun n μ1 => (Out.of (boxL n μ1) μ1).bind fun ds μ1 => match ds[ds.length - 1]? with
  | some d => .ok (.d d) (μ1.set n (.box (.lst ds.dropLast)))
  | none => .no := rfl
end
end
end TL
/-! TL: a def made in a def's body, handed on to another def that calls it -/
namespace TL
open PySem PySem.Spec PyProof.Rows L2 LamX NdefX
/-- the function that the inner def st makes -/
abbrev nfOf (st : Stmt) (nm ql : Str) (cl : List (Str × Addr)) (cc : Addr) : NF := ⟨nm, ql, defArgs st, defBody st, defScope st, cl, cc⟩
section
variable {X : Cx} {pins : List (Addr × Obj)} {σ : L2.St} {H : Hp} {s : Shared}
/-- behind the making of a def: its code object was in the table, or is new and stands there now -/
def Made (H : Hp) (tb : Addr) (ql : Str) (tr : Array Value) (cc : Addr) (H1 : Hp) : Prop :=
  (H1 = H ∧ ∃ p2, codeAmong p2 tr.toList = some (.ref cc)) ∨
  ∃ tr' : Array Value, H cc = none ∧ H1 = upd (upd H tb (.tbl tr')) cc (CodeO cc ql) ∧ TriplesOk tr'.toList ∧ ∀ p2 cv, codeAmong p2 tr'.toList = some cv → codeAmong p2 tr.toList = some cv ∨ cv = .ref cc
theorem mk_def {co tb : Addr} {tr : Array Value} {nm : Str} {pr : Arguments} {bd : List Stmt} {sc : Scope} {lp : Pos} {E Q : Value → Shared → Prop} (I : Inv X pins σ H s) (B : TabB X.base X.mg co tb) (hco : X.env.code = .ref co)
    (hT : H tb = some (.tbl tr)) (h3 : TriplesOk tr.toList) (hfr : ∀ y ∈ sc.names, y.2 = .free → ∃ c, X.env.cells.lookup y.1 = some c) (hrf : ∀ p2 cv, codeAmong p2 tr.toList = some cv → ∃ c2, cv = .ref c2)
    (fin : ∀ (f cc : Addr) (H1 : Hp) (s2 : Shared), Made H tb (X.env.qual ++ nm) tr cc H1 → H1 f = none → Inv X pins σ (upd H1 f (FnO f ⟨nm, X.env.qual ++ nm, pr, bd, sc, cloFrom X.env.cells sc.names [], cc⟩)) s2 → Q (.ref f) s2) :
    wpAny (model X.prog X.w) X.A (makeFunction nm (X.env.qual ++ nm) pr (.stmts bd) sc X.env [] [] [] lp lp.line) Q E s := by
  have hT' : s.heap.get? tb = some { cls := .none, data := .fields tr } := I.hok tb _ hT
  have bt := B.bm.keeps I.bk
  have gl := I.mod.glob.keeps I.bk
  have cd := B.code.keeps I.bk
  cases look : codeAmong lp tr.toList with
  | none =>
    refine PySem.W.makeFunction_K (ps := tr) (closure_ok hfr) I.ok.glob gl hco cd hT' h3 look B.gP bt ?_
    intro cc ctv dc h2 tk kx ge lt rc nt
    obtain ⟨c2, oc, vv, tt, e2, k1, k2, k3⟩ := rc
    cases e2
    have J := inv_table (more := #[rawInt lp.line, rawInt lp.col, .ref cc]) (t' := tk) (h' := h2) I hT (fun b o nb e => kx b o nb e) nt ge ⟨oc, vv, tt, k1, k2, k3⟩
    have J2 := inv_fn (F := ⟨nm, X.env.qual ++ nm, pr, bd, sc, cloFrom X.env.cells sc.names [], cc⟩) (t' := tk) (pm := (X.mg "__name__").getD .none) (doc := dc) (ctv := ctv) J rfl
    have tl : (tr ++ #[rawInt lp.line, rawInt lp.col, .ref cc]).toList = tr.toList ++ [rawInt lp.line, rawInt lp.col, .ref cc] := by simp
    refine fin _ cc _ _ (.inr ⟨_, I.hok.fresh ge, rfl, ?_, fun p2 cv hc => ?_⟩) (J.hok.fresh (Nat.le_refl _)) J2
    · rw [tl]
      exact PySem.TriplesOk_snoc _ _ _ _ h3
    · rw [tl] at hc
      rcases among_app2 _ h3 hc with z | ⟨z, _⟩
      · exact .inl z
      · exact .inr z
  | some cv =>
    obtain ⟨cc, e⟩ := hrf lp cv look
    subst e
    refine PySem.W.makeFunction_hit (ps := tr) (closure_ok hfr) I.ok.glob gl hco cd hT' h3 look bt ?_
    intro ctv dc h2 tk kx sz
    have J : Inv X pins σ H { s with heap := h2, toks := tk } := I.kept kx
    have J2 := inv_fn (F := ⟨nm, X.env.qual ++ nm, pr, bd, sc, cloFrom X.env.cells sc.names [], cc⟩) (t' := tk) (pm := (X.mg "__name__").getD .none) (doc := dc) (ctv := ctv) J rfl
    exact fin _ cc H _ (.inl ⟨rfl, lp, look⟩) (J.hok.fresh (Nat.le_refl _)) J2
end

section
variable {K : PySem.W.Frag} {wd : Wd} {G : Gh} {H0 H : Hp} {μ : Mu} {σ : L2.St} {sd : SD}
theorem Slots.setFn {i : Nat} {v : V} {cs : List D} (h : Slots K wd H0 G H μ σ sd) (hd : ∀ G1, GLe G G1 → wd.fp cs v G1) : Slots K wd H0 G H μ (σ.set i (some v)) (sd.set i (some (.fn cs))) := by
  have self : ∀ {j : Nat} {s : SV}, (sd.set i (some (.fn cs)))[j]? = some (some s) → (j = i ∧ s = .fn cs ∧ i < sd.length) ∨ (i ≠ j ∧ sd[j]? = some (some s)) := fun {j s} q => by
    by_cases e : i = j
    · subst e
      have hi : i < sd.length := by
        have := (List.getElem?_eq_some_iff.mp q).1
        rwa [List.length_set] at this
      rw [List.getElem?_set_self hi] at q
      cases q
      exact .inl ⟨rfl, rfl, hi⟩
    · rw [List.getElem?_set_ne e] at q
      exact .inr ⟨e, q⟩
  refine ⟨by rw [List.length_set, List.length_set]; exact h.len, fun j s q => ?_, fun j k v' ds es hjk q1 q2 q3 q4 => ?_⟩
  · rcases self q with ⟨rfl, rfl, hi⟩ | ⟨e, q⟩
    · exact ⟨v, List.getElem?_set_self (by rw [← h.len]; exact hi), hd⟩
    · obtain ⟨u, q1, q2⟩ := h.at_ j s q
      exact ⟨u, by rw [List.getElem?_set_ne e]; exact q1, q2⟩
  · rcases self q1 with ⟨_, z, _⟩ | ⟨e1, q1⟩
    · cases z
    rcases self q2 with ⟨_, z, _⟩ | ⟨e2, q2⟩
    · cases z
    rw [List.getElem?_set_ne e1] at q3
    rw [List.getElem?_set_ne e2] at q4
    exact h.sep j k v' ds es hjk q1 q2 q3 q4
theorem Rep.tab {cl : Cl} {n : Nat} {ql : Str} (r : Rep K cl G H μ) (h : μ[n]? = some (.tab ql)) : G.ρ[n]? = some cl.tP ∧ ∃ tr, H cl.tP = some (.tbl tr) ∧ TabG G tr ql := by
  have hn : n < G.ρ.length := by rw [r.len]; exact (List.getElem?_eq_some_iff.mp h).1
  obtain ⟨a, ha⟩ : ∃ a, G.ρ[n]? = some a := ⟨_, List.getElem?_eq_getElem hn⟩
  obtain ⟨_, m, o, q1, q2, ok⟩ := r.node n a ha
  rw [h] at q1
  cases q1
  cases o <;> first | exact ok.elim | skip
  obtain ⟨e, tg⟩ := ok
  subst e
  exact ⟨ha, _, q2, tg⟩
theorem upd_swap {a b : Addr} {o u : HO} (h : a ≠ b) : upd (upd H a o) b u = upd (upd H b u) a o := by
  funext c
  by_cases e1 : c = a
  · subst e1
    rw [upd_ne h, upd_same, upd_same]
  · by_cases e2 : c = b
    · subst e2
      rw [upd_same, upd_ne e1, upd_same]
    · rw [upd_ne e2, upd_ne e1, upd_ne e1, upd_ne e2]
/-- the making, by trees -/
theorem made_ext {cl : Cl} {n : Nat} {ql : Str} {F : NF} {f cc : Addr} {H1 : Hp} {tr : Array Value} (r : Rep K cl G H μ) (hn : μ[n]? = some (.tab ql)) (hT : H cl.tP = some (.tbl tr)) (tg : TabG G tr ql) (hF : F.c = cc) (hq : F.qual = ql) (M : Made H cl.tP ql tr cc H1) (hf : H1 f = none) :
    ∃ G1, Ext K cl G H μ G1 (upd H1 f (FnO f F)) μ ∧ G1.fz f = some (FnO f F) ∧ G1.fz F.c = some (CodeO F.c F.qual) := by
  subst hF hq
  rcases M with ⟨rfl, p2, e⟩ | ⟨tr', nc, e, t3, tc⟩
  · obtain ⟨c2, e1, e2⟩ := tg.2 p2 _ e
    cases e1
    have x := Ext.frozen (o := FnO f F) r hf
    exact ⟨_, x, upd_same, x.g.fz _ _ e2⟩
  · have ne : cl.tP ≠ F.c := ne_of_none hT nc
    have x1 := Ext.frozen (o := CodeO F.c F.qual) r nc
    have ht := (r.tab hn).1
    have ok : NdOk K cl (gput G F.c (CodeO F.c F.qual)) cl.tP (.tbl tr') (.tab F.qual) := ⟨rfl, t3, fun p2 cv hc => by
      rcases tc p2 cv hc with z | z
      · obtain ⟨c2, e1, e2⟩ := tg.2 p2 cv z
        exact ⟨c2, e1, x1.g.fz _ _ e2⟩
      · exact ⟨F.c, z, upd_same⟩⟩
    have x2 := x1.chg (n' := .tab F.qual) (o' := .tbl tr') (p := cl.tP) (i := n) ht ok
    have em : μ.set n (.tab F.qual) = μ := by
      have hl := (List.getElem?_eq_some_iff.mp hn)
      obtain ⟨hl, hv⟩ := hl
      rw [← hv]
      exact List.set_getElem_self hl
    rw [em] at x2
    have eH : H1 = upd (upd H F.c (CodeO F.c F.qual)) cl.tP (.tbl tr') := by rw [e, upd_swap ne]
    rw [← eH] at x2
    have x3 := Ext.frozen (o := FnO f F) x2.rep hf
    have fc : (gput G F.c (CodeO F.c F.qual)).fz F.c = some (CodeO F.c F.qual) := upd_same
    exact ⟨_, x2.trans x3, upd_same, x3.g.fz _ _ fc⟩
end
end TL
/-! TL: the def statement within a def; the promise of a def made there; its call from another def -/
namespace TL
open PySem PySem.Spec PyProof.Rows L2 LamX NdefX
/-! ### the statement -/
def wNdef (i n : Nat) (ql : Str) : WS := fun E sd μ => μ[n]? = some (.tab ql) ∧ E.nx (sd.set i (some (.fn []))) μ
/-- what the maker's slot knows of the function -/
def fpM (mk : Addr → NF) : List D → V → Gh → Prop := fun cs v G => cs = [] ∧ ∃ f cc, v = .ref f ∧ G.fz f = some (FnO f (mk cc)) ∧ G.fz (mk cc).c = some (CodeO (mk cc).c (mk cc).qual)
section
variable {X : Cx} {wd : Wd}
theorem qs_ndef0 {nm : Str} {pr : Arguments} {bd : List Stmt} {sc : Scope} {lp : Pos} {co : Addr} {i n : Nat} (B : TabB X.base X.mg co wd.cl.tP) (hco : X.env.code = .ref co)
    (hfree : ∀ y ∈ sc.names, y.2 = .free → X.env.scope.names.lookup y.1 = some .cell ∨ X.env.scope.names.lookup y.1 = some .free) (hd0 : pr.defaults = []) (hk0 : pr.kw_defaults = []) (han : annTrees pr none X.env = [])
    (hN : X.N.Nodup) (hi : X.N[i]? = some nm) (hx : Loc X.env.scope nm) (hfp : wd.fp = fpM fun cc => ⟨nm, X.env.qual ++ nm, pr, bd, sc, cloFrom X.env.cells sc.names [], cc⟩) (hf : X.fn nm = true ∨ X.env.scope.names.lookup nm = some .local) :
    QS wd X (.FunctionDef nm pr bd [] none [] sc none nm lp) (wNdef i n (X.env.qual ++ nm)) := by
  refine ⟨⟨fun pins s σ H D I h => ?_⟩⟩
  obtain ⟨G0, H0, μ0, G, μ, sd, E, hxt, hs, ⟨hn, hw⟩, hE⟩ := h
  have hqn : qualnameIn X.env nm nm = X.env.qual ++ nm := by
    unfold qualnameIn
    rcases (show X.env.kindOf nm = some .local ∨ X.env.kindOf nm = some .cell from hx) with z | z
    · rw [z] <;> rfl
    · rw [z]
      exact if_neg (by decide)
  refine PySem.W.nestDef_K hd0 hk0 han ?_
  rw [hqn]
  obtain ⟨_, tr, hT, tg⟩ := hxt.rep.tab hn
  have hfr : ∀ y ∈ sc.names, y.2 = .free → ∃ c, X.env.cells.lookup y.1 = some c := fun y hy e => by
    rcases hfree y hy e with z | z
    · exact I.ok.has _ (.inl z)
    · exact I.ok.has _ (.inr z)
  refine mk_def (tb := wd.cl.tP) I B hco hT tg.1 hfr (fun p2 cv hc => let ⟨c2, e, _⟩ := tg.2 p2 cv hc; ⟨c2, e⟩) fun f cc H1 s2 M hf1 J => ?_
  obtain ⟨G1, x1, g1, g2⟩ := made_ext (F := ⟨nm, X.env.qual ++ nm, pr, bd, sc, cloFrom X.env.cells sc.names [], cc⟩) (ql := X.env.qual ++ nm) hxt.rep hn hT tg rfl rfl M hf1
  refine store_ok J hN hi hx (v := .ref f) rfl (fun s3 J3 => ⟨_, _, J3, ?_⟩) hf
  exact hE.nx _ μ hw _ G1 _ (hxt.trans x1) ((hs.step x1).setFn fun G2 le => by rw [hfp]; exact ⟨rfl, f, cc, rfl, le.fz _ _ g1, le.fz _ _ g2⟩)
theorem qs_ndef {st : Stmt} {nm ql : Str} {lp : Pos} {co : Addr} {i n : Nat} (hst : st = .FunctionDef nm (defArgs st) (defBody st) [] none [] (defScope st) none nm lp) (B : TabB X.base X.mg co wd.cl.tP) (hco : X.env.code = .ref co) (hq : X.env.qual ++ nm = ql)
    (hfree : ∀ y ∈ (defScope st).names, y.2 = .free → X.env.scope.names.lookup y.1 = some .cell ∨ X.env.scope.names.lookup y.1 = some .free) (hd0 : (defArgs st).defaults = []) (hk0 : (defArgs st).kw_defaults = []) (han : annTrees (defArgs st) none X.env = [])
    (hN : X.N.Nodup) (hi : X.N[i]? = some nm) (hx : Loc X.env.scope nm) (hfp : wd.fp = fpM (nfOf st nm ql (cloFrom X.env.cells (defScope st).names []))) (hf : X.fn nm = true ∨ X.env.scope.names.lookup nm = some .local) :
    QS wd X st (wNdef i n ql) := by
  subst hq
  have q := qs_ndef0 (X := X) (wd := wd) (nm := nm) (pr := defArgs st) (bd := defBody st) (sc := defScope st) (lp := lp) (i := i) (n := n) B hco hfree hd0 hk0 han hN hi hx hfp hf
  rw [← hst] at q
  exact q
end
/-! ### its promise -/
section
variable {P : Program} {w : World} {K : PySem.W.Frag} {mg : Str → Option Value} {base : Heap} {cl : Cl}
def spN (K : PySem.W.Frag) (cl : Cl) (np : Nat) (Fp : TSp) : List (Option V) → Sp := fun ws vs H Q E => ∃ us : List V, ws = us.map some ∧ vs.length = np ∧ spT K cl (np + us.length) Fp (vs ++ us) H Q E
theorem nokT {F : NF} {N psP fr : List Str} {k : Nat} {f : Addr} {ws : WS} (S : NScope N psP fr F.scope) (hb : ∀ (dc pm ctv : Value) (us : List Value), us.length = psP.length → bindArgs (F.fd dc pm ctv) ⟨us, []⟩ = pure (psP.zip us))
    (hbody : ∀ (A : Around) (outer : List Env) (s : Shared) (H : Hp) (E : XK), Room k (A.deeper (envF F f s.heap.objs.size)) → QSs ⟨cl, fun cls d _ H => E cls d H, none, fp0⟩ (ncx (L2.CX P w) P w K mg base N F f A outer s H E) F.body ws) :
    NOk P w K mg base (L2.CX P w) (k + 1) f F psP fr (spN K cl psP.length (run N.length ws)) := by
  refine nok_of S hb (fun ws vs H Q E ⟨us, _, hl, _⟩ => hl) fun A outer s H vs wz Q E hr _ _ _ h => ⟨_, (hbody A outer s H E hr).pss, ?_⟩
  obtain ⟨us, e, hl, G, μ, ds, x, k', hn, rp, hd, hw, hk, hx⟩ := h
  subst e
  have es : startF N vs (us.map some) = L2.start N (vs ++ us) := by
    unfold startF L2.start
    rw [List.map_append, List.append_assoc, List.length_append, List.length_map, Nat.sub_add_eq]
  rw [es]
  refine ⟨G, H, μ, G, μ, startD N.length ds, _, .refl rp, slots_start hd, hw, ?_⟩
  exact ⟨fun sd μ' q σ G' H' e hs => hk _ _ q .non G' H' e Den.non, fun sd μ' q => q.elim, fun sd μ' q => q.elim, fun r μ' q v G' H' e rel => hk r μ' q v G' H' e rel, fun c fs sd μ' q C d σ G' H' hc e hs xd => hx c fs μ' q C d G' H' hc e xd⟩
theorem nokF {F : NF} {N psP fr : List Str} {k : Nat} {f : Addr} {S : FS} (Sc : NScope N psP fr F.scope) (hb : ∀ (dc pm ctv : Value) (us : List Value), us.length = psP.length → bindArgs (F.fd dc pm ctv) ⟨us, []⟩ = pure (psP.zip us))
    (hbody : ∀ (A : Around) (outer : List Env) (s : Shared) (H : Hp) (E : XK), Room k (A.deeper (envF F f s.heap.objs.size)) → QSs ⟨cl, fun cls d _ H => E cls d H, none, fp0⟩ (ncx (L2.CX P w) P w K mg base N F f A outer s H E) F.body (ofS S)) :
    NOk P w K mg base (L2.CX P w) (k + 1) f F psP fr (spN K cl psP.length (ofF (runF N.length S))) :=
  (nokT Sc hb hbody).imp fun ws vs H Q E ⟨us, e, hl, h⟩ => ⟨us, e, hl, spT_imp (fun ds μ x k h => runF_le h) h⟩
end
/-! ### the def that takes it -/
/-- what its slot knows: the function at f, the captured values us, as trees cs -/
def fpR (K : PySem.W.Frag) (cl : Cl) (f : Addr) (F : NF) (us : List V) : List D → V → Gh → Prop := fun cs v G => v = .ref f ∧ G.fz f = some (FnO f F) ∧ G.fz F.c = some (CodeO F.c F.qual) ∧ DenL K cl G us cs
section
variable {X : Cx} {wd : Wd} {e : Expr} {es : List Expr} {ws : WA} {p pos : Pos} {x : Str} {f : Addr} {F : NF} {us0 : List V} {psP fr : List Str} {kp np i : Nat} {Fp : TSp}
def wCallFn (i np : Nat) (Fp : TSp) (ws : WA) : WE := fun sd μ x k => ∃ cs, sd[i]? = some (some (.fn cs)) ∧ ws sd μ x fun ds μ1 => ds.length = np ∧ Fp (ds ++ cs) μ1 x k
theorem qe_callFn (hfp : wd.fp = fpR X.K wd.cl f F us0) (hC : CellsAt F.cl fr (us0.map some) X.s_0.heap X.H_0) (hnf : ∀ y c, F.cl.lookup y = some c → c ∉ X.fs) (hex : X.ex = []) (Fn : NOk X.prog X.w X.K X.mg X.base (L2.CX X.prog X.w) kp f F psP fr (spN X.K wd.cl np Fp))
    (hr : Room kp X.A) (tk : TakesE wd X) (hN : X.N[i]? = some x) (hv : Vis X.env.scope x) (ha : QA wd X (e :: es) ws) (hd : (x == ("__debug__" : Str)) = false := by decide) (hcd : (x == ("__classdict__" : Str)) = false := by decide)
    (he : starEach (e :: es) X.env = (false, eval e X.env) :: starEach es X.env := by rfl) (hpl : (backTo pos (starEach es X.env)).any (·.1) = false := by rfl) :
    QE wd X (.Call (.Name x p) (e :: es) [] pos) (wCallFn i np Fp ws) := by
  refine ⟨⟨fun pins s σ H Q I h => ?_⟩⟩
  obtain ⟨G0, H0, μ0, G, μ, sd, x', k', hx, hs, ⟨cs, hsl, hw⟩, hk, hxo⟩ := h
  obtain ⟨v, hσ, hfn⟩ := hs.at_ i _ hsl
  have hfn := hfn G (GLe.refl _)
  rw [hfp] at hfn
  obtain ⟨ev, f1, f2, dl⟩ := hfn
  subst ev
  refine wpAny_Call_Name_kw (thn ((pe_var (pos := p) hN hv hd hcd).run pins s σ H (fun z Hz => z = .ref f ∧ Hz = H) I ⟨_, hσ, rfl, rfl⟩) fun u0 sA hA => ?_)
  obtain ⟨zv, HA, IA, rA, e1, e2⟩ := hA
  subst e1
  subst e2
  obtain rfl : u0 = Value.ref f := rA
  refine PySem.W.callWith_F (first := []) (fnAt_of IA (hx.rep.sub _ _ f1)) (thn (ha.pa.run pos pins sA σ HA (fun vs HB => ∃ ds μ2 G2, Ext X.K wd.cl G HA μ G2 HB μ2 ∧ DenL X.K wd.cl G2 vs ds ∧ ds.length = np ∧ Fp (ds ++ cs) μ2 x' k') IA ?_) fun us sB hB => ?_) he hpl
  · exact ⟨G0, H0, μ0, G, μ, sd, x', _, hx, hs, hw, fun ds μ1 q vs G1 H1 e1 hd => ⟨ds, μ1, G1, e1, hd, q.1, q.2⟩, hxo⟩
  obtain ⟨vs, HB, IB, rB, ds, μ2, G2, x2, dn, hl, hF⟩ := hB
  have g1 := x2.rep.sub _ _ (x2.g.fz _ _ f1)
  have g2 := x2.rep.sub _ _ (x2.g.fz _ _ f2)
  refine ⟨fnAt_of IB g1, ?_⟩
  have CB := hC.later hnf (fun y c _ => by rw [hex]; simp) IB
  have hlv : vs.length = np := by rw [dn.len, hl]
  have sp : spN X.K wd.cl np Fp (us0.map some) vs HB Q (L2.WE wd.W σ) := ⟨us0, rfl, hlv, G2, μ2, ds ++ cs, x', k', by rw [List.length_append, hl, dl.len], x2.rep, dn.app (DenL.mono x2.g _ _ dl), hF,
    fun r μ' q' v G' H' e' rel => hk r μ' q' v G' H' (x2.trans e') (rel.back fun a z => x2.dom a z).rel, fun c fs μ' q' C d G' H' hc e' xd => hxo c fs μ' q' C d G' H' hc (x2.trans e') xd⟩
  show wpAny _ _ (call (.ref f) us) _ _ _
  refine wpAny_call (codeAny_mono (Fn.run X.A X.stack sB HB us vs (us0.map some) Q (L2.WE wd.W σ) hr IB.env0 g1 g2 CB rB sp) fun r sC hq => ?_)
  cases r with
  | error er => exact tk σ pins HB sB er sC IB hq
  | ok fl =>
    cases fl with
    | ret u => exact IB.after hq
    | next => exact hq.elim
    | brk => exact hq.elim
    | cont => exact hq.elim
end
/-- a def whose second argument is a function made beneath: its promise may ask how the state stands at the call -/
structure FnOkP (P : Program) (w : World) (K : PySem.W.Frag) (mg : Str → Option Value) (base : Heap) (k : Nat) (g : Addr) (fd : FuncData) (ps : List Str) (spP : List Env → Shared → Sp) : Prop where
  len : ∀ outer s vs H Q E, spP outer s vs H Q E → vs.length = ps.length
  run : ∀ (A : Around) (outer : List Env) (s : Shared) (H : Hp) (ar : Args) (us : List Value) (vs : List V) (Q : VK) (E : XK), Room k A → Env0 P w K mg base A outer s H → BindsTo s fd ar (ps.zip us) → Vals vs us → spP outer s vs H Q E →
    codeAny (model P w) A (.call (.ref g) ar) (CR (L2.CX P w) outer P w H s Q E) s
section
variable {P : Program} {w : World} {K : PySem.W.Frag} {mg : Str → Option Value} {base : Heap} {cl : Cl}
theorem fnP_of {x qual : Str} {st : Stmt} {g : Addr} {fd : FuncData} {N ps : List Str} {k : Nat} {spP : List Env → Shared → Sp} (Fd : Fun K x qual st g fd) (Sc : FnScope N ps (defScope st)) (hlen : ∀ outer s vs H Q E, spP outer s vs H Q E → vs.length = ps.length)
    (hb0 : ∀ (cdv : Value) (A : Around) (outer : List Env) (s : Shared) (H : Hp) (vs : List V) (Q : VK) (E : XK), Room k (A.deeper (envOfC qual (defScope st) s.heap.objs.size g cdv)) → spP outer s vs H Q E →
      ∃ t, PSs (cxOf (L2.CX P w) P w K mg base N qual (defScope st) g cdv A outer s H E) (defBody st) t ∧ t { nx := fun _ H' => Q .non H', rt := Q } (L2.start N vs) H) : FnOkP P w K mg base (k + 1) g fd ps spP := by
  obtain ⟨oc, od, kV, dc, pm, an, cdv, ct, sl, rfl, lk, hcd⟩ := Fd.ex
  refine ⟨hlen, fun A outer s H ar us vs Q E hr e0 hb rv hsp => ?_⟩
  have lv := hlen _ _ _ _ _ _ hsp
  have stay : ∀ b o, base.get? b = some o → s.heap.get? b = some o := fun b o e => (e0.bs b o e).1
  have KX : K.In s.heap := e0.mod.kin.keeps stay
  have nl : s.heap.NoLimit := e0.mod.nolimit.keeps stay
  refine codeAny_call_function hr.depth (KX _ _ lk) rfl Sc.co Sc.gen rfl (PySem.W.codeRec_of KX hcd) (hb _ _ _ _ ?_)
  refine wpAny_newFunctionEnv_cells Sc.kind (fun y hy => ?_) fun env he s1 ic => ?_
  · obtain ⟨nm, v⟩ := y
    rcases Sc.par nm (List.of_mem_zip hy).1 with z | z
    · exact .inl z
    · exact .inr ⟨z, PySem.W.cellsFrom_some _ _ _ (.inl z)⟩
  subst he
  refine ⟨nl.keeps ic.toInCall.keep, codeAny_func ?_⟩
  obtain ⟨t, ht, hq⟩ := hb0 cdv A outer s H vs Q E (hr.deeper _) hsp
  have I := inv_start (CX := L2.CX P w) (E := E) (cd := cdv) Sc hr.hd e0 lv rv ic
  refine wpAny_mono (ht.run [] s1 (L2.start N vs) H _ I hq) (fun fl sZ hz => ?_) fun er sZ hz => hz
  cases fl with
  | ret u =>
    obtain ⟨v, σ', H', J, rr, q⟩ := hz
    exact ⟨v, H', J.os, J.bare, J.base, J.hok, rr, q⟩
  | next =>
    obtain ⟨σ', H', J, q⟩ := hz
    exact ⟨V.non, H', J.os, J.bare, J.base, J.hok, rfl, q⟩
  | brk =>
    obtain ⟨_, _, _, q⟩ := hz
    exact q.elim
  | cont =>
    obtain ⟨_, _, _, q⟩ := hz
    exact q.elim
abbrev TSq := List D → D → D → Mu → XT → (R → Mu → Prop) → Prop
def spP (P : Program) (w : World) (K : PySem.W.Frag) (mg : Str → Option Value) (base : Heap) (cl : Cl) (kp np : Nat) (psP fr : List Str) (Fp : TSp) (Fr : TSq) : List Env → Shared → Sp := fun outer s vs H Q E =>
  ∃ (f : Addr) (F : NF) (us : List V) (v0 v2 : V) (G : Gh) (μ : Mu) (d0 d2 : D) (cs : List D) (x : XT) (k : R → Mu → Prop), vs = [v0, .ref f, v2] ∧ Rep K cl G H μ ∧ Den K cl G v0 d0 ∧ Den K cl G v2 d2 ∧ fpR K cl f F us cs (.ref f) G ∧
    CellsAt F.cl fr (us.map some) s.heap H ∧ (∀ y c, F.cl.lookup y = some c → c ∉ frs outer) ∧ NOk P w K mg base (L2.CX P w) kp f F psP fr (spN K cl np Fp) ∧ Fr cs d0 d2 μ x k ∧
    (∀ r μ', k r μ' → ∀ v G' H', Ext K cl G H μ G' H' μ' → RelN K cl H G' H' μ' v r → Q v H') ∧
    (∀ c fs μ', x c fs μ' → ∀ C d G' H', cl c = some C → Ext K cl G H μ G' H' μ' → XdOk K cl G' H' μ' d fs → E (.ref C) d H')
def startP (n : Nat) (cs : List D) (d0 d2 : D) : SD := [some (.fz d0), some (.fn cs), some (.fz d2)] ++ List.replicate (n - 3) none
def runP (n : Nat) (ws : WS) : TSq := fun cs d0 d2 μ x k => ws ⟨fun _ μ' => k (.d .non) μ', k, fun _ _ => False, fun _ _ => False, fun c fs _ μ' => x c fs μ'⟩ (startP n cs d0 d2) μ
theorem slots_startP {wd : Wd} {G : Gh} {H : Hp} {μ : Mu} {N : List Str} {v0 v1 v2 : V} {d0 d2 : D} {cs : List D} (h0 : Den K wd.cl G v0 d0) (h1 : ∀ G1, GLe G G1 → wd.fp cs v1 G1) (h2 : Den K wd.cl G v2 d2) :
    Slots K wd H G H μ (L2.start N [v0, v1, v2]) (startP N.length cs d0 d2) := by
  have own : ∀ {j : Nat} {c : D}, (startP N.length cs d0 d2)[j]? = some (some (.own c)) → False := fun {j c} q => by
    unfold startP at q
    match j with
    | 0 => simp at q
    | 1 => simp at q
    | 2 => simp at q
    | j + 3 =>
      simp only [List.cons_append, List.nil_append, List.getElem?_cons_succ, List.getElem?_replicate] at q
      split at q <;> cases q
  refine ⟨by simp [startP, L2.start], fun i s q => ?_, fun i j v' c c' _ q1 _ _ _ => (own q1).elim⟩
  unfold startP at q
  match i with
  | 0 =>
    simp at q
    subst q
    exact ⟨v0, by simp [L2.start], h0⟩
  | 1 =>
    simp at q
    subst q
    exact ⟨v1, by simp [L2.start], h1⟩
  | 2 =>
    simp at q
    subst q
    exact ⟨v2, by simp [L2.start], h2⟩
  | j + 3 =>
    simp only [List.cons_append, List.nil_append, List.getElem?_cons_succ, List.getElem?_replicate] at q
    split at q <;> cases q
theorem fnPT {x qual : Str} {st : Stmt} {g : Addr} {fd : FuncData} {N ps : List Str} {k kp np : Nat} {psP fr : List Str} {Fp : TSp} {ws : WS} (Fd : Fun K x qual st g fd) (Sc : FnScope N ps (defScope st)) (h3 : ps.length = 3)
    (hbody : ∀ (cdv : Value) (A : Around) (outer : List Env) (s : Shared) (H : Hp) (E : XK) (f : Addr) (F : NF) (us : List V), Room k (A.deeper (envOfC qual (defScope st) s.heap.objs.size g cdv)) → CellsAt F.cl fr (us.map some) s.heap H → (∀ y c, F.cl.lookup y = some c → c ∉ frs outer) →
      NOk P w K mg base (L2.CX P w) kp f F psP fr (spN K cl np Fp) → QSs ⟨cl, fun cls d _ H => E cls d H, none, fpR K cl f F us⟩ (cxOf (L2.CX P w) P w K mg base N qual (defScope st) g cdv A outer s H E) (defBody st) ws) :
    FnOkP P w K mg base (k + 1) g fd ps (spP P w K mg base cl kp np psP fr Fp (runP N.length ws)) := by
  refine fnP_of Fd Sc (fun outer s vs H Q E h => ?_) fun cdv A outer s H vs Q E hr h => ?_
  · obtain ⟨f, F, us, v0, v2, G, μ, d0, d2, cs, x, k, e, _⟩ := h
    rw [e, h3]
    rfl
  · obtain ⟨f, F, us, v0, v2, G, μ, d0, d2, cs, x, k, e, rp, n0, n2, fp, ca, nf, no, hw, hk, hx⟩ := h
    subst e
    refine ⟨_, (hbody cdv A outer s H E f F us hr ca nf no).pss, ?_⟩
    refine ⟨G, H, μ, G, μ, startP N.length cs d0 d2, _, .refl rp, slots_startP n0 (fun G1 le => ⟨fp.1, le.fz _ _ fp.2.1, le.fz _ _ fp.2.2.1, DenL.mono le _ _ fp.2.2.2⟩) n2, hw, ?_⟩
    exact ⟨fun sd μ' q σ G' H' e hs => hk _ _ q .non G' H' e Den.non, fun sd μ' q => q.elim, fun sd μ' q => q.elim, fun r μ' q v G' H' e rel => hk r μ' q v G' H' e rel, fun c fs sd μ' q C d σ G' H' hc e hs xd => hx c fs μ' q C d G' H' hc e xd⟩
end
/-! ### .. is called -/
def capsOf (sd : SD) : List Nat → Option (List D)
  | [] => some []
  | j :: js => match sd[j]?, capsOf sd js with
    | some (some (.fz d)), some r => some (d :: r)
    | _, _ => none
section
variable {X : Cx} {wd : Wd}
theorem caps_ok {K : PySem.W.Frag} {G : Gh} {H0 H : Hp} {μ : Mu} {σ : L2.St} {sd : SD} (hs : Slots K wd H0 G H μ σ sd) : ∀ {js : List Nat} {cs : List D}, capsOf sd js = some cs → ∃ us : List V, js.map (slotAt σ) = us.map some ∧ DenL K wd.cl G us cs
  | [], cs, h => by cases h; exact ⟨[], rfl, .nil⟩
  | j :: js, cs, h => by
    rw [capsOf] at h
    split at h
    · rename_i d r e1 e2
      cases h
      obtain ⟨us, h1, h2⟩ := caps_ok hs e2
      obtain ⟨v, h3, h4⟩ := hs.at_ j _ e1
      exact ⟨v :: us, by rw [List.map_cons, List.map_cons, h1, slotAt_of h3], .cons h4 h2⟩
    · cases h
theorem cells_nf {pins : List (Addr × Obj)} {σ : L2.St} {H : Hp} {s : Shared} (I : Inv X pins σ H s) (hfn : ∀ y, X.fn y = true) {y : Str} {c : Addr} (h : X.env.cells.lookup y = some c) : c ∉ frs X.stack := fun hc => by
  rcases List.mem_cons.mp (I.stkSub c hc) with e | e
  · obtain ⟨v, o, ho, hd⟩ := I.cell y c h
    obtain ⟨m, ⟨o', es, ep, ho', hd', _⟩, _⟩ := I.loc
    rw [e] at ho
    rw [ho] at ho'
    cases ho'
    rw [hd] at hd'
    cases hd'
  · obtain ⟨_, o, ho, _⟩ := I.ok.funs.mem e
    have h1 := Heap.lt_size ho
    have h2 := I.ok.cab y c (hfn y) h
    exact absurd h2 (Nat.not_le_of_lt h1)
def wCallRun (i : Nat) (js : List Nat) (Fr : TSq) (w0 w2 : WE) : WE := fun sd μ x k => w0 sd μ x fun r0 μ1 => withT r0 fun d0 => (∃ cs0, sd[i]? = some (some (.fn cs0))) ∧ w2 sd μ1 x fun r2 μ2 => withT r2 fun d2 => ∃ cs, capsOf sd js = some cs ∧ Fr cs d0 d2 μ2 x k
theorem qe_callRun {x y : Str} {g : Addr} {fd : FuncData} {ps psP fr : List Str} {kr kp np i : Nat} {js : List Nat} {Fp : TSp} {Fr : TSq} {mk : Addr → NF} {cl0 : List (Str × Addr)} {e0 e2 : Expr} {w0 w2 : WE} {p py pos : Pos}
    (O : FnOkP X.prog X.w X.K X.mg X.base kr g fd ps (spP X.prog X.w X.K X.mg X.base wd.cl kp np psP fr Fp Fr)) (hr : Room kr X.A) (hm : X.mg x = some (.ref g)) (hkp : PySem.W.keepIn X.K (.ref g) = true) (hb : Binds X.K fd ps []) (tk : TakesE wd X)
    (hfp : wd.fp = fpM mk) (hcl : ∀ cc, (mk cc).cl = cl0) (cp : X.Ok → Caps X cl0 fr js) (hfn : ∀ y, X.fn y = true) (Fn : ∀ f cc, NOk X.prog X.w X.K X.mg X.base (L2.CX X.prog X.w) kp f (mk cc) psP fr (spN X.K wd.cl np Fp))
    (h0 : QE wd X e0 w0) (hN : X.N[i]? = some y) (hv : Vis X.env.scope y) (h2 : QE wd X e2 w2) (hg : Gl X x := by rfl) (hdb : (x == ("__debug__" : Str)) = false := by decide) (hd : (y == ("__debug__" : Str)) = false := by decide) (hcd : (y == ("__classdict__" : Str)) = false := by decide)
    (s0 : starEach [e0, .Name y py, e2] X.env = (false, eval e0 X.env) :: starEach [.Name y py, e2] X.env := by rfl) (s1 : starEach [.Name y py, e2] X.env = (false, eval (.Name y py) X.env) :: starEach [e2] X.env := by rfl) (s2 : starEach [e2] X.env = (false, eval e2 X.env) :: starEach [] X.env := by rfl)
    (hpl : (backTo pos (starEach [.Name y py, e2] X.env)).any (·.1) = false := by rfl) :
    QE wd X (.Call (.Name x p) [e0, .Name y py, e2] [] pos) (wCallRun i js Fr w0 w2) := by
  refine ⟨⟨fun pins s σ H Q I h => ?_⟩⟩
  obtain ⟨G0, H0, μ0, G, μ, sd, x', k', hx, hs, hw, hk, hxo⟩ := h
  refine wpAny_Call_Name_kw (ld_glob I hg hm ?_ hdb)
  have pa := pa_cons h0.pe (pa_cons (pe_var (pos := py) hN hv hd hcd) (pa_cons h2.pe pa_nil s2) s1) s0
  refine PySem.W.callWith_K (h₀ := X.base) I.ok.mod.kin hkp (thn (pa.run pos pins s σ H (fun vs H3 => ∃ v0 f v2 cc G3 μ3 d0 d2 cs, vs = [v0, .ref f, v2] ∧ Ext X.K wd.cl G H μ G3 H3 μ3 ∧ Den X.K wd.cl G3 v0 d0 ∧ Den X.K wd.cl G3 v2 d2 ∧
      G3.fz f = some (FnO f (mk cc)) ∧ G3.fz (mk cc).c = some (CodeO (mk cc).c (mk cc).qual) ∧ capsOf sd js = some cs ∧ Fr cs d0 d2 μ3 x' k') I ?_) fun us sB hB => ?_) s0 hpl
  · show tCons _ (tCons _ (tCons _ tNil)) σ H _
    refine ⟨G0, H0, μ0, G, μ, sd, x', _, hx, hs, hw, fun r0 μ1 q0 v0 G1 H1 e1 rel0 => ?_, hxo⟩
    obtain ⟨d0, hd0, ⟨cs0, hsl⟩, q0⟩ := withT_tree q0
    obtain ⟨G1', e1', s1', den0⟩ := keep e1 rel0 hd0
    obtain ⟨v, hσ, hfv⟩ := hs.at_ i _ hsl
    have hfv := hfv G1' e1'.g
    rw [hfp] at hfv
    obtain ⟨_, f, cc, ev, f1, f2⟩ := hfv
    subst ev
    refine ⟨_, hσ, ?_⟩
    refine ⟨G0, H0, μ0, G1', μ1, sd, x', _, hx.trans e1', hs.step e1', q0, fun r2 μ2 q2 v2 G2 H2 e2 rel2 => ?_, hxo.step e1'⟩
    obtain ⟨d2, hd2, cs, hcs, q2⟩ := withT_tree q2
    obtain ⟨G2', e2', s2', den2⟩ := keep e2 rel2 hd2
    exact ⟨v0, f, v2, cc, G2', μ2, d0, d2, cs, rfl, e1'.trans e2', Den.mono e2'.g _ _ den0, den2, e2'.g.fz _ _ f1, e2'.g.fz _ _ f2, hcs, q2⟩
  · obtain ⟨vs, HB, IB, rB, v0, f, v2, cc, G3, μ3, d0, d2, cs, evs, x3, n0, n2, f1, f2, hcs, hF⟩ := hB
    subst evs
    refine ⟨IB.kIn, ?_⟩
    obtain ⟨us0, e1, dl⟩ := caps_ok hs hcs
    have ca := cells_of IB (cp IB.ok)
    rw [e1] at ca
    have sp : spP X.prog X.w X.K X.mg X.base wd.cl kp np psP fr Fp Fr X.stack sB [v0, .ref f, v2] HB Q (L2.WE wd.W σ) :=
      ⟨f, mk cc, us0, v0, v2, G3, μ3, d0, d2, cs, x', k', rfl, x3.rep, n0, n2, ⟨rfl, f1, f2, DenL.mono x3.g _ _ dl⟩, by rw [hcl]; exact ca, fun z c hz => cells_nf IB hfn ((cp IB.ok).sub z c (by rw [hcl] at hz; exact hz)), Fn f cc, hF,
        fun r μ' q' v G' H' e' rel => hk r μ' q' v G' H' (x3.trans e') (rel.back fun a z => x3.dom a z).rel, fun c fs μ' q' C d G' H' hc e' xd => hxo c fs μ' q' C d G' H' hc (x3.trans e') xd⟩
    have hlv := O.len _ _ _ _ _ _ sp
    have bd := hb sB us IB.kIn (by rw [List.append_nil, ← rB.length]; exact hlv)
    rw [List.append_nil] at bd
    show wpAny _ _ (call (.ref g) us) _ _ _
    refine wpAny_call (codeAny_mono (O.run X.A X.stack sB HB ⟨us, []⟩ us _ Q (L2.WE wd.W σ) hr IB.env0 bd rB sp) fun r sC hq => ?_)
    cases r with
    | error er => exact tk σ pins HB sB er sC IB hq
    | ok fl =>
      cases fl with
      | ret u => exact IB.after hq
      | next => exact hq.elim
      | brk => exact hq.elim
      | cont => exact hq.elim
end
end TL
/-! TL: defs within defs as functions; the law's end with a table of code objects -/
namespace TL
open PySem PySem.Spec PyProof.Rows L2 LamX NdefX
open Classical
noncomputable section
def inDef (s : Stmt) (i : Nat) : Stmt := (defBody s).getD i (.Pass ⟨0, 0, 0, 0⟩)
/-! ### readings as functions -/
def fnAt (o : Option (Option SV)) : Option (List D) := match o with
  | some (some (.fn cs)) => some cs
  | _ => none
@[simp] theorem fnAt_fn {cs : List D} : fnAt (some (some (.fn cs))) = some cs := rfl
theorem fnAt_eq {o : Option (Option SV)} {cs : List D} (h : fnAt o = some cs) : o = some (some (.fn cs)) := by
  unfold fnAt at h
  split at h
  · cases h; rfl
  · cases h
def fzAt (o : Option (Option SV)) : Option D := match o with
  | some (some (.fz d)) => some d
  | _ => none
@[simp] theorem fzAt_fz {d : D} : fzAt (some (some (.fz d))) = some d := rfl
@[simp] theorem capsOf_nil {sd : SD} : capsOf sd [] = some [] := rfl
@[simp] theorem capsOf_cons {sd : SD} {j : Nat} {js : List Nat} : capsOf sd (j :: js) = (fzAt sd[j]?).bind fun d => (capsOf sd js).map fun r => d :: r := by
  rw [capsOf]
  generalize sd[j]? = o
  match o with
  | some (some (.fz d)) => cases capsOf sd js <;> rfl
  | some (some (.own d)) => rfl
  | some (some (.exc _ _)) => rfl
  | some (some (.fn _)) => rfl
  | some none => rfl
  | none => rfl
def ndefK (i : Nat) (ql : Str) (sd : SD) (μ : Mu) (o : Option Nd) : OS := match o with
  | some (.tab q) => if q = ql then .nx (sd.set i (some (.fn []))) μ else .no
  | _ => .no
@[simp] theorem ndefK_tab {i : Nat} {ql : Str} {sd : SD} {μ : Mu} : ndefK i ql sd μ (some (.tab ql)) = .nx (sd.set i (some (.fn []))) μ := if_pos rfl
def sNdef (i n : Nat) (ql : Str) : FS := fun sd μ => ndefK i ql sd μ μ[n]?
@[simp] theorem sNdef_ap {i n : Nat} {ql : Str} {sd : SD} {μ : Mu} : sNdef i n ql sd μ = ndefK i ql sd μ μ[n]? := rfl
section
variable {X : Cx} {wd : Wd}
theorem fs_ndef {st : Stmt} {nm ql : Str} {lp : Pos} {co : Addr} {i n : Nat} (hst : st = .FunctionDef nm (defArgs st) (defBody st) [] none [] (defScope st) none nm lp) (B : TabB X.base X.mg co wd.cl.tP) (hco : X.env.code = .ref co) (hq : X.env.qual ++ nm = ql)
    (hfree : ∀ y ∈ (defScope st).names, y.2 = .free → X.env.scope.names.lookup y.1 = some .cell ∨ X.env.scope.names.lookup y.1 = some .free) (hd0 : (defArgs st).defaults = []) (hk0 : (defArgs st).kw_defaults = []) (han : annTrees (defArgs st) none X.env = [])
    (hN : X.N.Nodup) (hi : X.N[i]? = some nm) (hx : Loc X.env.scope nm) (hfp : wd.fp = fpM (nfOf st nm ql (cloFrom X.env.cells (defScope st).names []))) (hf : X.fn nm = true ∨ X.env.scope.names.lookup nm = some .local) :
    QS wd X st (ofS (sNdef i n ql)) := (qs_ndef (n := n) hst B hco hq hfree hd0 hk0 han hN hi hx hfp hf).imp fun E sd μ h => by
  have h2 : (ndefK i ql sd μ μ[n]?).sat E := h
  generalize eo : μ[n]? = o at h2
  match o, h2 with
  | some (.tab q), h2 =>
    have h3 : (if q = ql then OS.nx (sd.set i (some (.fn []))) μ else .no).sat E := h2
    obtain ⟨e1, h4⟩ := sat_iteS h3
    subst e1
    exact ⟨eo, h4⟩
  | some (.box _), h2 => exact h2.elim
  | some (.ins _ _), h2 => exact h2.elim
  | none, h2 => exact h2.elim
end
def fCallFn (i np : Nat) (F : FF) (A : FA) : FE := fun sd μ => (Out.of (fnAt sd[i]?) μ).bind fun cs μ => (A sd μ).bind fun ds μ1 => if ds.length = np then F (ds ++ cs) μ1 else .no
@[simp] theorem fCallFn_ap {i np : Nat} {F : FF} {A : FA} {sd : SD} {μ : Mu} : fCallFn i np F A sd μ = (Out.of (fnAt sd[i]?) μ).bind fun cs μ => (A sd μ).bind fun ds μ1 => if ds.length = np then F (ds ++ cs) μ1 else .no := rfl
section
variable {X : Cx} {wd : Wd} {e : Expr} {es : List Expr} {A : FA} {p pos : Pos} {x : Str} {f : Addr} {F : NF} {us0 : List V} {psP fr : List Str} {kp np : Nat} {Fp : FF}
theorem fe_callFn {i : Nat} (hfp : wd.fp = fpR X.K wd.cl f F us0) (hC : CellsAt F.cl fr (us0.map some) X.s_0.heap X.H_0) (hnf : ∀ y c, F.cl.lookup y = some c → c ∉ X.fs) (hex : X.ex = []) (Fn : NOk X.prog X.w X.K X.mg X.base (L2.CX X.prog X.w) kp f F psP fr (spN X.K wd.cl np (ofF Fp)))
    (hr : Room kp X.A) (tk : TakesE wd X) (ha : QA wd X (e :: es) (ofA A)) (hN : X.N[i]? = some x := by rfl) (hv : Vis X.env.scope x := by first | exact Or.inl rfl | exact Or.inr (Or.inl rfl) | exact Or.inr (Or.inr rfl)) (hd : (x == ("__debug__" : Str)) = false := by decide) (hcd : (x == ("__classdict__" : Str)) = false := by decide)
    (he : starEach (e :: es) X.env = (false, eval e X.env) :: starEach es X.env := by rfl) (hpl : (backTo pos (starEach es X.env)).any (·.1) = false := by rfl) :
    QE wd X (.Call (.Name x p) (e :: es) [] pos) (ofE (fCallFn i np Fp A)) := (qe_callFn hfp hC hnf hex Fn hr tk hN hv ha hd hcd he hpl).imp fun sd μ x k h => by
  obtain ⟨cs, e1, h⟩ := sat_of (sat_bind h)
  refine ⟨cs, fnAt_eq e1, sat_mono (sat_bind h) fun ds μ1 h => ?_⟩
  obtain ⟨hl, h⟩ := sat_ite h
  exact ⟨hl, h⟩
end
abbrev FQ := List D → D → D → Mu → Out R
def ofQ (F : FQ) : TSq := fun cs d0 d2 μ x k => (F cs d0 d2 μ).sat x k
def runPF (n : Nat) (S : FS) : FQ := fun cs d0 d2 μ => runK (S (startP n cs d0 d2) μ)
theorem runPF_eq {n : Nat} {S : FS} {cs : List D} {d0 d2 : D} {μ : Mu} : runPF n S cs d0 d2 μ = runK (S (startP n cs d0 d2) μ) := rfl
theorem runPF_le {n : Nat} {S : FS} {cs : List D} {d0 d2 : D} {μ : Mu} {x : XT} {k : R → Mu → Prop} (h : ofQ (runPF n S) cs d0 d2 μ x k) : runP n (ofS S) cs d0 d2 μ x k := by
  have h : (runK (S (startP n cs d0 d2) μ)).sat x k := h
  show (S (startP n cs d0 d2) μ).sat _
  cases q : S (startP n cs d0 d2) μ <;> rw [q] at h <;> exact h
section
variable {P : Program} {w : World} {K : PySem.W.Frag} {mg : Str → Option Value} {base : Heap} {cl : Cl}
theorem FnOkP.imp {g : Addr} {fd : FuncData} {ps : List Str} {k : Nat} {sp sp' : List Env → Shared → Sp} (F : FnOkP P w K mg base k g fd ps sp) (h : ∀ o s vs H Q E, sp' o s vs H Q E → sp o s vs H Q E) : FnOkP P w K mg base k g fd ps sp' :=
  ⟨fun o s vs H Q E q => F.len o s vs H Q E (h _ _ _ _ _ _ q), fun A o s H ar us vs Q E hr he hb hv q => F.run A o s H ar us vs Q E hr he hb hv (h _ _ _ _ _ _ q)⟩
theorem FnOkP.mono {g : Addr} {fd : FuncData} {ps : List Str} {k j : Nat} {sp : List Env → Shared → Sp} (F : FnOkP P w K mg base j g fd ps sp) (h : j ≤ k) : FnOkP P w K mg base k g fd ps sp :=
  ⟨F.len, fun A o s H ar us vs Q E hr => F.run A o s H ar us vs Q E (hr.mono h)⟩
theorem fnPF {x qual : Str} {st : Stmt} {g : Addr} {fd : FuncData} {N ps : List Str} {k kp np : Nat} {psP fr : List Str} {Fp : TSp} {S : FS} (Fd : Fun K x qual st g fd) (Sc : FnScope N ps (defScope st)) (h3 : ps.length = 3)
    (hbody : ∀ (cdv : Value) (A : Around) (outer : List Env) (s : Shared) (H : Hp) (E : XK) (f : Addr) (F : NF) (us : List V), Room k (A.deeper (envOfC qual (defScope st) s.heap.objs.size g cdv)) → CellsAt F.cl fr (us.map some) s.heap H → (∀ y c, F.cl.lookup y = some c → c ∉ frs outer) →
      NOk P w K mg base (L2.CX P w) kp f F psP fr (spN K cl np Fp) → QSs ⟨cl, fun cls d _ H => E cls d H, none, fpR K cl f F us⟩ (cxOf (L2.CX P w) P w K mg base N qual (defScope st) g cdv A outer s H E) (defBody st) (ofS S)) :
    FnOkP P w K mg base (k + 1) g fd ps (spP P w K mg base cl kp np psP fr Fp (ofQ (runPF N.length S))) :=
  (fnPT Fd Sc h3 hbody).imp fun o s vs H Q E ⟨f, F, us, v0, v2, G, μ, d0, d2, cs, x, k, a1, a2, a3, a4, a5, a6, a7, a8, a9, a10, a11⟩ => ⟨f, F, us, v0, v2, G, μ, d0, d2, cs, x, k, a1, a2, a3, a4, a5, a6, a7, a8, runPF_le a9, a10, a11⟩
def OkP (P : Program) (w : World) (K : PySem.W.Frag) (mg : Str → Option Value) (base : Heap) (cl : Cl) (k : Nat) (g : Addr) (ps : List Str) (kp np : Nat) (psP fr : List Str) (Fp : FF) (F : FQ) : Prop :=
  ∃ fd, FnOkP P w K mg base k g fd ps (spP P w K mg base cl kp np psP fr (ofF Fp) (ofQ F)) ∧ Binds K fd ps [] ∧ PySem.W.keepIn K (.ref g) = true
/-- a def whose code object is known: a def stands in its body -/
structure FunC (K : PySem.W.Frag) (x qual : Str) (st : Stmt) (f : Addr) (fd : FuncData) (co : Addr) : Prop where
  ex : ∃ (oc : Value) (od : Option Addr) (kV dc pm : Value) (an : Option Addr) (ct : Value) (sl : Array (Option Value)),
    fd = PySem.W.fnOf x qual (defArgs st) (defBody st) (defScope st) .none kV dc pm an (.ref co) ct ∧ K.lookup f = some ⟨oc, od, .func fd, sl⟩ ∧ PySem.W.codeIn K (.ref co) qual = true
  kp : PySem.W.keepIn K (.ref f) = true
theorem FunC.fn {x qual : Str} {st : Stmt} {f co : Addr} {fd : FuncData} (F : FunC K x qual st f fd co) : Fun K x qual st f fd := by
  obtain ⟨oc, od, kV, dc, pm, an, ct, sl, h1, h2, h3⟩ := F.ex
  exact ⟨⟨oc, od, kV, dc, pm, an, .ref co, ct, sl, h1, h2, h3⟩, F.kp⟩
theorem fnFC {x qual : Str} {st : Stmt} {f co : Addr} {fd : FuncData} {N ps : List Str} {k : Nat} {S : FS} (Fd : FunC K x qual st f fd co) (Sc : FnScope N ps (defScope st)) (fp : Shared → List D → V → Gh → Prop)
    (hbody : ∀ (A : Around) (outer : List Env) (s : Shared) (H : Hp) (E : XK), Room k (A.deeper (envOfC qual (defScope st) s.heap.objs.size f (.ref co))) →
      QSs ⟨cl, fun cls d _ H => E cls d H, none, fp s⟩ (cxOf (L2.CX P w) P w K mg base N qual (defScope st) f (.ref co) A outer s H E) (defBody st) (ofS S)) :
    FnOk P w K mg base (L2.CX P w) (k + 1) f fd ps (spT K cl ps.length (ofF (runF N.length S))) := by
  obtain ⟨oc, od, kV, dc, pm, an, ct, sl, rfl, lk, hcd⟩ := Fd.ex
  refine fn_of lk hcd Sc (fun vs H Q E ⟨G, μ, ds, x, k, hn, _, hd, _⟩ => by rw [hd.len, hn]) fun A outer s H vs Q E hr h => ⟨_, (hbody A outer s H E hr).pss, ?_⟩
  obtain ⟨G, μ, ds, x, k', hn, rp, hd, hw, hk, hx⟩ := h
  refine ⟨G, H, μ, G, μ, startD N.length ds, _, .refl rp, slots_start hd, runF_le hw, ?_⟩
  exact ⟨fun sd μ' q σ G' H' e hs => hk _ _ q .non G' H' e Den.non, fun sd μ' q => q.elim, fun sd μ' q => q.elim, fun r μ' q v G' H' e rel => hk r μ' q v G' H' e rel, fun c fs sd μ' q C d σ G' H' hc e hs xd => hx c fs μ' q C d G' H' hc e xd⟩
end
def fCallRun (i : Nat) (js : List Nat) (Fr : FQ) (A B : FE) : FE := fun sd μ => (A sd μ).bind fun r0 μ1 => (Out.of r0.tree μ1).bind fun d0 μ1 => (Out.of (fnAt sd[i]?) μ1).bind fun _ μ1 => (B sd μ1).bind fun r2 μ2 => (Out.of r2.tree μ2).bind fun d2 μ2 => (Out.of (capsOf sd js) μ2).bind fun cs μ2 => Fr cs d0 d2 μ2
@[simp] theorem fCallRun_ap {i : Nat} {js : List Nat} {Fr : FQ} {A B : FE} {sd : SD} {μ : Mu} : fCallRun i js Fr A B sd μ = (A sd μ).bind fun r0 μ1 => (Out.of r0.tree μ1).bind fun d0 μ1 => (Out.of (fnAt sd[i]?) μ1).bind fun _ μ1 => (B sd μ1).bind fun r2 μ2 => (Out.of r2.tree μ2).bind fun d2 μ2 => (Out.of (capsOf sd js) μ2).bind fun cs μ2 => Fr cs d0 d2 μ2 := rfl
theorem withT_of {r : R} {d : D} {k : D → Prop} (h : r.tree = some d) (q : k d) : withT r k := by
  cases r with
  | d x => cases h; exact q
  | new x => cases h; exact q
  | «at» i => cases h
section
variable {X : Cx} {wd : Wd}
theorem fe_callRun {x y : Str} {g : Addr} {ps psP fr : List Str} {kr kp np i : Nat} {js : List Nat} {Fp : FF} {Fr : FQ} {mk : Addr → NF} {cl0 : List (Str × Addr)} {e0 e2 : Expr} {A B : FE} {p py pos : Pos}
    (O : OkP X.prog X.w X.K X.mg X.base wd.cl kr g ps kp np psP fr Fp Fr) (hr : Room kr X.A) (hm : X.mg x = some (.ref g)) (tk : TakesE wd X)
    (hfp : wd.fp = fpM mk) (hcl : ∀ cc, (mk cc).cl = cl0) (cp : X.Ok → Caps X cl0 fr js) (hfn : ∀ y, X.fn y = true) (Fn : ∀ f cc, NOk X.prog X.w X.K X.mg X.base (L2.CX X.prog X.w) kp f (mk cc) psP fr (spN X.K wd.cl np (ofF Fp)))
    (h0 : QE wd X e0 (ofE A)) (h2 : QE wd X e2 (ofE B)) (hN : X.N[i]? = some y := by rfl) (hv : Vis X.env.scope y := by first | exact Or.inl rfl | exact Or.inr (Or.inl rfl) | exact Or.inr (Or.inr rfl)) (hg : Gl X x := by rfl) (hdb : (x == ("__debug__" : Str)) = false := by decide) (hd : (y == ("__debug__" : Str)) = false := by decide) (hcd : (y == ("__classdict__" : Str)) = false := by decide)
    (s0 : starEach [e0, .Name y py, e2] X.env = (false, eval e0 X.env) :: starEach [.Name y py, e2] X.env := by rfl) (s1 : starEach [.Name y py, e2] X.env = (false, eval (.Name y py) X.env) :: starEach [e2] X.env := by rfl) (s2 : starEach [e2] X.env = (false, eval e2 X.env) :: starEach [] X.env := by rfl)
    (hpl : (backTo pos (starEach [.Name y py, e2] X.env)).any (·.1) = false := by rfl) :
    QE wd X (.Call (.Name x p) [e0, .Name y py, e2] [] pos) (ofE (fCallRun i js Fr A B)) := by
  obtain ⟨fd, F, b, kpp⟩ := O
  refine (qe_callRun (js := js) F hr hm kpp b tk hfp hcl cp hfn Fn h0 hN hv h2 hg hdb hd hcd s0 s1 s2 hpl).imp fun sd μ x k h => ?_
  refine sat_mono (sat_bind h) fun r0 μ1 h => ?_
  obtain ⟨d0, t0, h⟩ := sat_of (sat_bind h)
  obtain ⟨c0, f0, h⟩ := sat_of (sat_bind h)
  refine withT_of t0 ⟨⟨c0, fnAt_eq f0⟩, sat_mono (sat_bind h) fun r2 μ2 h => ?_⟩
  obtain ⟨d2, t2, h⟩ := sat_of (sat_bind h)
  obtain ⟨cs, e1, h⟩ := sat_of (sat_bind h)
  exact withT_of t2 ⟨cs, e1, h⟩
end
/-! ### the law's end -/
def HoldsFT (F : FF) (ql : Str) : Prop := ∀ ns : List Int, ns.length ≤ 63 → (∀ z ∈ ns, Builtin.Int.intBits z ≤ 1048576) → ∃ μ, F [.lst (ns.map D.int)] [.tab ql] = .ok (.d (.bl true)) μ
theorem law_endT {K : PySem.W.Frag} {cl : Cl} {F : FF} {ql : Str} (h : HoldsFT F ql) (H : Hp) (a : Addr) (ns : List Int) (hl : ns.length ≤ 63) (hb : ∀ z ∈ ns, Builtin.Int.intBits z ≤ 1048576) (hT : H cl.tP = some (.tbl #[])) (hS : SqL K H a (ns.map V.int)) :
    spT K cl 1 (ofF F) [.ref a] H (fun v _ => v = .bl true) fun _ _ _ => False := by
  obtain ⟨μ, e⟩ := h ns hl hb
  have atT : (fun b => if b = cl.tP then (none : Option HO) else H b) cl.tP = none := if_pos rfl
  have ne : ∀ {b : Addr} {u : HO}, H b = some u → (∀ ps, u ≠ .tbl ps) → (fun b => if b = cl.tP then (none : Option HO) else H b) b = some u := fun {b u} e1 e2 => by
    have nb : b ≠ cl.tP := fun z => by rw [z, hT] at e1; cases e1; exact e2 _ rfl
    show (if b = cl.tP then none else H b) = some u
    rw [if_neg nb]
    exact e1
  refine ⟨⟨fun b => if b = cl.tP then none else H b, [cl.tP]⟩, [.tab ql], [.lst (ns.map D.int)], fun _ _ _ => False, fun r _ => r = .d (.bl true), rfl, ⟨fun b u e1 => ?_, rfl, by simp, fun n b q => ?_⟩, .one (.lst ?_ (DenL.ints ns)), ?_, fun r μ' q v G' H' ex rel => ?_, fun c fs μ' q => q.elim⟩
  · have e1 : (if b = cl.tP then none else H b) = some u := e1
    split at e1
    · cases e1
    · exact e1
  · cases n with
    | succ n => simp at q
    | zero =>
      have eb : cl.tP = b := by simpa using q
      subst eb
      exact ⟨atT, .tab ql, .tbl #[], rfl, hT, rfl, True.intro, fun p2 cv hc => by
        have z : codeAmong p2 [] = some cv := hc
        simp [codeAmong] at z⟩
  · rcases hS with (hS | ⟨o, hS⟩) | hS
    · exact .inl (.inl (ne hS fun ps z => by cases z))
    · exact .inl (.inr ⟨o, ne hS fun ps z => by cases z⟩)
    · exact .inr hS
  · show (F [.lst (ns.map D.int)] [.tab ql]).sat _ _
    rw [e]
    rfl
  · subst q
    cases rel
    rfl
/-- the end, for a law some def of which makes a def -/
theorem walk_tab {l : PySem.W.OpenLaw} {n k : Nat} {q : Program} {loose : List Str} {XP : (Str → Option Value) → Heap → Prop} {YP : World → Heap → Prop} {d : DefRec} {K : Params → PySem.W.Frag} {CX : World → CXT} {x xn : Str}
    (hn : l.most = some n) (hn2 : n ≤ sizeLine) (hdf : d.params.defaults = []) (hr : Room k callerA) (hrec : ((recsOf q).any fun e => e.name == xn) = true) (hY : ∀ (w : World) (h : Heap), YP w h → (K w.params).In h)
    (F : ∀ (w : World) (mg : Str → Option Value) (fa : Addr) (h : Heap), (K w.params).In h → h.Ns mainGlobals mg → mg d.name = some (.ref fa) → (∀ f, mg xn = some (.ref f) → OwnTab (K w.params) f h) → LawAtS l w (K w.params) (CX w) k n x mg fa h)
    (hCX : ∀ (w : World) (H : Hp) (s : Shared) (e : Value) (s' : Shared), CX w [] H s (fun _ _ _ => False) e s' → False) : PySem.W.WalkO q loose XP YP l.row.toRowW d [] (fun f vs => PySem.call f vs) := by
  refine Att.attach_callB hn hdf fun w s0 sH mg mb fa ob pm cd dc a vs ns G Y ho hd hcd hmg hob hin hle hbi hge => ?_
  have KX := hY w _ Y
  have own : ∀ f, mg xn = some (.ref f) → OwnTab (K w.params) f sH.heap := fun f hf c P o1 fd1 e dd vs1 sl k1 k2 k3 k4 k5 => by
    obtain ⟨dr, hmem, hnm⟩ := List.any_eq_true.mp hrec
    have hnm : dr.name = xn := beq_iff_eq.mp hnm
    obtain ⟨a', o', fd', c', P', h1, h2, h3, h4, h5, h6⟩ := G.T.tab dr hmem
    rw [hnm, hf] at h1
    cases h1
    rw [KX _ _ k1] at h2
    cases h2
    rw [k2] at h3
    cases h3
    rw [k3] at h4
    cases h4
    obtain ⟨⟨oc, vc, e1, _, e3, e4⟩, hP⟩ := h6
    rw [KX _ _ k4] at e1
    cases e1
    cases e3
    rw [k5] at e4
    cases e4
    exact hP
  obtain ⟨fd, cs, sp, t1, t2, t3, t4, t5, t6⟩ := F w mg fa _ KX G.T.g hmg own
  exact law_callTs KX G.T.g G.T.b G.T.builtins G.T.nolimit hge t1 t2 t3 G.T.bmain hob hin (Nat.le_trans hle hn2) hr t6 t4 (fun H hH hS => t5 H a ns hle hbi hH hS) fun H e s' => hCX w H sH e s'
/-- a code object with its table, by the text -/
def chdB (tv : Array Value) (P : Addr) : Bool := (match (tv[11]? : Option Value) with | some (.ref P') => P' == P | _ => false) &&
  (match tv.getD 18 .none with | .str _ _ => true | _ => false) && (match tv.getD 7 .none with | .int _ _ => true | _ => false) && (match tv.getD 9 .none with | .bool _ => true | _ => false) && (match tv.getD 10 .none with | .int _ _ => true | _ => false)
theorem codeHd_mk {K : PySem.W.Frag} {h : Heap} {tc tP : Addr} {td : Option Addr} {tv : Array Value} {ts : Array (Option Value)} (X : K.In h) (l : K.lookup tc = some ⟨.type "code", td, .fields tv, ts⟩) (b : chdB tv tP = true) (ne : (tc != tP) = true) : PySem.W.CodeHd h tc tP := by
  refine PySem.W.codeHd_of_K X ?_
  unfold PySem.W.codeHdIn
  rw [l]
  unfold chdB at b
  show (_ && _) = true
  rw [Bool.and_eq_true]
  exact ⟨b, ne⟩
theorem law_atT {l : PySem.W.OpenLaw} {w : World} {K : PySem.W.Frag} {mg : Str → Option Value} {fa fx tC tP : Addr} {h : Heap} {td od : Option Addr} {tv : Array Value} {ts sl : Array (Option Value)} {oc : Value} {fd fdx : FuncData} {cl : Cl} {k : Nat} {F : FF} {ql : Str}
    (X : K.In h) (own : OwnTab K fx h) (lx : K.lookup fx = some ⟨oc, od, .func fdx, sl⟩) (hc : fdx.code = .ref tC) (lt : K.lookup tC = some ⟨.type "code", td, .fields tv, ts⟩) (t11 : (tv[11]? : Option Value) = some (.ref tP)) (hch : chdB tv tP = true) (hne : (tC != tP) = true) (hno : K.lookup tP = none)
    (hw : HoldsFT F ql) (hcl : cl.tP = tP) (hb : ∀ (s : Shared) (u : Value), BindsTo s fd ⟨[u], []⟩ [("_law_script", u)]) (hF : ∀ base : Heap, K.In base → base.Ns mainGlobals mg → TabB base mg tC tP → FnOk l.prog w K mg base (L2.CX l.prog w) k fa fd ["_law_script"] (spT K cl 1 (ofF F))) :
    LawAtS l w K (L2.CX l.prog w) k 63 "_law_script" mg fa h := by
  subst hcl
  refine ⟨fd, [(tC, cl.tP)], spT K cl 1 (ofF F), fun p hp => ?_, fun p hp => ?_, fun p hp => ?_, hb, fun H a ns hl hbt hT hS => law_endT hw H a ns hl hbt (hT (tC, cl.tP) (List.mem_singleton.mpr rfl)) hS, fun base h1 h2 tb => hF base h1 h2 (tb _ (List.mem_singleton.mpr rfl))⟩
  · rw [List.mem_singleton.mp hp]
    exact own tC cl.tP _ _ _ _ _ _ lx rfl hc lt t11
  · rw [List.mem_singleton.mp hp]
    exact hno
  · rw [List.mem_singleton.mp hp]
    exact codeHd_mk X lt hch hne
end
end TL
/-! TL: d.items() of a dict with tuples as keys -/
namespace TL
open PySem PySem.Spec PyProof.Rows L2
/-- the items of the dict at a -/
def Itx (P : Program) (w : World) (a : Addr) (ep : Nat) (xs : List (NestedKey × Addr × Value)) : It :=
  ⟨fun i H => Rd H a (.ext (DicT P w a ep xs)) ∧ (∀ x ∈ xs, ∃ v, RelV v x.2.2) ∧ i < xs.length,
   fun i H x H' => ∃ T k b u v, xs[i]? = some (k, b, u) ∧ RelV v u ∧ x = .ref T ∧ H T = none ∧ H' = upd H T (.tup [.ref b, v]),
   fun i H => Rd H a (.ext (DicT P w a ep xs)) ∧ xs.length ≤ i⟩
theorem dicT_raw {P : Program} {w : World} {h : Heap} {a : Addr} {ep : Nat} {xs : List (NestedKey × Addr × Value)} (d : DicT P w a ep xs h) : (a == sysModules) = false ∧ ∃ (o : Obj) (es : Array DictEntry), h.get? a = some o ∧ o.ExactDict ∧ o.data = .dict es ep ∧ es.size = xs.length ∧ ∀ i : Nat, es[i]? = (xs[i]?).map (entryOfKey (nestedKind P w)) := by
  obtain ⟨h1, h2, h3, o, es, h4, h5, h6, h7, h8⟩ := d
  exact ⟨h2, o, es, h4, h5, h6, size_of_entries h7, fun i => entry_at h7 i⟩
section
variable {P : Program} {w : World} {K : PySem.W.Frag} {a : Addr} {ep : Nat} {xs : List (NestedKey × Addr × Value)}
theorem turn_itemsX {elts : List Expr} {kk : Nat} {tpos : Pos} (it : Addr) :
    Turn P w K (.Tuple elts kk tpos) (Itx P w a ep xs) [it] it (fun i h => ∃ ok ov, IsItemIter h it a i xs.length ep ok ov) where
  mem := by simp
  obj := fun i h st b hb => by
    have e : b = it := by simpa using hb
    subst e
    obtain ⟨ok, ov, e⟩ := st
    exact ⟨_, e, fun v z => nomatch z⟩
  keep := fun i h h' st k => let ⟨ok, ov, e⟩ := st; ⟨ok, ov, k it (by simp) _ e⟩
  item := by
    intro X hP hw hK hc i pins s σ H E I hf st hg
    subst hP hw hK
    obtain ⟨hd, hr, hi⟩ := hg
    obtain ⟨hs, o, es, h4, h5, h6, hsz, hen⟩ := dicT_raw (dicT_rd I.hok hd)
    have hm : s.heap.DictRaw a es ep := ⟨o, h4, h5, h6⟩
    obtain ⟨⟨k, b, u⟩, hkv⟩ : ∃ p, xs[i]? = some p := ⟨xs[i], List.getElem?_eq_getElem hi⟩
    obtain ⟨v, ru⟩ := hr _ (List.mem_of_getElem? hkv)
    obtain ⟨ok, ov, he⟩ := st
    rw [← hsz] at he
    have hlt : it < s.heap.objs.size := Heap.lt_size he
    have hie : i < es.size := by omega
    have hei := hen i
    rw [hkv, Array.getElem?_eq_getElem hie] at hei
    have hei2 : es[i] = entryOfKey (nestedKind X.prog X.w) (k, b, u) := Option.some.inj hei
    refine wpAny_pyNext_items_item_raw he hm hie fun h' ho hT hz hk => ?_
    rw [hei2] at ho hT
    refine ⟨_, rfl, wpAny_letOwnedTupleGo_items (s := { s with heap := h' }) ho fun h'' he' sb => ?_⟩
    have hT2 : h''.get? s.heap.objs.size = some { cls := .type "tuple", data := .seq #[.ref b, u] } := (sb.2 _ (Nat.ne_of_gt hlt)).trans hT
    have new : ObjOk X.prog X.w (upd H s.heap.objs.size (.tup [.ref b, v])) h'' s.heap.objs.size (.tup [.ref b, v]) :=
      ⟨by show 2 ≤ sizeLine; decide, [.ref b, u], .cons rfl (.cons ru .nil), ⟨_, hT2, rfl, _, rfl⟩⟩
    have I1 : Inv X pins σ (upd H s.heap.objs.size (.tup [.ref b, v])) { s with heap := h'' } :=
      I.turnedNew (t' := s.toks) (ch := [it]) (fun b ob hb e => (sb.2 b (by simpa using hb)).trans (hk b ob (by simpa using hb) e)) hf (Nat.le_refl _) new
    refine ⟨.ref s.heap.objs.size, _, I1, rfl, ⟨_, k, b, u, v, hkv, ru, rfl, I.hok.fresh (Nat.le_refl _), rfl⟩, ⟨.ref b, u, ?_⟩, fun b hb => ?_⟩
    · rw [← hsz]; exact he'
    · have e : b = it := by simpa using hb
      rw [e, upd_ne (Nat.ne_of_lt hlt)]
      exact (hf it (by simp)).1
  done := by
    intro X hP hw hK hc i pins s σ H E I hf st hg
    subst hP hw hK
    obtain ⟨hd, hi⟩ := hg
    obtain ⟨f0, f1, f2, f3, f4, f5⟩ := hf it (by simp)
    obtain ⟨hs, o, es, h4, h5, h6, hsz, hen⟩ := dicT_raw (dicT_rd I.hok hd)
    have hm : s.heap.DictRaw a es ep := ⟨o, h4, h5, h6⟩
    obtain ⟨ok, ov, he⟩ := st
    rw [← hsz] at he
    exact wpAny_pyNext_items_end_raw (I.ok.hd hc) he hm (by omega) fun h' eb => ⟨rfl, I.turned (t' := s.toks) (fun b ob hb e => eb b ob hb e) f0 f1 f3 f4 f5⟩
  self := fun A i s Q E st h => let ⟨_, _, e⟩ := st; PySem.W.kcp_self e h
theorem denT_len {K : PySem.W.Frag} {cl : Cl} {G : Gh} : ∀ {xs : List (NestedKey × Addr × Value)} {ds : List (NestedKey × D)}, DenT K cl G xs ds → xs.length = ds.length
  | _, _, .nil => rfl
  | _, _, .cons _ _ _ h => by simp [denT_len h]
theorem denT_vals {K : PySem.W.Frag} {cl : Cl} {G : Gh} : ∀ {xs : List (NestedKey × Addr × Value)} {ds : List (NestedKey × D)}, DenT K cl G xs ds → ∀ x ∈ xs, ∃ v, RelV v x.2.2
  | _, _, .nil => by simp
  | _, _, .cons h0 h1 h2 h => fun x hx => by
    rcases List.mem_cons.mp hx with z | z
    · rw [z]; exact ⟨_, h1⟩
    · exact denT_vals h x z
theorem denT_at {K : PySem.W.Frag} {cl : Cl} {G : Gh} : ∀ {xs : List (NestedKey × Addr × Value)} {ds : List (NestedKey × D)}, DenT K cl G xs ds → ∀ {i : Nat} {k : NestedKey} {b : Addr} {u : Value}, xs[i]? = some (k, b, u) → ∃ d v, ds[i]? = some (k, d) ∧ KDen K G.fz (.ref b) k ∧ RelV v u ∧ Den K cl G v d
  | _, _, .nil, i, k, b, u, h => by simp at h
  | _, _, .cons h0 h1 h2 h3, 0, k, b, u, h => by simp at h; obtain ⟨rfl, rfl, rfl⟩ := h; exact ⟨_, _, rfl, h0, h1, h2⟩
  | _, _, .cons h0 h1 h2 h3, i + 1, k, b, u, h => by simpa using denT_at h3 (i := i) (k := k) (b := b) (u := u) (by simpa using h)
theorem walk_itemsX {cl : Cl} {G : Gh} {ds : List (NestedKey × D)} (hd : DenT K cl G xs ds) : Walk (Itx P w a ep xs) ds.length (fun H => Rd H a (.ext (DicT P w a ep xs))) (fun i H x H' => ∃ T k b u v, xs[i]? = some (k, b, u) ∧ RelV v u ∧ x = .ref T ∧ H T = none ∧ H' = upd H T (.tup [.ref b, v])) := by
  have hl := denT_len hd
  exact ⟨fun _ _ hi q => ⟨q, denT_vals hd, by omega⟩, fun _ q => ⟨q, by omega⟩, fun _ _ _ _ _ _ y => y⟩
end
/-- the pairs of a dict -/
def itD (ds : List (NestedKey × D)) : List D := ds.map fun p => .tup [kD p.1, p.2]
theorem goes_items {K : PySem.W.Frag} {cl : Cl} {G : Gh} {a : Addr} {ep : Nat} {xs : List (NestedKey × Addr × Value)} {ds : List (NestedKey × D)} (h : Rd G.fz a (.ext (DicT cl.P cl.w a ep xs))) (hd : DenT K cl G xs ds) : Goes K cl G (Itx cl.P cl.w a ep xs) (itD ds) none := by
  have hl : (itD ds).length = ds.length := by simp [itD]
  refine ⟨_, _, hl ▸ walk_itemsX hd, fun G2 H μ2 s r _ => rd_same (s.fz.trans r.sub) h, fun i H x H' y G2 μ2 s2 r _ => ?_⟩
  obtain ⟨T, k, b, u, v, e1, e2, rfl, e4, rfl⟩ := y
  obtain ⟨d, v', f1, f2, f3, f4⟩ := denT_at hd e1
  have ev : v = v' := e2.inj f3
  subst ev
  have hx := Ext.loose r (o := .tup [.ref b, v]) e4
  have s3 : GLe G2 (gput G2 T (.tup [.ref b, v])) := gle_put (r.free e4).1
  have s4 := s2.trans s3
  exact ⟨_, .tup [kD k, d], by simp [itD, f1], Ext.frozen r e4, .tup (.inl (.inl upd_same)) (.cons (KDen.den k _ (KDen.mono s4.fz k _ f2)) (.cons (Den.mono s4 _ _ f4) .nil))⟩
def iItemsX (P : Program) (w : World) (td : TE) : TI := fun σ H R => td σ H fun x H1 => ∃ d ep xs, x = .ref d ∧ Rd H1 d (.ext (DicT P w d ep xs)) ∧ R (Itx P w d ep xs) H1
section
variable {X : Cx} {wd : Wd} {e : Expr} {td : TE} {w : WE} {A : FE} {apos cpos tpos : Pos} {elts : List Expr} {kk : Nat}
theorem pi_itemsX (he : PE X e td) (hbase : attributeBase e "items" X.env (eval e X.env) = eval e X.env := by rfl) (hline : (apos.endLine == cpos.line) = true := by rfl) :
    PI X (.Tuple elts kk tpos) (.Call (.Attribute e "items" apos) [] [] cpos) (iItemsX X.prog X.w td) := by
  refine ⟨fun pins s σ H R I h => ?_⟩
  refine wpAny_Call_method (T := "dict") (id := "dict.items") hbase rfl hline F.plainAttrs_dict F.slot_dict_items F.type_dict_items (thn (he.run pins s σ H _ I h) fun u s1 ⟨x, H1, I1, rx, d, ep, xs, ex, hd, q⟩ => ?_)
  subst ex
  obtain rfl : u = Value.ref d := rx
  obtain ⟨hs, o, es, h4, h5, h6, hsz, hen⟩ := dicT_raw (dicT_rd I1.hok hd)
  have hm : s1.heap.DictRaw d es ep := ⟨o, h4, h5, h6⟩
  refine ⟨hm.typeIs, fun b q => by cases q; exact ⟨o, h4, h5.2.1⟩, ?_⟩
  have I2 : Inv X pins σ H1 { s1 with heap := s1.heap.push { cls := .type "dict_items", data := .fields #[.ref d] } } := I1.kept (t' := s1.toks) fun b ob q => Heap.get?_push_of_some _ q
  have hm2 : (s1.heap.push { cls := .type "dict_items", data := .fields #[.ref d] }).DictRaw d es ep := ⟨o, Heap.get?_push_of_some _ h4, h5, h6⟩
  have fin : wpAny (model X.prog X.w) X.A (pyIter (.ref s1.heap.objs.size)) (PIE X pins σ (.Tuple elts kk tpos) R) X.xe { s1 with heap := s1.heap.push { cls := .type "dict_items", data := .fields #[.ref d] } } := by
    refine wpAny_pyIter_items_raw (d := d) ⟨_, Heap.get?_push_size _ rfl, rfl, rfl⟩ hm2 (pi_one (tk := s1.toks) I2 _ (turn_itemsX _) ⟨.none, .none, ?_⟩ q)
    rw [← hsz]
    exact Heap.get?_push_size _ rfl
  show wpAny _ _ (callWith cpos (.builtin "dict.items") [.ref d] [] []) _ X.xe s1
  exact method_meetsIn F.slot_dict_items F.entry_dict_items rfl (PySem.evalArgs_none ⟨rfl, hm.typeIs, F.args_dict_items_1 _, _, meets_dict_items_raw d hs, ⟨⟨es, ep, hm⟩, fin⟩⟩)
def wiItems (w : WE) : WI := fun sd μ x k => w sd μ x fun r μ1 => match r with
  | .d (.dic true ds) => k (itD ds) none μ1
  | .new (.dic true ds) => k (itD ds) none μ1
  | _ => False
theorem qi_items (cp : CurP wd X) (h : QE wd X e w) (hbase : attributeBase e "items" X.env (eval e X.env) = eval e X.env := by rfl) (hline : (apos.endLine == cpos.line) = true := by rfl) : QI wd X (.Tuple elts kk tpos) (.Call (.Attribute e "items" apos) [] [] cpos) (wiItems w) := by
  refine ⟨PI.imp (pi_itemsX h.pe hbase hline) fun σ H R ⟨G0, H0, μ0, G, μ, sd, x, k, hx, hs, hw, hk, hxo⟩ => ?_⟩
  refine ⟨G0, H0, μ0, G, μ, sd, x, _, hx, hs, hw, fun r μ1 q v G1 H1 e1 rel => ?_, hxo⟩
  have done : ∀ {G2 : Gh} {t : Bool} {ds : List (NestedKey × D)}, Ext X.K wd.cl G H μ G2 H1 μ1 → Den X.K wd.cl G2 v (.dic t ds) → t = true → k (itD ds) none μ1 → ∃ d ep xs, v = .ref d ∧ Rd H1 d (.ext (DicT X.prog X.w d ep xs)) ∧ R (Itx X.prog X.w d ep xs) H1 := by
    intro G2 t ds e2 den ht hq
    cases den with
    | dicK _ _ => cases ht
    | @dicT a ep xs _ q1 q2 =>
      have g := goes_items q1 q2
      rw [cp.p, cp.w] at q1 g
      exact ⟨a, ep, xs, rfl, rd_same e2.rep.sub q1, hk _ _ _ hq _ _ _ e2 g⟩
  cases r with
  | «at» i => exact q.elim
  | new c =>
    cases c <;> try exact q.elim
    rename_i t ds
    cases t with
    | false => exact q.elim
    | true =>
      obtain ⟨G1', e1', s1, den⟩ := keep (x := .dic true ds) e1 rel rfl
      exact done e1' den rfl q
  | d y =>
    cases y <;> try exact q.elim
    rename_i t ds
    cases t with
    | false => exact q.elim
    | true => exact done e1 rel rfl q
def itmOf (r : R) : Option (List D × Lk) := match r with
  | .d (.dic true ds) => some (itD ds, none)
  | .new (.dic true ds) => some (itD ds, none)
  | _ => none
def fiItems (A : FE) : FI := fun sd μ => (A sd μ).bind fun r μ1 => Out.of (itmOf r) μ1
@[simp] theorem fiItems_ap {sd : SD} {μ : Mu} : fiItems A sd μ = (A sd μ).bind fun r μ1 => Out.of (itmOf r) μ1 := rfl
@[simp] theorem itmOf_d {ds : List (NestedKey × D)} : itmOf (.d (.dic true ds)) = some (itD ds, none) := rfl
@[simp] theorem itmOf_new {ds : List (NestedKey × D)} : itmOf (.new (.dic true ds)) = some (itD ds, none) := rfl
theorem fi_items (cp : CurP wd X) (h : QE wd X e (ofE A)) (hbase : attributeBase e "items" X.env (eval e X.env) = eval e X.env := by rfl) (hline : (apos.endLine == cpos.line) = true := by rfl) : QI wd X (.Tuple elts kk tpos) (.Call (.Attribute e "items" apos) [] [] cpos) (ofI (fiItems A)) := (qi_items cp h hbase hline).imp fun sd μ x k h => sat_mono (sat_bind h) fun r μ1 h => by
  obtain ⟨p, e, q⟩ := sat_of h
  unfold itmOf at e
  split at e
  · cases e; exact q
  · cases e; exact q
  · cases e
end
end TL
/-! TL: d.setdefault(k, v) as a statement, list(d.keys()), tuple(reversed(l)), x += e -/
namespace TL
open PySem PySem.Spec PyProof.Rows L2
section
variable {X : Cx} {wd : Wd} {e f : Expr} {w wi wx : WE} {A B I : FE} {p p2 pos pos2 apos cpos : Pos} {x : Str}
/-! ### d.setdefault(k, v), d own -/
theorem upd_upd {H : Hp} {a : Addr} {o u : HO} : upd (upd H a o) a u = upd H a u := by
  funext b
  by_cases e : b = a
  · subst e; rw [upd_same, upd_same]
  · rw [upd_ne e, upd_ne e, upd_ne e]
theorem upd_id {H : Hp} {a : Addr} {o : HO} (h : H a = some o) : upd H a o = H := by
  funext b
  by_cases e : b = a
  · subst e; rw [upd_same, h]
  · rw [upd_ne e]
theorem kx_setd {Q : Value → Shared → Prop} {E : Value → Shared → Prop} {A : Around} {pins : List (Addr × Obj)} {s : Shared} {σ : L2.St} {H : Hp} {a : Addr} {ep : Nat} {kvs : List (Key × V)} {k : Key} {d : V} {u r : Value} (I : Inv X pins σ H s) (e : H a = some (.ext (DicK X.prog X.w a ep kvs))) (ry : RelV (kV k) u) (rd : RelV d r) (hl : kvs.length < sizeLine)
    (h1 : ∀ v, valV kvs k = some v → ∀ w' s', Inv X pins σ H s' → RelV v w' → Q w' s') (h2 : valV kvs k = none → ∀ ep' w' s', Inv X pins σ (upd H a (.ext (DicK X.prog X.w a ep' (putK kvs k d)))) s' → RelV d w' → Q w' s') :
    wpAny (model X.prog X.w) A (call (.builtin "dict.setdefault") [.ref a, u, r]) Q E s := by
  obtain ⟨z, hd, vs, rel, dd⟩ := dicK_rd I.hok (.inl e)
  have hz : vs.length ≤ sizeLine := by
    rw [← rel.length]
    exact z
  refine call_meetsIn PySem.F.slot_dict_setdefault dd.typeIs PySem.F.entry_dict_setdefault (PySem.F.args_dict_setdefault_3 _ _ _) (kt_meets_setdefault (mixKind X.prog X.w) a (kV_is ry) hd r) ⟨vs, dd, hz, fun v hv => ?_, fun hn h' dd' hs => ?_⟩
  · have q := rel.val k
    rw [hv] at q
    cases q0 : valV kvs k with
    | none =>
      rw [q0] at q
      exact (show False from q).elim
    | some v0 =>
      rw [q0] at q
      exact h1 v0 q0 _ _ (I.tok _) q
  · have q := rel.val k
    rw [hn] at q
    cases q0 : valV kvs k with
    | some v0 =>
      rw [q0] at q
      exact (show False from q).elim
    | none =>
      have hl2 : (putK kvs k d).length ≤ sizeLine := by
        have := length_putK kvs k d
        omega
      have he : ∃ q, h'.get? a = some q := let ⟨q, _, _, hq, _⟩ := dd'; ⟨q, hq⟩
      obtain ⟨ep', ok'⟩ := dicK_new (P := X.prog) (w := X.w) hl2 hd (rel.put k rd) dd'
      exact h2 q0 ep' _ _ (d_write (t' := s.toks + 1) I (by rw [e]; exact True.intro) hs he (ok' _)) rd
def tKSetd (X : Cx) (td ty tx : TE) : TE := fun σ H Q => td σ H fun x H1 => ∃ a, x = .ref a ∧ (∃ ep kvs, H1 a = some (.ext (DicK X.prog X.w a ep kvs))) ∧ ty σ H1 fun y H2 => tx σ H2 fun z H3 => ∃ (ep : Nat) (kvs : List (Key × V)) (k : Key), H3 a = some (.ext (DicK X.prog X.w a ep kvs)) ∧ y = kV k ∧ kvs.length < sizeLine ∧
  (∀ v, valV kvs k = some v → Q v H3) ∧ (valV kvs k = none → ∀ ep', Q z (upd H3 a (.ext (DicK X.prog X.w a ep' (putK kvs k z)))))
theorem pe_ksetd {o : Expr} {td ty tx : TE} (ho : PE X o td) (he : PE X e ty) (hf : PE X f tx) (m : M2 X o "setdefault" apos e f cpos) : PE X (.Call (.Attribute o "setdefault" apos) [e, f] [] cpos) (tKSetd X td ty tx) := by
  refine ⟨fun pins s σ H Q I h => ?_⟩
  refine wpAny_Call_method m.base m.few m.line PySem.F.plainAttrs_dict PySem.F.slot_dict_setdefault PySem.F.type_dict_setdefault (thn (ho.run pins s σ H _ I h) fun u s1 ⟨x, H1, I1, rx, a, ex, ⟨ep0, kvs0, d⟩, q1⟩ => ?_)
  subst ex
  obtain rfl : u = Value.ref a := rx
  obtain ⟨_, _, _, _, dd⟩ := dicK_rd I1.hok (.inl d)
  refine ⟨dd.typeIs, dd.mapOf.noDict, ?_⟩
  rw [m.trees]
  refine Calls.callWith_builtin rfl (Calls.evalArgs_plain (Calls.spliced_cons (thn (he.run pins s1 σ H1 _ I1 q1) fun iv s2 ⟨y, H2, I2, ry, q2⟩ =>
    Calls.spliced_cons (thn (hf.run pins s2 σ H2 _ I2 q2) fun fv s3 ⟨z, H3, I3, rz, ep, kvs, k, ea, ey, hl, q3, q4⟩ => Calls.spliced_nil ?_))))
  subst ey
  exact kx_setd I3 ea ry rz hl (fun v hv w' s4 I4 rw' => ⟨v, _, I4, rw', q3 v hv⟩) fun hn ep' w' s4 I4 rw' => ⟨z, _, I4, rw', q4 hn ep'⟩
def setD (j : NestedKey) (y : D) (ds : List (NestedKey × D)) : List (NestedKey × D) := if (dlook j ds).isSome = true then ds else dput j y ds
def wSetd (i : Nat) (wi wx : WE) : WS := fun E sd μ => match sd[i]? with
  | some (some (.own (.dic false ds))) => wi sd μ (E.x sd) fun r μ1 => withT r fun z => wx sd μ1 (E.x sd) fun r2 μ2 => withT r2 fun y => ∃ k, dKey false z = some k ∧ ds.length < sizeLine ∧ E.nx (sd.set i (some (.own (.dic false (setD k y ds))))) μ2
  | _ => False
theorem qs_setd {n : Nat} (cp : CurP wd X) (he : QE wd X e wi) (hf : QE wd X f wx) (hN : X.N[n]? = some x := by rfl) (hv : Vis X.env.scope x := by first | exact Or.inl rfl | exact Or.inr (Or.inl rfl) | exact Or.inr (Or.inr rfl)) (hd : (x == ("__debug__" : Str)) = false := by decide)
    (hcd : (x == ("__classdict__" : Str)) = false := by decide) (m : M2 X (.Name x p) "setdefault" apos e f cpos := by exact ⟨by rfl, by rfl, by rfl, by rfl⟩)
    (hs : swapsWith (.Call (.Attribute (.Name x p) "setdefault" apos) [e, f] [] cpos) none pos.line X.env = pure false := by rfl) :
    QS wd X (.Expr (.Call (.Attribute (.Name x p) "setdefault" apos) [e, f] [] cpos) pos) (wSetd n wi wx) := by
  refine ⟨PS.imp (ps_expr (pe_ksetd (pe_var hN hv hd hcd) he.pe hf.pe m) hs) fun D σ H ⟨G0, H0, μ0, G, μ, sd, E, hx, hsl, hw, hE⟩ => ?_⟩
  unfold wSetd at hw
  split at hw
  · rename_i ds q
    obtain ⟨pa, o, r1, r2, r3, r4, r5, r6⟩ := hsl.own q
    obtain ⟨ep0, vs0, rfl, _⟩ := r3.dicK
    rw [cp.p, cp.w] at r2
    refine ⟨.ref pa, r1, pa, rfl, ⟨ep0, vs0, r2⟩, ?_⟩
    refine ⟨G0, H0, μ0, G, μ, sd, _, _, hx, hsl, hw, fun r μ1 q1 v1 G1 H1 e1 rel1 => ?_, hE.xok hx hsl⟩
    obtain ⟨z, hz, q1⟩ := withT_tree q1
    obtain ⟨G1', e1', s1, den1⟩ := keep e1 rel1 hz
    refine ⟨G0, H0, μ0, G1', μ1, sd, _, _, hx.trans e1', hsl.step e1', q1, fun r' μ2 q2 v2 G2 H2 e2 rel2 => ?_, hE.xok (hx.trans e1') (hsl.step e1')⟩
    obtain ⟨y, hy, k, hk, hl, q2⟩ := withT_tree q2
    obtain ⟨G3, e3, s3, den2⟩ := keep e2 rel2 hy
    have hxx := (hx.trans e1').trans e3
    have hss := (hsl.step e1').step e3
    obtain ⟨pb, o', r1', r2', r3', r4', r5', r6'⟩ := hss.own q
    rw [r1] at r1'
    cases r1'
    obtain ⟨ep, vs, rfl, hd'⟩ := r3'.dicK
    rw [cp.p, cp.w] at r2'
    obtain ⟨hn, hko⟩ := dKey_eq hk
    have kd := Den.key _ _ _ (Den.mono e3.g _ _ den1) hn
    obtain ⟨j, rfl⟩ := keyOk_f hko
    have kv := kden_f kd
    refine ⟨ep, vs, j, r2', kv, by rw [hd'.len]; exact hl, fun v hv => ?_, fun hv ep' => ?_⟩
    · have hsm : (dlook (kN j) ds).isSome = true := by rw [← denK_some hd', hv]; rfl
      have ee : setD (kN j) y ds = ds := if_pos hsm
      rw [ee] at q2
      have e5 : sd.set n (some (.own (.dic false ds))) = sd := by
        obtain ⟨hil, hiv⟩ := List.getElem?_eq_some_iff.mp q
        rw [← hiv]
        exact List.set_getElem_self hil
      rw [e5] at q2
      exact hE.nx _ _ q2 σ G3 _ hxx hss
    · have hsm : ¬ (dlook (kN j) ds).isSome = true := by rw [← denK_some hd', hv]; simp
      have ee : setD (kN j) y ds = dput (kN j) y ds := if_neg hsm
      rw [ee] at q2
      obtain ⟨x1, x2⟩ := Slots.chg (es := .dic false (dput (kN j) y ds)) (us := .ext (DicK X.prog X.w pa ep' (putK vs j v2))) hxx hss q r1 r2' (fun xs z => by cases z) r4' r5' r6' ⟨ep', _, by rw [cp.p, cp.w], denK_put den2 hd'⟩
      exact hE.nx _ _ q2 σ G3 _ x1 x2
  · exact hw.elim
/-! ### list(d.keys()) -/
def tLKeys (X : Cx) (td : TE) : TE := fun σ H Q => td σ H fun x H1 => ∃ a ep kvs, x = .ref a ∧ Rd H1 a (.ext (DicK X.prog X.w a ep kvs)) ∧ ∀ q, H1 q = none → Q (.ref q) (upd H1 q (.lst (kvs.map fun kv => kV kv.1)))
theorem pe_lkeys {td : TE} (hc : X.calm = true) (hg : Gl X "list") (hm : X.mg "list" = none) (he : PE X e td) (hbase : attributeBase e "keys" X.env (eval e X.env) = eval e X.env := by rfl) (hline : (apos.endLine == cpos.line) = true := by rfl)
    (na : starEach [.Call (.Attribute e "keys" apos) [] [] cpos] X.env = (false, eval (.Call (.Attribute e "keys" apos) [] [] cpos) X.env) :: starEach [] X.env := by rfl) :
    PE X (.Call (.Name "list" p) [.Call (.Attribute e "keys" apos) [] [] cpos] [] pos) (tLKeys X td) := by
  refine ⟨fun pins s σ H Q I h => ?_⟩
  refine Call_ (ld_blt I hg hm boot_list (PyProof.Rows.callWith_type1 (args_cons ?_ na) na))
  refine wpAny_Call_method (T := "dict") (id := "dict.keys") hbase rfl hline F.plainAttrs_dict F.slot_dict_keys F.type_dict_keys (thn (he.run pins s σ H _ I h) fun u s1 ⟨x, H1, I1, rx, d, ep0, kvs, ex, hd, q⟩ => ?_)
  subst ex
  obtain rfl : u = Value.ref d := rx
  obtain ⟨hz, hs, vs, rk, hm⟩ := dicK_rd I1.hok hd
  have hl : kvs.length = vs.length := Paired.length rk
  obtain ⟨ep, hat⟩ := hm.dictAt
  refine ⟨hm.typeIs, hm.mapOf.noDict, ?_⟩
  have kpp : ∀ b ob, s1.heap.get? b = some ob → (s1.heap.push { cls := .type "dict_keys", data := .fields #[.ref d] }).get? b = some ob := fun b ob q => Heap.get?_push_of_some _ q
  have I2 : Inv X pins σ H1 { s1 with heap := s1.heap.push { cls := .type "dict_keys", data := .fields #[.ref d] } } := I1.kept (t' := s1.toks) kpp
  show wpAny _ _ (callWith cpos (.builtin "dict.keys") [.ref d] [] []) _ X.xe s1
  refine method_meetsIn F.slot_dict_keys F.entry_dict_keys rfl (PySem.evalArgs_none ⟨rfl, hm.typeIs, F.args_dict_keys_1 _, _, PySem.W.kdl_meets_keys (mixKind X.prog X.w) d hs, ⟨vs, hm⟩, ?_⟩)
  refine args_nil ?_
  refine PySem.W.kdl_call (PySem.W.kdl_keys (knd := mixKind X.prog X.w) (kvs := vs) (ep := ep) (d := d) (r := s1.heap.objs.size)) (I2.ok.hd hc) ⟨⟨_, Heap.get?_push_size _ rfl, rfl, rfl⟩, hat.push _⟩ (by rw [← hl]; exact hz) fun h' tk acc' c' hkeep hS hacc => ?_
  refine ⟨.ref _, upd H1 _ (.lst (kvs.map fun kv => kV kv.1)), I2.laid hkeep (Nat.le_refl _) (show ObjOk X.prog X.w _ _ _ (.lst (kvs.map fun kv => kV kv.1)) from ⟨?_, acc'.toList, c', ?_, ?_⟩), rfl, q _ (I2.hok.fresh (Nat.le_refl _))⟩
  · rw [List.length_map]; exact hz
  · have el : acc'.toList.length = acc'.size := by simp
    refine vals_of_at (by rw [List.length_map, el, hacc.1, hl]) fun j x w h1 h2 => ?_
    obtain ⟨k, y, hky, hi⟩ := hacc.2 j w (by rw [← Array.getElem?_toList]; exact h2)
    have e1 : (kvs.map (·.1))[j]? = some k := by
      rw [KV.keys rk, List.getElem?_map, hky] <;> rfl
    have e2 : (kvs.map fun kv => kV kv.1)[j]? = some (kV k) := by
      have e3 : (kvs.map fun kv => kV kv.1) = (kvs.map (·.1)).map kV := by rw [List.map_map] <;> rfl
      rw [e3, List.getElem?_map, e1] <;> rfl
    rw [e2] at h1
    cases h1
    exact keyIs_rel hi
  · rw [Array.toArray_toList]; exact hS
theorem denK_keys {K : PySem.W.Frag} {cl : Cl} {G : Gh} : ∀ {vs : List (Key × V)} {ds : List (NestedKey × D)}, DenK K cl G vs ds → DenL K cl G (vs.map fun kv => kV kv.1) (ds.map fun p => kD p.1)
  | _, _, .nil => .nil
  | (k, v) :: vs, _, .cons h1 h2 => by
    refine .cons ?_ (denK_keys h2)
    cases k with
    | inl i => exact .int i
    | inr s => exact .str s
def wLKeys (w : WE) : WE := fun sd μ x k => w sd μ x fun r μ1 => ∃ ds, vw μ1 sd r = .dic false ds ∧ k (.new (.lst (ds.map fun p => kD p.1))) μ1
theorem qe_lkeys (cp : CurP wd X) (hc : X.calm = true) (hm : X.mg "list" = none) (he : QE wd X e w) (hg : Gl X "list" := by rfl) (hbase : attributeBase e "keys" X.env (eval e X.env) = eval e X.env := by rfl) (hline : (apos.endLine == cpos.line) = true := by rfl)
    (na : starEach [.Call (.Attribute e "keys" apos) [] [] cpos] X.env = (false, eval (.Call (.Attribute e "keys" apos) [] [] cpos) X.env) :: starEach [] X.env := by rfl) :
    QE wd X (.Call (.Name "list" p) [.Call (.Attribute e "keys" apos) [] [] cpos] [] pos) (wLKeys w) := by
  refine ⟨PE.imp (pe_lkeys hc hg hm he.pe hbase hline na) fun σ H Q ⟨G0, H0, μ0, G, μ, sd, x, k, hx, hs, hw, hk, hxo⟩ => ?_⟩
  refine ⟨G0, H0, μ0, G, μ, sd, x, _, hx, hs, hw, fun r μ1 q v G1 H1 e1 rel => ?_, hxo⟩
  obtain ⟨G1', e1', s1, hold1⟩ := hold hs e1 rel
  obtain ⟨ds, e0, q⟩ := q
  have d1 := hold1 _ _ _ (.refl e1'.rep)
  rw [e0] at d1
  obtain ⟨a, ob, rfl, hr, ok⟩ := d1
  obtain ⟨ep, vs, rfl, hd⟩ := ok.dicK
  rw [cp.p, cp.w] at hr
  refine ⟨a, ep, vs, rfl, hr, fun p hp => ?_⟩
  have f0 := e1'.rep.free hp
  exact hk _ _ q _ G1' _ (e1'.trans (Ext.loose e1'.rep hp)) ⟨p, _, rfl, e1'.dom p hp, upd_same, denK_keys hd, f0.1, f0.2⟩

/-! ### tuple(reversed(l)) -/
def wTupRev (w : WE) : WE := fun sd μ x k => w sd μ x fun r μ1 => ∃ ds, vw μ1 sd r = .lst ds ∧ k (.d (.tup ds.reverse)) μ1
theorem qe_tupRev (hc : X.calm = true) (hm : X.mg "tuple" = none) (hm2 : X.mg "reversed" = none) (he : QE wd X e w) (hg : Gl X "tuple" := by rfl) (hg2 : Gl X "reversed" := by rfl)
    (hs : starEach [e] X.env = (false, eval e X.env) :: starEach [] X.env := by rfl)
    (hs2 : starEach [.Call (.Name "reversed" p2) [e] [] pos2] X.env = (false, eval (.Call (.Name "reversed" p2) [e] [] pos2) X.env) :: starEach [] X.env := by rfl) :
    QE wd X (.Call (.Name "tuple" p) [.Call (.Name "reversed" p2) [e] [] pos2] [] pos) (wTupRev w) := by
  refine ⟨PE.imp (RT.pe_tupRev hc hg hm hg2 hm2 he.pe hs hs2) fun σ H Q ⟨G0, H0, μ0, G, μ, sd, x, k, hx, hs, hw, hk, hxo⟩ => ?_⟩
  refine ⟨G0, H0, μ0, G, μ, sd, x, _, hx, hs, hw, fun r μ1 q v G1 H1 e1 rel => ?_, hxo⟩
  obtain ⟨G1', e1', s1, hold1⟩ := hold hs e1 rel
  obtain ⟨ds, e0, q⟩ := q
  have d1 := hold1 _ _ _ (.refl e1'.rep)
  rw [e0] at d1
  obtain ⟨a, vs, rfl, sq, dl⟩ := d1
  refine ⟨a, vs, rfl, sq, fun p hp => ?_⟩
  have f0 := e1'.rep.free hp
  exact hk _ _ q _ _ _ (e1'.trans (Ext.frozen e1'.rep hp)) (.tup (.inl (.inl upd_same)) (DenL.mono (gle_put f0.1) _ _ dl.rev))
/-! ### x += e -/
def wAug (i : Nat) (w : WE) : WS := fun E sd μ => ∃ a, sd[i]? = some (some (.fz (.int a))) ∧ w sd μ (E.x sd) fun r μ1 => ∃ b, r = .d (.int b) ∧ E.nx (sd.set i (some (.fz (.int (a + b))))) μ1
theorem qs_aug {i : Nat} {pos' : Pos} (hN : X.N.Nodup) (he : QE wd X e w) (hi : X.N[i]? = some x := by rfl) (hx : Loc X.env.scope x := by first | exact Or.inl rfl | exact Or.inr rfl) (hf : X.fn x = true ∨ X.env.scope.names.lookup x = some .local := by first | exact .inl rfl | exact .inr rfl | assumption) :
    QS wd X (.AugAssign (.Name x pos') .Add e pos) (wAug i w) := by
  refine ⟨PS.imp (ps_aug hN hi hx he.pe ip_add hf) fun D σ H ⟨G0, H0, μ0, G, μ, sd, E, hx, hsl, ⟨a, ha, hw⟩, hE⟩ => ?_⟩
  obtain ⟨v, hv, dv⟩ := hsl.at_ i _ ha
  cases dv
  refine ⟨.int a, hv, ?_⟩
  refine ⟨G0, H0, μ0, G, μ, sd, _, _, hx, hsl, hw, fun r μ1 q v1 G1 H1 e1 rel => ?_, hE.xok hx hsl⟩
  obtain ⟨b, rfl, q⟩ := q
  cases rel
  exact ⟨a, b, rfl, rfl, hE.nx _ _ q _ G1 H1 (hx.trans e1) ((hsl.step e1).setF (Den.int _))⟩
/-! ### as functions -/
def dOfF (o : Option (Option SV)) : Option (List (NestedKey × D)) := match o with
  | some (some (.own (.dic false ds))) => some ds
  | _ => none
@[simp] theorem dOfF_own {ds : List (NestedKey × D)} : dOfF (some (some (.own (.dic false ds)))) = some ds := rfl
theorem dOfF_eq {o : Option (Option SV)} {ds : List (NestedKey × D)} (h : dOfF o = some ds) : o = some (some (.own (.dic false ds))) := by
  unfold dOfF at h
  split at h
  · cases h; rfl
  · cases h
def thenD1 (o : Option (List (NestedKey × D))) (k : List (NestedKey × D) → OS) : OS := match o with
  | some p => k p
  | none => .no
@[simp] theorem thenD1_some {ds : List (NestedKey × D)} {k : List (NestedKey × D) → OS} : thenD1 (some ds) k = k ds := rfl
def setdK (sd : SD) (i : Nat) (ds : List (NestedKey × D)) (y : D) (k : Option NestedKey) (μ : Mu) : OS := match k with
  | some k => if ds.length < sizeLine then .nx (sd.set i (some (.own (.dic false (setD k y ds))))) μ else .no
  | none => .no
@[simp] theorem setdK_some {sd : SD} {i : Nat} {ds : List (NestedKey × D)} {y : D} {k : NestedKey} {μ : Mu} : setdK sd i ds y (some k) μ = if ds.length < sizeLine then .nx (sd.set i (some (.own (.dic false (setD k y ds))))) μ else .no := rfl
def sSetd (i : Nat) (I A : FE) : FS := fun sd μ => thenD1 (dOfF sd[i]?) fun ds => thenS ((I sd μ).bind fun r μ1 => Out.of r.tree μ1) sd fun z μ1 => thenS ((A sd μ1).bind fun r μ2 => Out.of r.tree μ2) sd fun y μ2 => setdK sd i ds y (dKey false z) μ2
@[simp] theorem sSetd_ap {i : Nat} {sd : SD} {μ : Mu} : sSetd i I A sd μ = thenD1 (dOfF sd[i]?) fun ds => thenS ((I sd μ).bind fun r μ1 => Out.of r.tree μ1) sd fun z μ1 => thenS ((A sd μ1).bind fun r μ2 => Out.of r.tree μ2) sd fun y μ2 => setdK sd i ds y (dKey false z) μ2 := rfl
theorem sSetd_le {i : Nat} {E : TEn} {sd : SD} {μ : Mu} (h : ofS (sSetd i I A) E sd μ) : wSetd i (ofE I) (ofE A) E sd μ := by
  unfold ofS sSetd at h
  cases q : dOfF sd[i]? with
  | none => rw [q] at h; exact h.elim
  | some ds =>
    rw [q] at h
    unfold wSetd
    rw [dOfF_eq q]
    refine sat_mono (sat_bind (sat_thenS h)) fun r μ' h => let ⟨z, e, h⟩ := sat_of h; tree_with e ?_
    refine sat_mono (sat_bind (sat_thenS h)) fun r2 μ2 h => let ⟨y, e2, h⟩ := sat_of h; tree_with e2 ?_
    cases q3 : dKey false z with
    | none => rw [q3] at h; exact h.elim
    | some k =>
      rw [q3] at h
      obtain ⟨hl, h⟩ := sat_iteS h
      exact ⟨k, rfl, hl, h⟩
theorem fs_setd {n : Nat} (cp : CurP wd X) (he : QE wd X e (ofE I)) (hf : QE wd X f (ofE A)) (hN : X.N[n]? = some x := by rfl) (hv : Vis X.env.scope x := by first | exact Or.inl rfl | exact Or.inr (Or.inl rfl) | exact Or.inr (Or.inr rfl)) (hd : (x == ("__debug__" : Str)) = false := by decide)
    (hcd : (x == ("__classdict__" : Str)) = false := by decide) (m : M2 X (.Name x p) "setdefault" apos e f cpos := by exact ⟨by rfl, by rfl, by rfl, by rfl⟩)
    (hs : swapsWith (.Call (.Attribute (.Name x p) "setdefault" apos) [e, f] [] cpos) none pos.line X.env = pure false := by rfl) :
    QS wd X (.Expr (.Call (.Attribute (.Name x p) "setdefault" apos) [e, f] [] cpos) pos) (ofS (sSetd n I A)) := (qs_setd cp he hf hN hv hd hcd m hs).imp fun E sd μ h => sSetd_le h

def lkK (d : D) (μ : Mu) : Out R := match d with
  | .dic false ds => .ok (.new (.lst (ds.map fun p => kD p.1))) μ
  | _ => .no
@[simp] theorem lkK_dic {ds : List (NestedKey × D)} {μ : Mu} : lkK (.dic false ds) μ = .ok (.new (.lst (ds.map fun p => kD p.1))) μ := rfl
def fLKeys (A : FE) : FE := fun sd μ => (A sd μ).bind fun r μ1 => lkK (vw μ1 sd r) μ1
@[simp] theorem fLKeys_ap {sd : SD} {μ : Mu} : fLKeys A sd μ = (A sd μ).bind fun r μ1 => lkK (vw μ1 sd r) μ1 := rfl
theorem fLKeys_le {sd : SD} {μ : Mu} {x : XT} {k : R → Mu → Prop} (h : ofE (fLKeys A) sd μ x k) : wLKeys (ofE A) sd μ x k :=
  sat_mono (sat_bind h) fun r μ1 h => by
    cases q : vw μ1 sd r with
    | dic t ds =>
      rw [q] at h
      cases t with
      | false => exact ⟨ds, rfl, h⟩
      | true => exact h.elim
    | _ => rw [q] at h; exact h.elim
theorem fe_lkeys (cp : CurP wd X) (he : QE wd X e (ofE A)) (hc : X.calm = true) (hm : X.mg "list" = none) (hg : Gl X "list" := by rfl) (hbase : attributeBase e "keys" X.env (eval e X.env) = eval e X.env := by rfl) (hline : (apos.endLine == cpos.line) = true := by rfl)
    (na : starEach [.Call (.Attribute e "keys" apos) [] [] cpos] X.env = (false, eval (.Call (.Attribute e "keys" apos) [] [] cpos) X.env) :: starEach [] X.env := by rfl) :
    QE wd X (.Call (.Name "list" p) [.Call (.Attribute e "keys" apos) [] [] cpos] [] pos) (ofE (fLKeys A)) := (qe_lkeys cp hc hm he hg hbase hline na).imp fun sd μ x k h => fLKeys_le h
def trK (d : D) (μ : Mu) : Out R := match d with
  | .lst ds => .ok (.d (.tup ds.reverse)) μ
  | _ => .no
@[simp] theorem trK_lst {ds : List D} {μ : Mu} : trK (.lst ds) μ = .ok (.d (.tup ds.reverse)) μ := rfl
def fTupRev (A : FE) : FE := fun sd μ => (A sd μ).bind fun r μ1 => trK (vw μ1 sd r) μ1
@[simp] theorem fTupRev_ap {sd : SD} {μ : Mu} : fTupRev A sd μ = (A sd μ).bind fun r μ1 => trK (vw μ1 sd r) μ1 := rfl
theorem fTupRev_le {sd : SD} {μ : Mu} {x : XT} {k : R → Mu → Prop} (h : ofE (fTupRev A) sd μ x k) : wTupRev (ofE A) sd μ x k :=
  sat_mono (sat_bind h) fun r μ1 h => by
    cases q : vw μ1 sd r with
    | lst ds => rw [q] at h; exact ⟨ds, rfl, h⟩
    | _ => rw [q] at h; exact h.elim
theorem fe_tupRev (he : QE wd X e (ofE A)) (hc : X.calm = true) (hm : X.mg "tuple" = none) (hm2 : X.mg "reversed" = none) (hg : Gl X "tuple" := by rfl) (hg2 : Gl X "reversed" := by rfl)
    (hs : starEach [e] X.env = (false, eval e X.env) :: starEach [] X.env := by rfl)
    (hs2 : starEach [.Call (.Name "reversed" p2) [e] [] pos2] X.env = (false, eval (.Call (.Name "reversed" p2) [e] [] pos2) X.env) :: starEach [] X.env := by rfl) :
    QE wd X (.Call (.Name "tuple" p) [.Call (.Name "reversed" p2) [e] [] pos2] [] pos) (ofE (fTupRev A)) := (qe_tupRev hc hm hm2 he hg hg2 hs hs2).imp fun sd μ x k h => fTupRev_le h
def sAug (i : Nat) (A : FE) : FS := fun sd μ => thenS ((Out.of ((fzAt sd[i]?).bind fun d => iOf (.d d)) μ)) sd fun a μ => thenS ((A sd μ).bind fun r μ1 => Out.of (iOf r) μ1) sd fun b μ1 => .nx (sd.set i (some (.fz (.int (a + b))))) μ1
@[simp] theorem sAug_ap {i : Nat} {sd : SD} {μ : Mu} : sAug i A sd μ = thenS ((Out.of ((fzAt sd[i]?).bind fun d => iOf (.d d)) μ)) sd fun a μ => thenS ((A sd μ).bind fun r μ1 => Out.of (iOf r) μ1) sd fun b μ1 => .nx (sd.set i (some (.fz (.int (a + b))))) μ1 := rfl
theorem fzAt_eq {o : Option (Option SV)} {d : D} (h : fzAt o = some d) : o = some (some (.fz d)) := by
  unfold fzAt at h
  split at h
  · cases h; rfl
  · cases h
theorem sAug_le {i : Nat} {E : TEn} {sd : SD} {μ : Mu} (h : ofS (sAug i A) E sd μ) : wAug i (ofE A) E sd μ := by
  obtain ⟨a, ea, h⟩ := sat_of (sat_thenS h)
  obtain ⟨d, e1, e2⟩ := Option.bind_eq_some_iff.mp ea
  have e3 := fzAt_eq e1
  have e4 : d = .int a := by
    have := iOf_eq e2
    cases this
    rfl
  subst e4
  refine ⟨a, e3, sat_mono (sat_bind (sat_thenS h)) fun r μ1 h => ?_⟩
  obtain ⟨b, eb, h⟩ := sat_of h
  exact ⟨b, iOf_eq eb, h⟩
theorem fs_aug {i : Nat} {pos' : Pos} (hN : X.N.Nodup) (he : QE wd X e (ofE A)) (hi : X.N[i]? = some x := by rfl) (hx : Loc X.env.scope x := by first | exact Or.inl rfl | exact Or.inr rfl) (hf : X.fn x = true ∨ X.env.scope.names.lookup x = some .local := by first | exact .inl rfl | exact .inr rfl | assumption) :
    QS wd X (.AugAssign (.Name x pos') .Add e pos) (ofS (sAug i A)) := (qs_aug hN he hi hx hf).imp fun E sd μ h => sAug_le h
end
end TL
/-! TL: for k in d, d a dict that stays -/
namespace TL
open PySem PySem.Spec PyProof.Rows L2
/-- the keys of the dict at a: ints, texts -/
def Ikk (P : Program) (w : World) (a : Addr) (ep : Nat) (kvs : List (Key × V)) : It :=
  ⟨fun i H => Rd H a (.ext (DicK P w a ep kvs)) ∧ i < kvs.length,
   fun i H x H' => H' = H ∧ ∃ k v, kvs[i]? = some (k, v) ∧ x = kV k,
   fun i H => Rd H a (.ext (DicK P w a ep kvs)) ∧ kvs.length ≤ i⟩
/-- .. tuples -/
def Ikx (P : Program) (w : World) (a : Addr) (ep : Nat) (xs : List (NestedKey × Addr × Value)) : It :=
  ⟨fun i H => Rd H a (.ext (DicT P w a ep xs)) ∧ i < xs.length,
   fun i H x H' => H' = H ∧ ∃ k b u, xs[i]? = some (k, b, u) ∧ x = .ref b,
   fun i H => Rd H a (.ext (DicT P w a ep xs)) ∧ xs.length ≤ i⟩
section
variable {P : Program} {w : World} {K : PySem.W.Frag} {a : Addr} {ep : Nat} {kvs : List (Key × V)} {xs : List (NestedKey × Addr × Value)} {tg : Expr}
theorem turn_kk (it : Addr) : Turn P w K tg (Ikk P w a ep kvs) [it] it (fun i h => h.IsKeyIter it a i kvs.length ep) where
  mem := by simp
  obj := fun i h st b hb => by
    have e : b = it := by simpa using hb
    subst e
    obtain ⟨oi, e, c, dd⟩ := st
    exact ⟨oi, e, fun v z => by rw [dd] at z; cases z⟩
  keep := fun i h h' st k => st.at fun oi e => k it (by simp) oi e
  item := by
    intro X hP hw hK hc i pins s σ H E I hf st hg
    subst hP hw hK
    obtain ⟨hd, hi⟩ := hg
    obtain ⟨f0, f1, f2, f3, f4, f5⟩ := hf it (by simp)
    obtain ⟨hsz, hs, vs, kv, hm⟩ := dicK_at I.hok hd
    obtain ⟨⟨k, v⟩, hkv⟩ : ∃ p, kvs[i]? = some p := ⟨kvs[i], List.getElem?_eq_getElem hi⟩
    obtain ⟨u, hu, ru⟩ := kv_get kv hkv
    have hl : kvs.length = vs.length := Paired.length kv
    rw [hl] at st
    refine wpAny_pyNext_dict_item st hm hu fun key h' hkey st' sb => ?_
    have I1 : Inv X pins σ H { s with heap := h' } := I.turned (t' := s.toks) (fun b ob hb e => (sb.2 b hb).trans e) f0 f1 f3 f4 f5
    obtain ⟨oi, e, c, dd⟩ := id st'
    refine ⟨key, rfl, go_of (s := { s with heap := h' }) e c dd (by decide) ⟨kV k, H, I1, relV_key (show keyIs k key = true from hkey), ⟨rfl, k, v, hkv, rfl⟩, ?_, fun b hb => (hf b hb).1⟩⟩
    show h'.IsKeyIter it a (i + 1) kvs.length _
    rw [hl]
    exact st'
  done := by
    intro X hP hw hK hc i pins s σ H E I hf st hg
    subst hP hw hK
    obtain ⟨hd, hi⟩ := hg
    obtain ⟨f0, f1, f2, f3, f4, f5⟩ := hf it (by simp)
    obtain ⟨hsz, hs, vs, kv, hm⟩ := dicK_at I.hok hd
    have hl : kvs.length = vs.length := Paired.length kv
    obtain ⟨o, es, ho, hx, hdt, hk, hp, hn⟩ := hm
    have hz : es.size = kvs.length := by rw [hl, ← hp.length]; simp
    exact next_key_end (I.ok.hd hc) st ho hdt hz hi fun h' eb => ⟨rfl, I.turned (t' := s.toks) (fun b ob hb e => eb b ob hb e) f0 f1 f3 f4 f5⟩
  self := fun A i s Q E st h => wpAny_pyIter_keyiter st h
theorem turn_kx (it : Addr) : Turn P w K tg (Ikx P w a ep xs) [it] it (fun i h => h.IsKeyIter it a i xs.length ep) where
  mem := by simp
  obj := fun i h st b hb => by
    have e : b = it := by simpa using hb
    subst e
    obtain ⟨oi, e, c, dd⟩ := st
    exact ⟨oi, e, fun v z => by rw [dd] at z; cases z⟩
  keep := fun i h h' st k => st.at fun oi e => k it (by simp) oi e
  item := by
    intro X hP hw hK hc i pins s σ H E I hf st hg
    subst hP hw hK
    obtain ⟨hd, hi⟩ := hg
    obtain ⟨f0, f1, f2, f3, f4, f5⟩ := hf it (by simp)
    obtain ⟨hs, o, es, h4, h5, h6, hsz, hen⟩ := dicT_raw (dicT_rd I.hok hd)
    obtain ⟨⟨k, b, u⟩, hkv⟩ : ∃ p, xs[i]? = some p := ⟨xs[i], List.getElem?_eq_getElem hi⟩
    have hei := hen i
    rw [hkv] at hei
    refine next_key_item st h4 h6 hsz hei fun h' st' sb => ?_
    have I1 : Inv X pins σ H { s with heap := h' } := I.turned (t' := s.toks) (fun b ob hb e => (sb.2 b hb).trans e) f0 f1 f3 f4 f5
    obtain ⟨oi, e, c, dd⟩ := id st'
    exact ⟨_, rfl, go_of (s := { s with heap := h' }) e c dd (by decide) ⟨.ref b, H, I1, rfl, ⟨rfl, k, b, u, hkv, rfl⟩, st', fun b hb => (hf b hb).1⟩⟩
  done := by
    intro X hP hw hK hc i pins s σ H E I hf st hg
    subst hP hw hK
    obtain ⟨hd, hi⟩ := hg
    obtain ⟨f0, f1, f2, f3, f4, f5⟩ := hf it (by simp)
    obtain ⟨hs, o, es, h4, h5, h6, hsz, hen⟩ := dicT_raw (dicT_rd I.hok hd)
    exact next_key_end (I.ok.hd hc) st h4 h6 hsz hi fun h' eb => ⟨rfl, I.turned (t' := s.toks) (fun b ob hb e => eb b ob hb e) f0 f1 f3 f4 f5⟩
  self := fun A i s Q E st h => wpAny_pyIter_keyiter st h
end
/-- the keys -/
def keD (ds : List (NestedKey × D)) : List D := ds.map fun p => kD p.1
theorem denK_at {K : PySem.W.Frag} {cl : Cl} {G : Gh} : ∀ {vs : List (Key × V)} {ds : List (NestedKey × D)}, DenK K cl G vs ds → ∀ {i : Nat} {k : Key} {v : V}, vs[i]? = some (k, v) → ∃ d, ds[i]? = some (kN k, d)
  | _, _, .nil, i, k, v, h => by simp at h
  | _, _, .cons h0 h1, 0, k, v, h => by simp at h; obtain ⟨rfl, rfl⟩ := h; exact ⟨_, rfl⟩
  | _, _, .cons h0 h1, i + 1, k, v, h => by simpa using denK_at h1 (i := i) (k := k) (v := v) (by simpa using h)
theorem den_kV {K : PySem.W.Frag} {cl : Cl} {G : Gh} (k : Key) : Den K cl G (kV k) (kD (kN k)) := by
  cases k with
  | inl i => exact .int i
  | inr s => exact .str s
theorem goes_kk {K : PySem.W.Frag} {cl : Cl} {G : Gh} {a : Addr} {ep : Nat} {kvs : List (Key × V)} {ds : List (NestedKey × D)} (h : Rd G.fz a (.ext (DicK cl.P cl.w a ep kvs))) (hd : DenK K cl G kvs ds) : Goes K cl G (Ikk cl.P cl.w a ep kvs) (keD ds) none := by
  have hl : (keD ds).length = kvs.length := by simp [keD, hd.len]
  refine ⟨fun H => Rd H a (.ext (DicK cl.P cl.w a ep kvs)), fun i H x H' => H' = H ∧ ∃ k v, kvs[i]? = some (k, v) ∧ x = kV k, ?_, fun G2 H μ2 s r _ => rd_same (s.fz.trans r.sub) h, fun i H x H' y G2 μ2 s2 r _ => ?_⟩
  · rw [hl]
    exact ⟨fun _ _ hi q => ⟨q, hi⟩, fun _ q => ⟨q, Nat.le_refl _⟩, fun _ _ _ _ _ _ y => y⟩
  · obtain ⟨rfl, k, v, e1, rfl⟩ := y
    obtain ⟨d, f1⟩ := denK_at hd e1
    exact ⟨G2, kD (kN k), by simp [keD, f1], .refl r, den_kV k⟩
theorem goes_kx {K : PySem.W.Frag} {cl : Cl} {G : Gh} {a : Addr} {ep : Nat} {xs : List (NestedKey × Addr × Value)} {ds : List (NestedKey × D)} (h : Rd G.fz a (.ext (DicT cl.P cl.w a ep xs))) (hd : DenT K cl G xs ds) : Goes K cl G (Ikx cl.P cl.w a ep xs) (keD ds) none := by
  have hl : (keD ds).length = xs.length := by simp [keD, denT_len hd]
  refine ⟨fun H => Rd H a (.ext (DicT cl.P cl.w a ep xs)), fun i H x H' => H' = H ∧ ∃ k b u, xs[i]? = some (k, b, u) ∧ x = .ref b, ?_, fun G2 H μ2 s r _ => rd_same (s.fz.trans r.sub) h, fun i H x H' y G2 μ2 s2 r _ => ?_⟩
  · rw [hl]
    exact ⟨fun _ _ hi q => ⟨q, hi⟩, fun _ q => ⟨q, Nat.le_refl _⟩, fun _ _ _ _ _ _ y => y⟩
  · obtain ⟨rfl, k, b, u, e1, rfl⟩ := y
    obtain ⟨d, v', f1, f2, f3, f4⟩ := denT_at hd e1
    exact ⟨G2, kD k, by simp [keD, f1], .refl r, KDen.den k _ (KDen.mono s2.fz k _ f2)⟩
def iKeysX (P : Program) (w : World) (td : TE) : TI := fun σ H R => td σ H fun x H1 => ∃ d ep, x = .ref d ∧ ((∃ kvs, Rd H1 d (.ext (DicK P w d ep kvs)) ∧ R (Ikk P w d ep kvs) H1) ∨ ∃ xs, Rd H1 d (.ext (DicT P w d ep xs)) ∧ R (Ikx P w d ep xs) H1)
section
variable {X : Cx} {wd : Wd} {e tg : Expr} {td : TE} {w : WE} {A : FE}
theorem pi_keysX (he : PE X e td) : PI X tg e (iKeysX X.prog X.w td) := by
  refine ⟨fun pins s σ H R I h => ?_⟩
  refine thn (he.run pins s σ H _ I h) fun u s1 ⟨x, H1, I1, rx, d, ep, ex, q⟩ => ?_
  subst ex
  obtain rfl : u = Value.ref d := rx
  rcases q with ⟨kvs, hd, q⟩ | ⟨xs, hd, q⟩
  · obtain ⟨hsz, hs, vs, kv, hm⟩ := dicK_at I1.hok hd
    have hl : kvs.length = vs.length := Paired.length kv
    obtain ⟨o, es, ho, hx, hdt, hk, hp, hn⟩ := hm
    have hz : es.size = kvs.length := by rw [hl, ← hp.length]; simp
    refine iter_keys hs ho hx hdt (pi_one (tk := s1.toks) I1 _ (turn_kk _) ⟨_, Heap.get?_push_size _ rfl, rfl, ?_⟩ q)
    rw [hz] <;> rfl
  · obtain ⟨hs, o, es, h4, h5, h6, hsz, hen⟩ := dicT_raw (dicT_rd I1.hok hd)
    refine iter_keys hs h4 h5 h6 (pi_one (tk := s1.toks) I1 _ (turn_kx _) ⟨_, Heap.get?_push_size _ rfl, rfl, ?_⟩ q)
    rw [hsz] <;> rfl
def wiKeys (w : WE) : WI := fun sd μ x k => w sd μ x fun r μ1 => match r with
  | .d (.dic _ ds) => k (keD ds) none μ1
  | .new (.dic _ ds) => k (keD ds) none μ1
  | _ => False
theorem qi_keys (cp : CurP wd X) (h : QE wd X e w) : QI wd X tg e (wiKeys w) := by
  refine ⟨PI.imp (pi_keysX h.pe) fun σ H R ⟨G0, H0, μ0, G, μ, sd, x, k, hx, hs, hw, hk, hxo⟩ => ?_⟩
  refine ⟨G0, H0, μ0, G, μ, sd, x, _, hx, hs, hw, fun r μ1 q v G1 H1 e1 rel => ?_, hxo⟩
  have done : ∀ {G2 : Gh} {t : Bool} {ds : List (NestedKey × D)}, Ext X.K wd.cl G H μ G2 H1 μ1 → Den X.K wd.cl G2 v (.dic t ds) → k (keD ds) none μ1 → ∃ d ep, v = .ref d ∧ ((∃ kvs, Rd H1 d (.ext (DicK X.prog X.w d ep kvs)) ∧ R (Ikk X.prog X.w d ep kvs) H1) ∨ ∃ xs, Rd H1 d (.ext (DicT X.prog X.w d ep xs)) ∧ R (Ikx X.prog X.w d ep xs) H1) := by
    intro G2 t ds e2 den hq
    cases den with
    | @dicK a ep xs _ q1 q2 =>
      have g := goes_kk q1 q2
      rw [cp.p, cp.w] at q1 g
      exact ⟨a, ep, rfl, .inl ⟨xs, rd_same e2.rep.sub q1, hk _ _ _ hq _ _ _ e2 g⟩⟩
    | @dicT a ep xs _ q1 q2 =>
      have g := goes_kx q1 q2
      rw [cp.p, cp.w] at q1 g
      exact ⟨a, ep, rfl, .inr ⟨xs, rd_same e2.rep.sub q1, hk _ _ _ hq _ _ _ e2 g⟩⟩
  cases r with
  | «at» i => exact q.elim
  | new c =>
    cases c <;> try exact q.elim
    rename_i t ds
    obtain ⟨G1', e1', s1, den⟩ := keep (x := .dic t ds) e1 rel rfl
    exact done e1' den q
  | d y =>
    cases y <;> try exact q.elim
    exact done e1 rel q
def kysOf (r : R) : Option (List D × Lk) := match r with
  | .d (.dic _ ds) => some (keD ds, none)
  | .new (.dic _ ds) => some (keD ds, none)
  | _ => none
def fiKeys (A : FE) : FI := fun sd μ => (A sd μ).bind fun r μ1 => Out.of (kysOf r) μ1
@[simp] theorem fiKeys_ap {sd : SD} {μ : Mu} : fiKeys A sd μ = (A sd μ).bind fun r μ1 => Out.of (kysOf r) μ1 := rfl
@[simp] theorem kysOf_d {t : Bool} {ds : List (NestedKey × D)} : kysOf (.d (.dic t ds)) = some (keD ds, none) := rfl
@[simp] theorem kysOf_new {t : Bool} {ds : List (NestedKey × D)} : kysOf (.new (.dic t ds)) = some (keD ds, none) := rfl
theorem fi_keys (cp : CurP wd X) (h : QE wd X e (ofE A)) : QI wd X tg e (ofI (fiKeys A)) := (qi_keys cp h).imp fun sd μ x k h => sat_mono (sat_bind h) fun r μ1 h => by
  obtain ⟨p, e, q⟩ := sat_of h
  unfold kysOf at e
  split at e
  · cases e; exact q
  · cases e; exact q
  · cases e
end
end TL
/-! TL: sorted(range(n), key=lambda x: -xs[x]) -/
namespace TL
open PySem PySem.Spec PyProof.Rows L2 LamX NdefX
section
variable {prog : Program} {w : World} {A : Around} {E : Value → Shared → Prop} {s : Shared} {r : Addr} {a b c : Int} {t u v : Tok} {n : Nat}
/-- sorted(range) by the sort of the new list -/
theorem sorted_of_range {kw : List (Str × Value)} {Q : Value → Shared → Prop} (hh : A.in1.handled = none) (hr : IsRange s.heap r a b c t u v) (hsmall : Builtin.Range.small a b c = true) (hn : Builtin.Range.rangeSize a b c = n) (hlen : n ≤ 2 ^ 24)
    (ha1 : argsOk "sorted" ⟨[.ref r], kw⟩) (ha2 : ∀ x, argsOk "list.sort" ⟨[.ref x], kw⟩)
    (body : ∀ (h' : Heap) (tk : Nat) (vs : List Value), (∀ b o, s.heap.get? b = some o → h'.get? b = some o) → vs.length = n → (∀ (j : Nat) (v : Value), vs[j]? = some v → ∃ t : Tok, v = Value.int (a + (j : Nat) * c) t) → ∀ E' : Value → Shared → Prop,
      wpAny (model prog w) A.in1.in1 (Builtin.«list.sort» ⟨[.ref h'.objs.size], kw⟩) (fun f s' => f = .done (.ret .none) ∧ Q (.ref h'.objs.size) s') E' { s with heap := h'.push (seqObj "list" vs.toArray 0), toks := tk }) :
    wpAny (model prog w) A (call (.builtin "sorted") [.ref r] kw) Q E s := by
  have hL : n ≤ sizeLine := by rw [sizeLine_eq]; omega
  refine call_function_entry_kw kind_sorted plain_sorted entry_sorted ha1 ?_
  unfold Builtin.«sorted»
  refine wpAny_bind (m := checkCount "sorted" 1 1 _) (wpAny_pure ?_)
  refine wpAny_bind (collect_range hh hr hsmall hn hlen fun h' tk acc hk hi => ?_)
  have hl : acc.toList.length = n := by rw [Array.length_toList]; exact hi.1
  refine wpAny_bind (wpAny_newList ?_ (by rw [hl]; exact hL))
  have hD : (h'.push (seqObj "list" acc.toList.toArray 0)).get? h'.objs.size = some (seqObj "list" acc.toList.toArray 0) := Heap.get?_push_size _ rfl
  refine wpAny_bind (wpAny_holding (wpAny_call_entry_kw slot_list_sort ⟨_, hD, rfl⟩ entry_list_sort ?_ (ha2 _)))
  refine wpAny_mono (body h' tk acc.toList hk hl (fun j v e => hi.2 j v (by rw [← Array.getElem?_toList]; exact e)) _) (fun f s' hf => ?_) fun _ _ e => e
  obtain ⟨rfl, hq⟩ := hf
  exact ⟨_, rfl, wpAny_pure ⟨_, rfl, hq⟩⟩
end
/-- the numbers below n, by -ns, stable -/
def srtNeg (ns : List Int) (n : Nat) : List Int := ((List.range n).map fun i : Nat => (i : Int)).mergeSort fun i j => decide (-(ns.getD i.toNat 0) ≤ -(ns.getD j.toNat 0))
section
variable {X : Cx} {pins : List (Addr × Obj)} {σ : L2.St} {H : Hp} {s : Shared}
/-- the lambda is made: its code object is new, or in the table -/
theorem mk_lam {co tb : Addr} {tr : Array Value} {pr : Arguments} {body : Expr} {sc : Scope} {lp : Pos} {E Q : Value → Shared → Prop} (I : Inv X pins σ H s) (B : TabB X.base X.mg co tb) (hco : X.env.code = .ref co)
    (hT : H tb = some (.tbl tr)) (h3 : TriplesOk tr.toList) (hdef : defaultsOf pr X.env = ([], [])) (hfr : ∀ y ∈ sc.names, y.2 = .free → ∃ c, X.env.cells.lookup y.1 = some c) (hrf : ∀ p2 cv, codeAmong p2 tr.toList = some cv → ∃ c2, cv = .ref c2 ∧ H c2 = some (CodeO c2 (X.env.qual ++ "<lambda>")))
    (fin : ∀ (f cc : Addr) (pm ctv : Value) (H1 : Hp) (s2 : Shared), Made H tb (X.env.qual ++ "<lambda>") tr cc H1 → s2.heap.get? f = some (PySem.W.kla_obj "<lambda>" (X.env.qual ++ "<lambda>") pr body sc (cloFrom X.env.cells sc.names []) pm cc ctv) → s2.heap.CodeRec (.ref cc) (X.env.qual ++ "<lambda>") →
      (∀ b o, b ≠ tb → s.heap.get? b = some o → s2.heap.get? b = some o) → Inv X pins σ H1 s2 → Q (.ref f) s2) :
    wpAny (model X.prog X.w) X.A (eval (.Lambda pr body sc lp) X.env) Q E s := by
  have hT' : s.heap.get? tb = some { cls := .none, data := .fields tr } := I.hok tb _ hT
  have bt := B.bm.keeps I.bk
  have gl := I.mod.glob.keeps I.bk
  have cd := B.code.keeps I.bk
  refine PySem.W.kla_eval hdef ?_
  cases look : codeAmong lp tr.toList with
  | none =>
    refine PySem.W.kla_makeFunction (mg := X.mg) (c := co) (P := tb) (ps := tr) (closure_ok hfr) I.ok.glob gl hco cd hT' h3 look B.gP bt fun c' ctv h' tk hx hge hlt hrec htb => ?_
    obtain ⟨c2, oc, vs, t, e2, hoc, hd, hv⟩ := hrec
    cases e2
    have I1 := inv_table (t' := tk) (more := #[rawInt lp.line, rawInt lp.col, .ref c']) (h' := h'.push (PySem.W.kla_obj "<lambda>" (X.env.qual ++ "<lambda>") pr body sc (cloFrom X.env.cells sc.names []) ((X.mg "__name__").getD .none) c' ctv)) I hT
      (fun b o hb e => Heap.get?_push_of_some _ (hx b o hb e)) (Heap.get?_push_of_some _ htb) hge ⟨oc, vs, t, Heap.get?_push_of_some _ hoc, hd, hv⟩
    have tl : (tr ++ #[rawInt lp.line, rawInt lp.col, .ref c']).toList = tr.toList ++ [rawInt lp.line, rawInt lp.col, .ref c'] := by simp
    refine fin _ c' _ ctv _ _ (.inr ⟨_, I.hok.fresh hge, rfl, ?_, fun p2 cv hc => ?_⟩) (Heap.get?_push_size _ rfl) ⟨c', oc, vs, t, rfl, Heap.get?_push_of_some _ hoc, hd, hv⟩ (fun b o hb e => Heap.get?_push_of_some _ (hx b o hb e)) I1
    · rw [tl]
      exact PySem.TriplesOk_snoc _ _ _ _ h3
    · rw [tl] at hc
      rcases among_app2 _ h3 hc with z | ⟨z, _⟩
      · exact .inl z
      · exact .inr z
  | some cv =>
    obtain ⟨cc, e, hcc⟩ := hrf lp cv look
    subst e
    obtain ⟨⟨oc, vs, t, hoc, hd, hv⟩, _, _⟩ := I.hok cc _ hcc
    refine PySem.W.kla_makeFunctionHit (mg := X.mg) (c := co) (P := tb) (ps := tr) (closure_ok hfr) I.ok.glob gl hco cd hT' h3 look bt fun ctv h' tk hx hsz => ?_
    have I1 : Inv X pins σ H { s with heap := h'.push (PySem.W.kla_obj "<lambda>" (X.env.qual ++ "<lambda>") pr body sc (cloFrom X.env.cells sc.names []) ((X.mg "__name__").getD .none) cc ctv), toks := tk } := I.kept fun b o e => Heap.get?_push_of_some _ (hx b o e)
    exact fin _ cc _ ctv H _ (.inl ⟨rfl, lp, look⟩) (Heap.get?_push_size _ rfl) ⟨cc, oc, vs, t, rfl, Heap.get?_push_of_some _ (hx _ _ hoc), hd, hv⟩ (fun b o _ e => Heap.get?_push_of_some _ (hx b o e)) I1
theorem made_ext0 {K : PySem.W.Frag} {G : Gh} {μ : Mu} {cl : Cl} {n : Nat} {ql : Str} {cc : Addr} {H1 : Hp} {tr : Array Value} (r : Rep K cl G H μ) (hn : μ[n]? = some (.tab ql)) (hT : H cl.tP = some (.tbl tr)) (tg : TabG G tr ql) (M : Made H cl.tP ql tr cc H1) :
    ∃ G1, Ext K cl G H μ G1 H1 μ := by
  rcases M with ⟨rfl, p2, e⟩ | ⟨tr', nc, e, t3, tc⟩
  · exact ⟨G, .refl r⟩
  · have ne : cl.tP ≠ cc := ne_of_none hT nc
    have x1 := Ext.frozen (o := CodeO cc ql) r nc
    have ht := (r.tab hn).1
    have ok : NdOk K cl (gput G cc (CodeO cc ql)) cl.tP (.tbl tr') (.tab ql) := ⟨rfl, t3, fun p2 cv hc => by
      rcases tc p2 cv hc with z | z
      · obtain ⟨c2, e1, e2⟩ := tg.2 p2 cv z
        exact ⟨c2, e1, x1.g.fz _ _ e2⟩
      · exact ⟨cc, z, upd_same⟩⟩
    have x2 := x1.chg (n' := .tab ql) (o' := .tbl tr') (p := cl.tP) (i := n) ht ok
    have em : μ.set n (.tab ql) = μ := by
      have hl := (List.getElem?_eq_some_iff.mp hn)
      obtain ⟨hl, hv⟩ := hl
      rw [← hv]
      exact List.set_getElem_self hl
    rw [em] at x2
    have eH : H1 = upd (upd H cc (CodeO cc ql)) cl.tP (.tbl tr') := by rw [e, upd_swap ne]
    rw [← eH] at x2
    exact ⟨_, x2⟩
/-- a call of lambda x: -N[x], in any heap that holds what stood at its making -/
theorem lam_key {A : Around} {N x : Str} {p1 p2 p3 p4 : Pos} {pr : Arguments} {sc : Scope} {f cc ca L : Addr} {pm ctv : Value} {its : Array Value} {i k : Int} {ti tk0 : Tok} (hA : A.depth < recursionLimit) (hl : s.heap.NoLimit)
    (hf : s.heap.get? f = some (PySem.W.kla_obj "<lambda>" (X.env.qual ++ "<lambda>") pr (.UnaryOp .USub (.Subscript (.Name N p1) (.Name x p2) p3) p4) sc (cloFrom X.env.cells sc.names []) pm cc ctv)) (hc : s.heap.CodeRec (.ref cc) (X.env.qual ++ "<lambda>"))
    (hk : sc.kind = .function) (hco : sc.isCoroutine = false) (hgen : sc.isGenerator = false) (hcell : ∀ y ∈ sc.names, y.2 ≠ .cell) (hN : sc.names.lookup N = some .free) (hx : sc.names.lookup x = some .local) (hne : N ≠ x)
    (hcl : (cloFrom X.env.cells sc.names []).lookup N = some ca) (hca : s.heap.IsCell ca (some (.ref L))) (hL : s.heap.IsList L its) (hi : 0 ≤ i) (hi2 : i < 2 ^ 63) (hit : its[i.toNat]? = some (.int k tk0))
    (hbind : ∀ v, bindArgs (PySem.W.kla_fn "<lambda>" (X.env.qual ++ "<lambda>") pr (.UnaryOp .USub (.Subscript (.Name N p1) (.Name x p2) p3) p4) sc (cloFrom X.env.cells sc.names []) pm (.ref cc) ctv) ⟨[v], []⟩ = pure [(x, v)])
    (hdN : (N == ("__debug__" : Str)) = false) (hcN : (N == ("__classdict__" : Str)) = false) (hdx : (x == ("__debug__" : Str)) = false) :
    wpAny (model X.prog X.w) A (call (.ref f) [.int i ti]) (PySem.W.KeyPure (.int (-k)) s) (fun _ _ => False) s := by
  refine wpAny_call (codeAny_mono (R := fun rr s' => ∃ t, rr = .ok (.ret (.int (-k) t)) ∧ ∃ h' tk, s' = { s with heap := h', toks := tk } ∧ ∀ b o, s.heap.get? b = some o → h'.get? b = some o) ?_ fun rr s' hq => ?_)
  · refine PySem.W.kla_callFunE hA hf rfl hco hgen rfl hc ?_
    rw [hbind]
    refine wpAny_pure (wpAny_newFunctionEnv hcell (fun y hy => ?_) (fun h₁ hns hsb => ⟨hl.fresh _ hsb, ?_⟩) hk)
    · have e : y = (x, .int i ti) := by simpa using hy
      rw [e]; exact hx
    · have kp : ∀ b o, s.heap.get? b = some o → h₁.get? b = some o := fun b o e => hsb.extBut b o (Nat.ne_of_lt (Heap.lt_size e)) (Heap.get?_push_of_some _ e)
      show codeAny _ _ (.expr _ (PySem.W.envX (X.env.qual ++ "<lambda>") sc s.heap.objs.size f (.ref cc) (cloFrom X.env.cells sc.names []))) _ _
      refine PySem.W.kla_codeExpr ?_
      refine wpAny_UnaryOp (wpAny_Subscript_Name F.slot_list_getitem.lookup (wpAny_Name (wpAny_loadName_free (v := .ref L) hk hN hcl ?_ ?_ hcN) hdN))
      · obtain ⟨o, ho, hd⟩ := hca; exact ⟨o, kp _ _ ho, hd⟩
      · refine wpAny_Name (wpAny_loadName_local hk hx hns (v := .int i ti) (by simp [List.lookup]) ⟨?_, ?_⟩) hdx
        · obtain ⟨o, ho, hc, _⟩ := hL; exact ⟨o, kp _ _ ho, hc⟩
        · refine wpAny_getItem_list (items := its) ?_ hi hi2 hit (neg_int ⟨_, rfl, _, _, rfl, fun b o e => kp b o e⟩)
          obtain ⟨o, ho, hc, hd⟩ := hL; exact ⟨o, kp _ _ ho, hc, hd⟩
  · obtain ⟨t, rfl, h', tk, rfl, kp⟩ := hq
    exact ⟨h', tk, rfl, kp, .int _ _⟩
end
/-! ### the rule -/
theorem each_ints : ∀ {n : Nat} {vs : List Value} {lo : Nat}, vs.length = n → (∀ (j : Nat) (v : Value), vs[j]? = some v → ∃ t : Tok, v = Value.int ((lo + j : Nat) : Int) t) → PySem.W.EachIs (fun v (i : Int) => ∃ t : Tok, v = Value.int i t) vs ((List.range' lo n).map fun i : Nat => (i : Int))
  | 0, [], _, _, _ => .nil
  | n + 1, v :: vs, lo, hl, h => by
    rw [List.range'_succ, List.map_cons]
    refine .cons (by simpa using h 0 v rfl) (each_ints (n := n) (lo := lo + 1) (by simpa using hl) fun j u e => ?_)
    obtain ⟨t, z⟩ := h (j + 1) u (by simpa using e)
    exact ⟨t, by rw [z]; congr 1; omega⟩
theorem vals_each : ∀ {vs : List Value} {is : List Int}, PySem.W.EachIs (fun v (i : Int) => ∃ t : Tok, v = Value.int i t) vs is → Vals (is.map V.int) vs
  | _, _, .nil => .nil
  | _, _, .cons h t => .cons h (vals_each t)
def wSortNeg (j n : Nat) (ql : Str) (w : WE) : WE := fun sd μ x k => w sd μ x fun r μ1 => ∃ (m : Int) (ns : List Int), r = .d (.int m) ∧ 0 ≤ m ∧ m ≤ 16777216 ∧ sd[j]? = some (some (.fz (.lst (ns.map D.int)))) ∧ m.toNat ≤ ns.length ∧ μ1[n]? = some (.tab ql) ∧ k (.new (.lst ((srtNeg ns m.toNat).map D.int))) μ1
section
variable {X : Cx} {wd : Wd} {e : Expr} {w : WE} {A : FE}
theorem qe_sortNeg {N x ql : Str} {co : Addr} {j n : Nat} {p p2 p3 pos q1 q2 q3 q4 lp kp : Pos} {pr : Arguments} {sc : Scope} (B : TabB X.base X.mg co wd.cl.tP) (hco : X.env.code = .ref co) (hq : X.env.qual ++ "<lambda>" = ql) (hc : X.calm = true) (hroom : Room 0 X.A)
    (hmS : X.mg "sorted" = none) (hmR : X.mg "range" = none) (he : QE wd X e w) (hNj : X.N[j]? = some N) (hvN : X.env.scope.names.lookup N = some .cell)
    (hdef : defaultsOf pr X.env = ([], [])) (hk : sc.kind = .function) (hcor : sc.isCoroutine = false) (hgen : sc.isGenerator = false) (hcell : ∀ y ∈ sc.names, y.2 ≠ .cell) (hfree : ∀ y ∈ sc.names, y.2 = .free → y.1 = N) (hN : sc.names.lookup N = some .free) (hx : sc.names.lookup x = some .local) (hne : N ≠ x)
    (hbind : ∀ (q : Str) (cl : List (Str × Addr)) (pm cv ctv v : Value), bindArgs (PySem.W.kla_fn "<lambda>" q pr (.UnaryOp .USub (.Subscript (.Name N q1) (.Name x q2) q3) q4) sc cl pm cv ctv) ⟨[v], []⟩ = pure [(x, v)])
    (hdN : (N == ("__debug__" : Str)) = false := by decide) (hcN : (N == ("__classdict__" : Str)) = false := by decide) (hdx : (x == ("__debug__" : Str)) = false := by decide)
    (hgS : Gl X "sorted" := by rfl) (hgR : Gl X "range" := by rfl)
    (na : starEach [e] X.env = (false, eval e X.env) :: starEach [] X.env := by rfl)
    (he1 : backTo pos (starEach [.Call (.Name "range" p2) [e] [] p3] X.env) = (false, eval (.Call (.Name "range" p2) [e] [] p3) X.env) :: backTo pos (starEach [] X.env) := by rfl)
    (hpl : (backTo pos (starEach [.Call (.Name "range" p2) [e] [] p3] X.env)).any (·.1) = false := by rfl)
    (hall : (backToKw pos (keywordEach [⟨some "key", .Lambda pr (.UnaryOp .USub (.Subscript (.Name N q1) (.Name x q2) q3) q4) sc lp, kp⟩] X.env)).all (·.1.isSome) = true := by rfl)
    (hkw : (backToKw pos (keywordEach [⟨some "key", .Lambda pr (.UnaryOp .USub (.Subscript (.Name N q1) (.Name x q2) q3) q4) sc lp, kp⟩] X.env)).any (·.1.isNone) = false := by rfl)
    (hks : (backToKw pos (keywordEach [⟨some "key", .Lambda pr (.UnaryOp .USub (.Subscript (.Name N q1) (.Name x q2) q3) q4) sc lp, kp⟩] X.env)).filterMap (·.1) = [Str.ofString "key"] := by rfl) :
    QE wd X (.Call (.Name "sorted" p) [.Call (.Name "range" p2) [e] [] p3] [⟨some "key", .Lambda pr (.UnaryOp .USub (.Subscript (.Name N q1) (.Name x q2) q3) q4) sc lp, kp⟩] pos) (wSortNeg j n ql w) := by
  subst hq
  refine ⟨⟨fun pins s σ H Q I h => ?_⟩⟩
  obtain ⟨G0, H0, μ0, G, μ, sd, x', k', hxt, hs, hw, hk', hxo⟩ := h
  refine wpAny_Call_Name_kw (ld_blt I hgS hmS boot_sorted ?_)
  refine PyProof.Rows.callWith_kw ?_ he1 hpl hall hkw
  rw [he1]
  refine Calls.spliced_cons (thn (prg_1 hgR hmR he.pe na pins s σ H (fun a b H1 => a = 0 ∧ ∃ (m : Int) (ns : List Int) (μ1 : Mu) (G1 : Gh), b = m ∧ 0 ≤ m ∧ m ≤ 16777216 ∧ sd[j]? = some (some (.fz (.lst (ns.map D.int)))) ∧ m.toNat ≤ ns.length ∧ μ1[n]? = some (.tab (X.env.qual ++ "<lambda>")) ∧ k' (.new (.lst ((srtNeg ns m.toNat).map D.int))) μ1 ∧ Ext X.K wd.cl G H μ G1 H1 μ1) I ?_) ?_)
  · refine ⟨G0, H0, μ0, G, μ, sd, x', _, hxt, hs, hw, fun r μ1 q v G1 H1 e1 rel => ?_, hxo⟩
    obtain ⟨m, ns, rfl, h1, h2, h3, h4, h5, h6⟩ := q
    cases rel
    exact ⟨m, rfl, rfl, m, ns, μ1, G1, rfl, h1, h2, h3, h4, h5, h6, e1⟩
  intro u sA hA
  obtain ⟨r, a, b, t, u', v', H1, rfl, hr, I1, rfl, m, ns, μ1, G1, hbm, hm0, hm1, hsj, hlen, hμ, hkk, x1⟩ := hA
  refine Calls.spliced_nil ?_
  rw [hbm] at hr
  obtain ⟨_, tr, hT, tg⟩ := x1.rep.tab hμ
  have hfr : ∀ y ∈ sc.names, y.2 = .free → ∃ c, X.env.cells.lookup y.1 = some c := fun y hy e => by
    rw [hfree y hy e]
    exact I1.ok.has _ (.inl hvN)
  refine PyProof.Rows.kws_cons (mk_lam (tb := wd.cl.tP) I1 B hco hT tg.1 hdef hfr (fun p2 cv hc => let ⟨c2, e1, e2⟩ := tg.2 p2 cv hc; ⟨c2, e1, x1.rep.sub _ _ e2⟩) fun f cc pm ctv H2 s2 M hf hcd kp2 I2 => ?_)
  refine PyProof.Rows.kws_nil ?_
  rw [hks]
  show wpAny _ _ (call (.builtin "sorted") [.ref r] [(Str.ofString "key", .ref f)]) _ _ _
  obtain ⟨G2, x2⟩ := made_ext0 x1.rep hμ hT tg M
  have hTo : sA.heap.get? wd.cl.tP = some { cls := .none, data := .fields tr } := I1.hok _ _ hT
  have hrt : r ≠ wd.cl.tP := fun z => by
    have hr : sA.heap.get? r = some _ := hr
    rw [z, hTo] at hr
    cases hr
  have hr2 : IsRange s2.heap r 0 m 1 t u' v' := kp2 _ _ hrt hr
  -- the captured list
  obtain ⟨vL, hvL, dL⟩ := hs.at_ j _ hsj
  cases dL with
  | @lst L vs _ hL dvs =>
  have evs := denL_ints dvs
  subst evs
  have hL2 : SqL X.K H2 L (ns.map V.int) := x2.rep.sub.seq ((x1.g.trans x2.g).fz.seq hL)
  obtain ⟨its, rv, pl, hz⟩ := I2.list hL2
  obtain ⟨mm, hnn, hll⟩ := I2.loc
  obtain ⟨uL, ruL, lL⟩ := hll j N (.ref L) hNj hvL (.inr (.inl hvN))
  obtain rfl : uL = Value.ref L := ruL
  obtain ⟨ca, hca, hcaC⟩ : ∃ ca, X.env.cells.lookup N = some ca ∧ s2.heap.IsCell ca (some (.ref L)) := by
    rcases lL with ⟨hk1, _⟩ | ⟨_, c, hc1, hc2⟩
    · have hk1 : X.env.scope.names.lookup N = some .local := hk1
      rw [hvN] at hk1
      cases hk1
    · exact ⟨c, hc1, hc2⟩
  have hcl : (cloFrom X.env.cells sc.names []).lookup N = some ca := by
    obtain ⟨c2, h2⟩ := mem_lookup (cloFrom_has (cells := X.env.cells) (acc := []) (PySem.mem_of_lookup hN))
    rcases cloFrom_mem (PySem.mem_of_lookup h2) with hm | ⟨h1, h3⟩
    · cases hm
    · rw [h2, h3, hca]
      rfl
  have hbn : (m - 0).toNat = m.toNat := by rw [Int.sub_zero]
  refine sorted_of_range (n := m.toNat) (I2.ok.hd hc) hr2 (small_one (by omega) (by omega) (by omega) (by omega)) (by rw [← hbn]; exact rangeSize_nat 0 m) (by omega) (PyProof.Rows.ksk_s1 _ _) (fun _ => PyProof.Rows.ksk_l1 _ _) fun h3 tk3 vs3 kp3 hl3 hv3 E' => ?_
  rw [PyProof.Rows.ksk_t1]
  have I3 : Inv X pins σ H2 { s2 with heap := h3, toks := tk3 } := I2.kept kp3
  have hR : PySem.W.EachIs (fun v (i : Int) => ∃ t : Tok, v = Value.int i t) vs3 ((List.range m.toNat).map fun i : Nat => (i : Int)) := by
    have := each_ints (lo := 0) hl3 fun j v e => by
      obtain ⟨t, z⟩ := hv3 j v e
      exact ⟨t, by rw [z]; congr 1; omega⟩
    rwa [← List.range_eq_range'] at this
  have hz3 : vs3.length ≤ sizeLine := by rw [hl3, sizeLine_eq]; omega
  have lift : ∀ {h : Heap}, PySem.W.KeepsBut h3.objs.size (h3.push (seqObj "list" vs3.toArray 0)) h → ∀ b o, s2.heap.get? b = some o → h.get? b = some o := fun {h} kb b o e => by
    have e1 := kp3 b o e
    exact kb b o (Nat.ne_of_lt (Heap.lt_size e1)) (Heap.get?_push_of_some _ e1)
  refine PySem.W.keyH_tree (kz := ((List.range m.toNat).map fun i : Nat => (i : Int)).map fun i => PyData.int (-(ns.getD i.toNat 0))) (s := { s2 with heap := h3.push (seqObj "list" vs3.toArray 0), toks := tk3 }) (Heap.get?_push_size _ rfl) (by simp [hl3]) hz3
    (PySem.W.AllAlike.of fun _ _ => by simp [PySem.W.alike]) (PySem.W.Sortable.others fun _ => ⟨by simp, by simp⟩) (fun d hd => ?_)
    (PySem.W.keyH_turns (s := { s2 with heap := h3.push (seqObj "list" vs3.toArray 0), toks := tk3 }) (k := fun i => PyData.int (-(ns.getD i.toNat 0))) hR fun v i hvi hib h tk kb => ?_) fun h4 tk4 out c kb hD ko => ⟨rfl, ?_⟩
  · obtain ⟨i, _, rfl⟩ := List.mem_map.mp hd
    have := hroom.un
    show X.A.units + 1 + 1 + (PyData.int _).depth < cLine
    simp only [PyData.depth]
    omega
  · obtain ⟨ti, rfl⟩ := hvi
    obtain ⟨i, hi, rfl⟩ := List.mem_map.mp hib
    rw [List.mem_range] at hi
    have I4 : Inv X pins σ H2 { s2 with heap := h, toks := tk } := I2.kept (lift kb)
    obtain ⟨uu, hu1, hu2⟩ := rv.get (show (ns.map V.int)[i]? = some (V.int (ns.getD i 0)) by
      rw [List.getElem?_map, List.getElem?_eq_getElem (by omega : i < ns.length)]
      simp [List.getD, List.getElem?_eq_getElem (by omega : i < ns.length)])
    obtain ⟨tt, rfl⟩ := hu2
    refine lam_key (X := X) (s := { s2 with heap := h, toks := tk }) (ca := ca) (L := L) (its := its.toArray) (tk0 := tt) ?_ I4.nolimit (lift kb _ _ hf) ?_ hk hcor hgen hcell hN hx hne hcl ?_ ?_ (by omega) (by omega) (by simpa using hu1) (fun v => hbind _ _ _ _ _ v) hdN hcN hdx
    · have := hroom.dp
      show X.A.depth < recursionLimit
      omega
    · obtain ⟨c0, oc, vs0, t0, e0, h0, r0⟩ := hcd
      exact ⟨c0, oc, vs0, t0, e0, lift kb _ _ h0, r0⟩
    · obtain ⟨o, ho, hd⟩ := hcaC
      exact ⟨o, lift kb _ _ ho, hd⟩
    · obtain ⟨o, ho, hc0, hd0⟩ := pl.isList
      exact ⟨o, lift kb _ _ ho, hc0, hd0⟩
  · have eo := PySem.W.keyedOut_each (rev := false) (fun i : Int => PyData.int (-(ns.getD i.toNat 0))) ko hR
    rw [PySem.W.dataLe_int] at eo
    have vo := vals_each eo
    have hlo : ((srtNeg ns m.toNat).map V.int).length ≤ sizeLine := by
      rw [List.length_map]
      unfold srtNeg
      rw [List.length_mergeSort, List.length_map, List.length_range, sizeLine_eq]
      omega
    have hD0 : H2 h3.objs.size = none := I3.hok.fresh (Nat.le_refl _)
    have I5 : Inv X pins σ (upd H2 h3.objs.size (.lst ((srtNeg ns m.toNat).map V.int))) { s2 with heap := h4, toks := tk4 } := I3.laid (a := h3.objs.size) (h' := h4) (t' := tk4) (fun b o e => kb b o (Nat.ne_of_lt (Heap.lt_size e)) (Heap.get?_push_of_some _ e)) (Nat.le_refl _) ⟨hlo, out, c, vo, hD⟩
    have f0 := x2.rep.free hD0
    have x3 := x1.trans x2
    exact ⟨.ref h3.objs.size, _, I5, rfl, hk' _ _ hkk _ G2 _ (x3.trans (Ext.loose x2.rep hD0)) ⟨_, _, rfl, x3.dom _ hD0, upd_same, (DenL.ints _ : DenL X.K wd.cl G2 ((srtNeg ns m.toNat).map V.int) ((srtNeg ns m.toNat).map D.int)), f0.1, f0.2⟩⟩
/-! ### as a function -/
def allI : List D → Option (List Int)
  | [] => some []
  | .int i :: ds => (allI ds).map fun is => i :: is
  | _ => none
theorem allI_eq : ∀ {ds : List D} {is : List Int}, allI ds = some is → ds = is.map D.int
  | [], is, h => by cases h; rfl
  | .int i :: ds, is, h => by
    obtain ⟨js, e1, rfl⟩ := Option.map_eq_some_iff.mp (show (allI ds).map (fun is => i :: is) = some is from h)
    rw [allI_eq e1]
    rfl
  | .non :: _, _, h => by cases h
  | .bl _ :: _, _, h => by cases h
  | .str _ :: _, _, h => by cases h
  | .lst _ :: _, _, h => by cases h
  | .tup _ :: _, _, h => by cases h
  | .dic _ _ :: _, _, h => by cases h
  | .ref _ :: _, _, h => by cases h
@[simp] theorem allI_map : ∀ {is : List Int}, allI (is.map D.int) = some is
  | [] => rfl
  | i :: is => by rw [List.map_cons, allI, allI_map]; rfl
def lintOf (o : Option (Option SV)) : Option (List Int) := match o with
  | some (some (.fz (.lst ds))) => allI ds
  | _ => none
@[simp] theorem lintOf_lst {is : List Int} : lintOf (some (some (.fz (.lst (is.map D.int))))) = some is := allI_map
theorem lintOf_eq {o : Option (Option SV)} {is : List Int} (h : lintOf o = some is) : o = some (some (.fz (.lst (is.map D.int)))) := by
  unfold lintOf at h
  split at h
  · rw [allI_eq h]
  · cases h
def srtK (ns : List Int) (m : Int) (ql : Str) (o : Option Nd) (μ : Mu) : Out R := match o with
  | some (.tab q) => if q = ql ∧ 0 ≤ m ∧ m ≤ 16777216 ∧ m.toNat ≤ ns.length then .ok (.new (.lst ((srtNeg ns m.toNat).map D.int))) μ else .no
  | _ => .no
@[simp] theorem srtK_tab {ns : List Int} {m : Int} {ql : Str} {μ : Mu} : srtK ns m ql (some (.tab ql)) μ = if 0 ≤ m ∧ m ≤ 16777216 ∧ m.toNat ≤ ns.length then .ok (.new (.lst ((srtNeg ns m.toNat).map D.int))) μ else .no := by
  show (if ql = ql ∧ 0 ≤ m ∧ m ≤ 16777216 ∧ m.toNat ≤ ns.length then _ else _) = _
  simp
def fSortNeg (j n : Nat) (ql : Str) (A : FE) : FE := fun sd μ => (A sd μ).bind fun r μ1 => (Out.of (iOf r) μ1).bind fun m μ1 => (Out.of (lintOf sd[j]?) μ1).bind fun ns μ1 => srtK ns m ql μ1[n]? μ1
@[simp] theorem fSortNeg_ap {j n : Nat} {ql : Str} {sd : SD} {μ : Mu} : fSortNeg j n ql A sd μ = (A sd μ).bind fun r μ1 => (Out.of (iOf r) μ1).bind fun m μ1 => (Out.of (lintOf sd[j]?) μ1).bind fun ns μ1 => srtK ns m ql μ1[n]? μ1 := rfl
theorem fSortNeg_le {j n : Nat} {ql : Str} {sd : SD} {μ : Mu} {x : XT} {k : R → Mu → Prop} (h : ofE (fSortNeg j n ql A) sd μ x k) : wSortNeg j n ql (ofE A) sd μ x k :=
  sat_mono (sat_bind h) fun r μ1 h => by
    obtain ⟨m, e1, h⟩ := sat_of (sat_bind h)
    obtain ⟨ns, e2, h⟩ := sat_of (sat_bind h)
    generalize eo : μ1[n]? = o at h
    match o, h with
    | some (.tab q), h =>
      have h : (if q = ql ∧ 0 ≤ m ∧ m ≤ 16777216 ∧ m.toNat ≤ ns.length then Out.ok (R.new (.lst ((srtNeg ns m.toNat).map D.int))) μ1 else .no).sat x k := h
      obtain ⟨⟨eq, h1, h2, h3⟩, h⟩ := sat_ite h
      exact ⟨m, ns, iOf_eq e1, h1, h2, lintOf_eq e2, h3, by rw [eq], h⟩
    | some (.box _), h => exact h.elim
    | some (.ins _ _), h => exact h.elim
    | none, h => exact h.elim
theorem fe_sortNeg {N x ql : Str} {co : Addr} {j n : Nat} {p p2 p3 pos q1 q2 q3 q4 lp kp : Pos} {pr : Arguments} {sc : Scope} (B : TabB X.base X.mg co wd.cl.tP) (hco : X.env.code = .ref co) (hq : X.env.qual ++ "<lambda>" = ql) (hc : X.calm = true) (hroom : Room 0 X.A)
    (hmS : X.mg "sorted" = none) (hmR : X.mg "range" = none) (he : QE wd X e (ofE A)) (hvN : X.env.scope.names.lookup N = some .cell)
    (hk : sc.kind = .function) (hcor : sc.isCoroutine = false) (hgen : sc.isGenerator = false) (hcell : ∀ y ∈ sc.names, y.2 ≠ .cell) (hfree : ∀ y ∈ sc.names, y.2 = .free → y.1 = N) (hN : sc.names.lookup N = some .free) (hx : sc.names.lookup x = some .local) (hne : N ≠ x)
    (hbind : ∀ (q : Str) (cl : List (Str × Addr)) (pm cv ctv v : Value), bindArgs (PySem.W.kla_fn "<lambda>" q pr (.UnaryOp .USub (.Subscript (.Name N q1) (.Name x q2) q3) q4) sc cl pm cv ctv) ⟨[v], []⟩ = pure [(x, v)])
    (hNj : X.N[j]? = some N := by rfl) (hdef : defaultsOf pr X.env = ([], []) := by rfl)
    (hdN : (N == ("__debug__" : Str)) = false := by decide) (hcN : (N == ("__classdict__" : Str)) = false := by decide) (hdx : (x == ("__debug__" : Str)) = false := by decide)
    (hgS : Gl X "sorted" := by rfl) (hgR : Gl X "range" := by rfl)
    (na : starEach [e] X.env = (false, eval e X.env) :: starEach [] X.env := by rfl)
    (he1 : backTo pos (starEach [.Call (.Name "range" p2) [e] [] p3] X.env) = (false, eval (.Call (.Name "range" p2) [e] [] p3) X.env) :: backTo pos (starEach [] X.env) := by rfl)
    (hpl : (backTo pos (starEach [.Call (.Name "range" p2) [e] [] p3] X.env)).any (·.1) = false := by rfl)
    (hall : (backToKw pos (keywordEach [⟨some "key", .Lambda pr (.UnaryOp .USub (.Subscript (.Name N q1) (.Name x q2) q3) q4) sc lp, kp⟩] X.env)).all (·.1.isSome) = true := by rfl)
    (hkw : (backToKw pos (keywordEach [⟨some "key", .Lambda pr (.UnaryOp .USub (.Subscript (.Name N q1) (.Name x q2) q3) q4) sc lp, kp⟩] X.env)).any (·.1.isNone) = false := by rfl)
    (hks : (backToKw pos (keywordEach [⟨some "key", .Lambda pr (.UnaryOp .USub (.Subscript (.Name N q1) (.Name x q2) q3) q4) sc lp, kp⟩] X.env)).filterMap (·.1) = [Str.ofString "key"] := by rfl) :
    QE wd X (.Call (.Name "sorted" p) [.Call (.Name "range" p2) [e] [] p3] [⟨some "key", .Lambda pr (.UnaryOp .USub (.Subscript (.Name N q1) (.Name x q2) q3) q4) sc lp, kp⟩] pos) (ofE (fSortNeg j n ql A)) :=
  (qe_sortNeg (j := j) (n := n) B hco hq hc hroom hmS hmR he hNj hvN hdef hk hcor hgen hcell hfree hN hx hne hbind hdN hcN hdx hgS hgR na he1 hpl hall hkw hks).imp fun sd μ x k h => fSortNeg_le h
end
end TL
/-! TL: an expression that is never reached (the innermost call of a def that calls itself) -/
namespace TL
open PySem PySem.Spec PyProof.Rows L2
def fNoE : FE := fun _ _ => .no
@[simp] theorem fNoE_ap {sd : SD} {μ : Mu} : fNoE sd μ = .no := rfl
theorem fe_none {X : Cx} {wd : Wd} {e : Expr} : QE wd X e (ofE fNoE) := ⟨⟨fun pins s σ H Q I h => by
  obtain ⟨G0, H0, μ0, G, μ, sd, x', k', hxt, hs, hw, hk', hxo⟩ := h
  exact False.elim hw⟩⟩
end TL
/-! TL: x.extend(e), x own, e a new list -/
namespace TL
open PySem PySem.Spec PyProof.Rows L2
section
variable {X : Cx} {wd : Wd} {e : Expr} {w : WE} {A : FE} {pos : Pos}
def wExt (i : Nat) (w : WE) : WS := fun E sd μ => match sd[i]? with
  | some (some (.own (.lst ds))) => w sd μ (E.x sd) fun r μ' => ∃ es, r = .new (.lst es) ∧ ds.length + es.length ≤ sizeLine ∧ E.nx (sd.set i (some (.own (.lst (ds ++ es))))) μ'
  | _ => False
theorem qs_ext {i : Nat} {x : Str} {p apos cpos : Pos} (he : QE wd X e w) (hN : X.N[i]? = some x := by rfl) (hv : Vis X.env.scope x := by first | exact Or.inl rfl | exact Or.inr (Or.inl rfl) | exact Or.inr (Or.inr rfl)) (hd : (x == ("__debug__" : Str)) = false := by decide)
    (hcd : (x == ("__classdict__" : Str)) = false := by decide) (hst : starEach [e] X.env = (false, eval e X.env) :: starEach [] X.env := by rfl)
    (hbase : attributeBase (.Name x p) "extend" X.env (eval (.Name x p) X.env) = eval (.Name x p) X.env := by rfl)
    (hfew : ((backTo cpos (starEach [e] X.env)).all (fun x => !x.1) && (backToKw cpos (keywordEach [] X.env)).all (fun x => x.1.isSome)
      && decide ([e].length + ([] : List Keyword).length + (if ([] : List Keyword).isEmpty then 0 else 1) < 30)) = true := by rfl)
    (hline : (apos.endLine == cpos.line) = true := by rfl) (hplain : (backTo cpos (starEach [] X.env)).any (·.1) = false := by rfl) (hs : swapsWith (.Call (.Attribute (.Name x p) "extend" apos) [e] [] cpos) none pos.line X.env = pure false := by rfl) :
    QS wd X (.Expr (.Call (.Attribute (.Name x p) "extend" apos) [e] [] cpos) pos) (wExt i w) := by
  refine ⟨PS.imp (ps_expr (pe_bm PySem.F.plainAttrs_list PySem.F.slot_list_extend PySem.F.type_list_extend mt_extend (pe_var hN hv hd hcd) (pa_cons he.pe pa_nil hst) hbase hfew hline hst hplain) hs) fun D σ H ⟨G0, H0, μ0, G, μ, sd, E, hx, hsl, hw, hE⟩ => ?_⟩
  unfold wExt at hw
  split at hw
  · rename_i ds q
    obtain ⟨p, o, r1, r2, r3, r4, r5, r6⟩ := hsl.own q
    obtain ⟨vs, rfl, r3⟩ := r3.lst
    refine ⟨.ref p, r1, .inl ⟨rfl, vs, SqL.of r2⟩, ?_⟩
    refine ⟨G0, H0, μ0, G, μ, sd, _, _, hx, hsl, hw, fun r μ' q' v G' H' e' rel => ?_, hE.xok hx hsl⟩
    obtain ⟨es, rfl, hz, q'⟩ := q'
    obtain ⟨b, o2, rfl, hb0, hb, ct, hbf, hbr⟩ := rel
    obtain ⟨zs, rfl, dz⟩ := ct.lst
    obtain ⟨t1, t2, t3⟩ := e'.fr p _ r2 r4 r5
    refine ⟨p, b, vs, zs, rfl, rfl, t1, hb, by rw [r3.len, dz.len]; exact hz, ?_⟩
    obtain ⟨x1, x2⟩ := Slots.chg (es := .lst (ds ++ es)) (us := .lst (vs ++ zs)) (hx.trans e') (hsl.step e') q r1 t1 (fun _ z => by cases z) t2 t3 r6 ((DenL.mono e'.g _ _ r3).app dz)
    exact hE.nx _ _ q' σ G' _ x1 x2
  · exact hw.elim
def newL : R → Option (List D)
  | .new (.lst es) => some es
  | _ => none
theorem newL_eq {r : R} {es : List D} (h : newL r = some es) : r = .new (.lst es) := by
  unfold newL at h
  split at h
  · cases h; rfl
  · cases h
@[simp] theorem newL_new {es : List D} : newL (.new (.lst es)) = some es := rfl
def sExt (i : Nat) (A : FE) : FS := fun sd μ => thenL sd i fun ds => thenS ((A sd μ).bind fun r μ' => Out.of (newL r) μ') sd fun es μ' => if ds.length + es.length ≤ sizeLine then .nx (sd.set i (some (.own (.lst (ds ++ es))))) μ' else .no
@[simp] theorem sExt_ap {i : Nat} {sd : SD} {μ : Mu} : sExt i A sd μ = thenL sd i fun ds => thenS ((A sd μ).bind fun r μ' => Out.of (newL r) μ') sd fun es μ' => if ds.length + es.length ≤ sizeLine then .nx (sd.set i (some (.own (.lst (ds ++ es))))) μ' else .no := rfl
theorem sExt_le {i : Nat} {E : TEn} {sd : SD} {μ : Mu} (h : ofS (sExt i A) E sd μ) : wExt i (ofE A) E sd μ := by
  obtain ⟨ds, q, h⟩ := sat_thenL h
  unfold wExt
  rw [q]
  exact sat_mono (sat_bind (sat_thenS h)) fun r μ' h => by
    obtain ⟨es, e, h⟩ := sat_of h
    obtain ⟨h1, h2⟩ := sat_iteS h
    exact ⟨es, newL_eq e, h1, h2⟩
theorem fs_ext {i : Nat} {x : Str} {p apos cpos : Pos} (he : QE wd X e (ofE A)) (hN : X.N[i]? = some x := by rfl) (hv : Vis X.env.scope x := by first | exact Or.inl rfl | exact Or.inr (Or.inl rfl) | exact Or.inr (Or.inr rfl)) (hd : (x == ("__debug__" : Str)) = false := by decide)
    (hcd : (x == ("__classdict__" : Str)) = false := by decide) (hst : starEach [e] X.env = (false, eval e X.env) :: starEach [] X.env := by rfl)
    (hbase : attributeBase (.Name x p) "extend" X.env (eval (.Name x p) X.env) = eval (.Name x p) X.env := by rfl)
    (hfew : ((backTo cpos (starEach [e] X.env)).all (fun x => !x.1) && (backToKw cpos (keywordEach [] X.env)).all (fun x => x.1.isSome)
      && decide ([e].length + ([] : List Keyword).length + (if ([] : List Keyword).isEmpty then 0 else 1) < 30)) = true := by rfl)
    (hline : (apos.endLine == cpos.line) = true := by rfl) (hplain : (backTo cpos (starEach [] X.env)).any (·.1) = false := by rfl) (hs : swapsWith (.Call (.Attribute (.Name x p) "extend" apos) [e] [] cpos) none pos.line X.env = pure false := by rfl) :
    QS wd X (.Expr (.Call (.Attribute (.Name x p) "extend" apos) [e] [] cpos) pos) (ofS (sExt i A)) := (qs_ext he hN hv hd hcd hst hbase hfew hline hplain hs).imp fun E sd μ h => sExt_le h
end
end TL
/-! TL: len(d) of a dict with tuples for keys -/
namespace TL
open PySem PySem.Spec PyProof.Rows L2
section
variable {prog : Program} {w : World} {A : Around} {E : Value → Shared → Prop} {s : Shared} {d : Addr} {es : Array DictEntry} {ep : Nat}
theorem len_raw {Q : Value → Shared → Prop} (hd : (d == sysModules) = false) (hm : s.heap.DictRaw d es ep) (hfit : (es.size : Int) < 2 ^ 63)
    (h : Q (.int es.size (s.toks + 1)) { s with toks := s.toks + 1 + 1 }) : wpAny (model prog w) A (call (.builtin "len") [.ref d]) Q E s := by
  refine Calls.call_function_entry kind_len plain_len entry_len (args_len1 _) ?_
  unfold Builtin.«len»
  refine wpAny_bind (m := oneArg "len" _) (wpAny_pure ?_)
  refine wpAny_bind (m := callSpecial? (.ref d) (Str.ofString "__len__")) (wpAny_callSpecial?_slot (name := Str.ofString "__len__") hm.typeIs F.slot_dict_len
    (call_meetsIn F.slot_dict_len hm.typeIs F.entry_dict_len (F.args_dict_len_1 _) (meets_dict_len_raw d hd) ⟨es, ep, hm, ?_⟩))
  show wpAny _ _ _ _ _ { s with toks := s.toks + 1 }
  refine wpAny_bind (wpAny_holding (wpAny_pure ?_))
  refine wpAny_bind (wpAny_letGo ?_)
  show wpAny _ _ (if ((es.size : Nat) : Int) < 0 then _ else _) _ _ _
  rw [if_neg (by omega)]
  show wpAny _ _ (if ((es.size : Nat) : Int) ≥ 2 ^ 63 then _ else _) _ _ _
  rw [if_neg (by omega)]
  exact wpAny_bind (wpAny_mkInt (wpAny_pure ⟨_, rfl, h⟩))
end
section
variable {X : Cx} {wd : Wd}
theorem call_len_dicT : CallR X (.builtin "len") (fun xs H Q => ∃ p ep kvs, xs = [.ref p] ∧ Rd H p (.ext (DicT X.prog X.w p ep kvs)) ∧ Q (.int ((kvs.length : Nat) : Int)) H) := by
  intro pins s σ H xs us Q I r h
  obtain ⟨p, ep, kvs, rfl, hp, q⟩ := h
  obtain ⟨u, rfl, rx⟩ := r.one
  obtain rfl : u = Value.ref p := rx
  have dd := dicT_rd I.hok hp
  have hz : kvs.length ≤ sizeLine := dd.1
  obtain ⟨hs, o, es, h4, h5, h6, hsz, hen⟩ := dicT_raw dd
  refine len_raw hs ⟨o, h4, h5, h6⟩ (by rw [hsz]; rw [sizeLine_eq] at hz; omega) ?_
  rw [hsz]
  exact ⟨.int kvs.length, H, I.tok _, ⟨_, rfl⟩, q⟩
def bLenD : BP := fun ds k => match ds with
  | [.dic true ds] => k (.d (.int ds.length))
  | _ => False
theorem ct_lenD (cp : CurP wd X) : CallT wd X (.builtin "len") bLenD := by
  refine ⟨_, call_len_dicT, fun vs ds G H μ k Q r hd ho hk => ?_⟩
  match ds, ho with
  | [.dic true ds], ho =>
    obtain ⟨v, rfl, h1⟩ := den1_1 hd
    obtain ⟨a, ob, rfl, hr, ok⟩ := h1
    obtain ⟨ep, xs, rfl, dx⟩ := ok.dicT
    rw [cp.p, cp.w] at hr
    refine ⟨a, ep, xs, rfl, hr, ?_⟩
    rw [denT_len dx]
    exact hk _ ho _ G H (.refl r) (Den.int _)
def fbLenD : FBp := fun ds => match ds with
  | [.dic true ds] => some (.d (.int ds.length))
  | _ => none
theorem bf_lenD : BpF bLenD fbLenD := fun ds r k e q => by
  unfold fbLenD at e
  split at e
  · cases e; exact q
  · cases e
@[simp] theorem fbLenD_ap {ds : List (NestedKey × D)} : fbLenD [.dic true ds] = some (.d (.int ds.length)) := rfl
end
end TL
/-! TL: list(d) of a dict with tuples for keys; an own thing lent to a statement -/
namespace TL
open PySem PySem.Spec PyProof.Rows L2
section
variable {X : Cx} {wd : Wd}
theorem call_list_dicT (hc : X.calm = true) : CallR X (.type "list") (fun vs H Q => ∃ d ep xs, vs = [V.ref d] ∧ Rd H d (.ext (DicT X.prog X.w d ep xs)) ∧ ∀ p, H p = none → Q (.ref p) (upd H p (.lst ((xs.map fun x => x.2.1).map V.ref)))) := by
  intro pins s σ H vs us Q I r h
  obtain ⟨d, ep, ks, rfl, hd, q⟩ := h
  obtain ⟨u, rfl, rx⟩ := r.one
  cases rx
  have dd := dicT_rd I.hok hd
  have hz0 : ks.length ≤ sizeLine := dd.1
  obtain ⟨hs, o, es, ho, hx, hdt, l1, hen⟩ := dicT_raw dd
  refine PySem.W.kdl_call (kdl_raw hs hx hdt) (I.ok.hd hc) ho (by omega) fun h' tk acc' c' kp e it => ?_
  have ea : acc'.toList = ks.map fun x => Value.ref x.2.1 := by
    have hl : acc'.toList.length = ks.length := by rw [Array.length_toList, it.1]; exact l1
    apply List.ext_getElem?
    intro j
    rw [List.getElem?_map]
    cases hj : acc'.toList[j]? with
    | none =>
      have h1 := List.getElem?_eq_none_iff.mp hj
      rw [List.getElem?_eq_none (by omega)]
      all_goals rfl
    | some v =>
      obtain ⟨en, hen', hv⟩ := it.2 j v (by rw [← Array.getElem?_toList]; exact hj)
      have qe := hen j
      rw [hen'] at qe
      cases hb : ks[j]? with
      | none =>
        rw [hb] at qe
        exact nomatch (show some en = none from qe)
      | some b =>
        rw [hb] at qe
        have e2 : en = entryOfKey (nestedKind X.prog X.w) b := Option.some.inj qe
        rw [hv, e2]
        all_goals rfl
  have eb : acc'.toList = (ks.map fun x => x.2.1).map Value.ref := by rw [ea, List.map_map]; all_goals rfl
  have rv : Vals ((ks.map fun x => x.2.1).map V.ref) acc'.toList := by rw [eb]; exact vals_refs _
  have hz : ((ks.map fun x => x.2.1).map V.ref).length ≤ sizeLine := by rw [List.length_map, List.length_map]; omega
  refine ⟨.ref s.heap.objs.size, _, I.laid (t' := tk) (o := .lst ((ks.map fun x => x.2.1).map V.ref)) kp (Nat.le_refl _) ?_, rfl, q _ (I.hok.fresh (Nat.le_refl _))⟩
  exact ⟨hz, acc'.toList, c', rv, by rw [Array.toArray_toList]; exact e⟩
theorem denT_refs {K : PySem.W.Frag} {cl : Cl} {G : Gh} : ∀ {xs : List (NestedKey × Addr × Value)} {ds : List (NestedKey × D)}, DenT K cl G xs ds → DenL K cl G ((xs.map fun x => x.2.1).map V.ref) (keD ds)
  | _, _, .nil => .nil
  | _, _, .cons h0 h1 h2 h => .cons (KDen.den _ _ h0) (denT_refs h)
def bListD : BP := fun ds k => match ds with
  | [.dic true ds] => k (.new (.lst (keD ds)))
  | _ => False
theorem ct_listD (cp : CurP wd X) (hc : X.calm = true) : CallT wd X (.type "list") bListD := by
  refine ⟨_, call_list_dicT hc, fun vs ds G H μ k Q r hd ho hk => ?_⟩
  match ds, ho with
  | [.dic true ds], ho =>
    obtain ⟨v, rfl, h1⟩ := den1_1 hd
    obtain ⟨a, ob, rfl, hr, ok⟩ := h1
    obtain ⟨ep, xs, rfl, dx⟩ := ok.dicT
    rw [cp.p, cp.w] at hr
    exact ⟨a, ep, xs, rfl, hr, new_lst r (denT_refs dx) hk ho⟩
def fbListD : FBp := fun ds => match ds with
  | [.dic true ds] => some (.new (.lst (keD ds)))
  | _ => none
theorem bf_listD : BpF bListD fbListD := fun ds r k e q => by
  unfold fbListD at e
  split at e
  · cases e; exact q
  · cases e
@[simp] theorem fbListD_ap {ds : List (NestedKey × D)} : fbListD [.dic true ds] = some (.new (.lst (keD ds))) := rfl
end

/-! ### an own thing, lent -/
/-- the slots hold nothing of number n or more -/
def slotB (n : Nat) : Option SV → Bool
  | none => true
  | some (.fz d) => below n d
  | some (.own c) => below n c
  | some (.exc _ _) => false
  | some (.fn _) => false
def slotsB (n : Nat) : Nat → SD → Bool
  | _, [] => true
  | 0, _ :: r => r.all (slotB n)
  | i + 1, s :: r => slotB n s && slotsB n i r
theorem slotsB_at : ∀ {n i : Nat} {sd : SD}, slotsB n i sd = true → ∀ j s, j ≠ i → sd[j]? = some s → slotB n s = true
  | n, i, [], _, j, s, _, e => by simp at e
  | n, 0, a :: r, h, 0, s, hj, e => (hj rfl).elim
  | n, 0, a :: r, h, j + 1, s, _, e => by
    have h : r.all (slotB n) = true := h
    exact List.all_eq_true.mp h s (List.mem_of_getElem? (by simpa using e))
  | n, i + 1, a :: r, h, 0, s, _, e => by
    have h : (slotB n a && slotsB n i r) = true := h
    simp at e
    subst e
    simp only [Bool.and_eq_true] at h
    exact h.1
  | n, i + 1, a :: r, h, j + 1, s, hj, e => by
    have h : (slotB n a && slotsB n i r) = true := h
    simp only [Bool.and_eq_true] at h
    exact slotsB_at h.2 j s (fun z => hj (by rw [z])) (by simpa using e)
section
variable {K : PySem.W.Frag} {wd : Wd} {cl : Cl} {G0 G G1 : Gh} {H0 H : Hp} {μ0 μ : Mu} {σ : L2.St} {sd : SD}
/-- the own thing of slot i is told of, as the last one -/
theorem Slots.tell {i : Nat} {c : D} (x : Ext K wd.cl G0 H0 μ0 G H μ) (h : Slots K wd H0 G H μ σ sd) (hi : sd[i]? = some (some (.own c))) :
    ∃ G', Ext K wd.cl G0 H0 μ0 G' H (μ ++ [.box c]) ∧ Slots K wd H0 G' H (μ ++ [.box c]) σ (sd.set i (some (.fz (.ref μ.length)))) := by
  obtain ⟨v, hv, p, o, rfl, hp, hd, hg, hm, h0⟩ := h.at_ i _ hi
  have hil : i < sd.length := (List.getElem?_eq_some_iff.mp hi).1
  refine ⟨gnew G p, x.tell h0 hp hg hm hd, by rw [List.length_set]; exact h.len, fun j s q => ?_, fun j k v' fs gs hjk q1 q2 q3 q4 => ?_⟩
  · by_cases e : i = j
    · subst e
      rw [List.getElem?_set_self hil] at q
      cases q
      refine ⟨_, hv, Den.ref ?_⟩
      exact gnew_at x.rep
    · rw [List.getElem?_set_ne e] at q
      obtain ⟨u, q1, q2⟩ := h.at_ j s q
      refine ⟨u, q1, ?_⟩
      cases s with
      | fz d => exact Den.mono gle_new _ _ q2
      | own fs =>
        obtain ⟨p', vs', rfl, r2, r3, r4, r5, r6⟩ := q2
        have hne : p' ≠ p := fun z => h.sep i j (.ref p) c fs e hi q hv (by rw [← z]; exact q1)
        refine ⟨p', vs', rfl, r2, r3.mono gle_new, r4, fun z => ?_, r6⟩
        have z : p' ∈ G.ρ ++ [p] := z
        rw [List.mem_append, List.mem_singleton] at z
        rcases z with z | z
        · exact r5 z
        · exact hne z
      | exc c' fs =>
        obtain ⟨a, C, d, r1, r2, r3, r4⟩ := q2
        refine ⟨a, C, d, r1, r2, r3, ?_⟩
        rcases r4 with r4 | ⟨dd, ws, t1, t2, t3, t4, t5⟩
        · exact .inl r4
        · refine .inr ⟨dd, ws, t1, t2, DenF.mono gle_new _ _ t3, t4, fun z => ?_⟩
          have z : dd ∈ G.ρ ++ [p] := z
          rw [List.mem_append, List.mem_singleton] at z
          rcases z with z | z
          · exact t5 z
          · exact ne_of t2 hp (hd.nxd _).symm z
      | fn caps => exact fun G1 g1 => q2 G1 (gle_new.trans g1)
  · have ne : ∀ {j : Nat} {fs : D}, (sd.set i (some (.fz (.ref μ.length))))[j]? = some (some (.own fs)) → i ≠ j := fun {j fs} q e => by
      subst e
      rw [List.getElem?_set_self hil] at q
      cases q
    have e1 := ne q1
    have e2 := ne q2
    rw [List.getElem?_set_ne e1] at q1
    rw [List.getElem?_set_ne e2] at q2
    exact h.sep j k v' fs gs hjk q1 q2 q3 q4
/-- the last thing told of is slot i's own again -/
theorem Slots.untell {i n : Nat} {c : D} (hn : G0.ρ.length ≤ n) (x : Ext K wd.cl G0 H0 μ0 G H (μ ++ [.box c])) (hl : μ.length = n) (h : Slots K wd H0 G H (μ ++ [.box c]) σ sd) (hi : sd[i]? = some (some (.fz (.ref n))))
    (hb : slotsB n i sd = true) (hc : below n c = true) (hm : μ.all (belowN n) = true) :
    ∃ G', Ext K wd.cl G0 H0 μ0 G' H μ ∧ Slots K wd H0 G' H μ σ (sd.set i (some (.own c))) := by
  obtain ⟨v, hv, den⟩ := h.at_ i _ hi
  have hil : i < sd.length := (List.getElem?_eq_some_iff.mp hi).1
  cases den with
  | @ref p _ hp =>
  have hlen : G.ρ.length = n + 1 := by rw [x.rep.len, List.length_append, hl]; rfl
  have eρ : G.ρ = G.ρ.take n ++ [p] := by
    apply List.ext_getElem?
    intro j
    by_cases hj : j < n
    · rw [List.getElem?_append_left (by rw [List.length_take]; omega), List.getElem?_take, if_pos hj]
    · by_cases hj2 : j = n
      · subst hj2
        rw [hp, List.getElem?_append_right (by rw [List.length_take]; omega)]
        have : j - (G.ρ.take j).length = 0 := by rw [List.length_take]; omega
        rw [this]; rfl
      · rw [List.getElem?_eq_none (by omega), List.getElem?_eq_none (by rw [List.length_append, List.length_take]; simp; omega)]
  have nd : p ∉ G.ρ.take n := by
    have := x.rep.nd
    rw [eρ, List.nodup_append] at this
    exact fun z => this.2.2 p z p (by simp) rfl
  let G' : Gh := ⟨G.fz, G.ρ.take n⟩
  have gsh : GSh n G G' := ⟨Same.refl _, fun m a hm' q => by
    show (G.ρ.take n)[m]? = some a
    rw [List.getElem?_take, if_pos hm']; exact q⟩
  obtain ⟨hpg, m, o, q1, q2, ok⟩ := x.rep.node n p hp
  rw [List.getElem?_append_right (by omega), hl, Nat.sub_self] at q1
  cases q1
  have h0p : H0 p = none := by
    cases e0 : H0 p with
    | none => rfl
    | some u =>
      exfalso
      have g0 : G0.fz p = none := x.g.fz.free hpg
      have r0 : p ∉ G0.ρ := by
        intro hz
        obtain ⟨j, hj⟩ := List.mem_iff_getElem?.mp hz
        have lj : j < G0.ρ.length := (List.getElem?_eq_some_iff.mp hj).1
        have h1 := x.g.at hj
        have := nodup_at x.rep.nd h1 hp
        omega
      exact (x.fr p u e0 g0 r0).2.2 (List.mem_of_getElem? hp)
  refine ⟨G', ⟨⟨x.g.fz, ?_⟩, ⟨x.rep.sub, ?_, ?_, fun m a q => ?_⟩, x.dom, fun a u q g mm => ?_⟩, ?_⟩
  · show G0.ρ <+: G.ρ.take n
    exact List.prefix_take_iff.mpr ⟨x.g.pre, hn⟩
  · show (G.ρ.take n).length = μ.length
    rw [List.length_take]; omega
  · exact (List.take_sublist _ _).nodup x.rep.nd
  · have q : (G.ρ.take n)[m]? = some a := q
    rw [List.getElem?_take] at q
    split at q
    · rename_i hmn
      obtain ⟨ga, m', u, z1, z2, ok'⟩ := x.rep.node m a q
      rw [List.getElem?_append_left (by omega)] at z1
      exact ⟨ga, m', u, z1, z2, NdOk.shrink gsh (List.all_eq_true.mp hm m' (List.mem_of_getElem? z1)) ok'⟩
    · cases q
  · obtain ⟨e1, e2, e3⟩ := x.fr a u q g mm
    exact ⟨e1, e2, fun z => e3 (List.mem_of_mem_take z)⟩
  · refine ⟨by rw [List.length_set]; exact h.len, fun j s q => ?_, fun j k v' fs gs hjk z1 z2 z3 z4 => ?_⟩
    · by_cases e : i = j
      · subst e
        rw [List.getElem?_set_self hil] at q
        cases q
        exact ⟨_, hv, p, o, rfl, q2, CtOk.shrink gsh hc ok, hpg, nd, h0p⟩
      · rw [List.getElem?_set_ne e] at q
        obtain ⟨u, z1, z2⟩ := h.at_ j s q
        have sb := slotsB_at hb j _ (Ne.symm e) q
        refine ⟨u, z1, ?_⟩
        cases s with
        | fz d => exact Den.shrink gsh _ _ sb z2
        | own fs =>
          obtain ⟨p', vs', rfl, r2, r3, r4, r5, r6⟩ := z2
          exact ⟨p', vs', rfl, r2, CtOk.shrink gsh sb r3, r4, fun z => r5 (List.mem_of_mem_take z), r6⟩
        | exc c' fs => cases sb
        | fn caps => cases sb
    · have cs : ∀ {j : Nat} {fs : D}, (sd.set i (some (.own c)))[j]? = some (some (.own fs)) → (i = j) ∨ sd[j]? = some (some (.own fs)) := fun {j fs} q => by
        by_cases e : i = j
        · exact .inl e
        · rw [List.getElem?_set_ne e] at q; exact .inr q
      have nop : ∀ {k : Nat} {gs : D}, sd[k]? = some (some (.own gs)) → σ[k]? ≠ some (some (.ref p)) := fun {k gs} q z => by
        obtain ⟨p', vs', z1, r2, r3, r4, r5, r6⟩ := h.own q
        rw [z] at z1
        cases z1
        exact r5 (List.mem_of_getElem? hp)
      rcases cs z1 with e1 | e1
      · subst e1
        rw [hv] at z3
        cases z3
        rcases cs z2 with e2 | e2
        · exact hjk e2
        · exact nop e2 z4
      · rcases cs z2 with e2 | e2
        · subst e2
          rw [hv] at z4
          cases z4
          exact nop e1 z3
        · exact h.sep j k v' fs gs hjk e1 e2 z3 z4
end
section
variable {X : Cx} {wd : Wd} {sts : List Stmt} {st : Stmt} {s1 : WS}
/-- slot i's own thing is lent to s1 -/
def wLend (i : Nat) (s : WS) : WS := fun E sd μ => match sd[i]? with
  | some (some (.own c)) => s ⟨fun sd' μ' => ∃ μ1 c', sd'[i]? = some (some (.fz (.ref μ.length))) ∧ μ' = μ1 ++ [.box c'] ∧ μ1.length = μ.length ∧ slotsB μ.length i sd' = true ∧ below μ.length c' = true ∧ μ1.all (belowN μ.length) = true ∧ E.nx (sd'.set i (some (.own c'))) μ1,
      fun _ _ => False, fun _ _ => False, fun _ _ => False, fun _ _ _ _ => False⟩ (sd.set i (some (.fz (.ref μ.length)))) (μ ++ [.box c])
  | _ => False
theorem qs_lend (i : Nat) (h : QS wd X st s1) : QS wd X st (wLend i s1) := by
  refine ⟨PS.imp h.ps fun D σ H ⟨G0, H0, μ0, G, μ, sd, E, hx, hs, hw, hE⟩ => ?_⟩
  unfold wLend at hw
  split at hw
  · rename_i c q
    obtain ⟨G', hx', hs'⟩ := hs.tell hx q
    refine ⟨G0, H0, μ0, G', _, _, _, hx', hs', hw, ⟨fun sd2 μ2 ⟨μ1, c', q1, q2, q3, q4, q5, q6, q7⟩ σ2 G2 H2 hx2 hs2 => ?_, fun _ _ z => z.elim, fun _ _ z => z.elim, fun _ _ z => z.elim, fun _ _ _ _ z => z.elim⟩⟩
    subst q2
    have hn : G0.ρ.length ≤ μ.length := by rw [← hx.rep.len]; exact hx.g.pre.length_le
    obtain ⟨G3, hx3, hs3⟩ := Slots.untell hn hx2 q3 hs2 q1 q4 q5 q6
    exact hE.nx _ _ q7 σ2 G3 H2 hx3 hs3
  · exact hw.elim
end
noncomputable section
open Classical
section
variable {X : Cx} {wd : Wd} {sts : List Stmt} {st : Stmt} {S : FS}
def splitR (r : Mu) : Option (Mu × D) := match r with
  | .box c :: l => some (l.reverse, c)
  | _ => none
def splitL (μ : Mu) : Option (Mu × D) := splitR μ.reverse
theorem splitL_eq {μ μ1 : Mu} {c : D} (h : splitL μ = some (μ1, c)) : μ = μ1 ++ [.box c] := by
  unfold splitL splitR at h
  split at h
  · rename_i c' l e
    cases h
    have e2 := congrArg List.reverse e
    simpa using e2
  · cases h
@[simp] theorem splitL_app {μ : Mu} {c : D} : splitL (μ ++ [.box c]) = some (μ, c) := by
  unfold splitL
  simp [splitR]
def isRef (n : Nat) : Option (Option SV) → Bool
  | some (some (.fz (.ref m))) => m == n
  | _ => false
@[simp] theorem isRef_fz {n m : Nat} : isRef n (some (some (.fz (.ref m)))) = (m == n) := rfl
theorem isRef_eq {n : Nat} {o : Option (Option SV)} (h : isRef n o = true) : o = some (some (.fz (.ref n))) := by
  unfold isRef at h
  split at h
  · rw [beq_iff_eq] at h; subst h; rfl
  · cases h
def lendK2 (i n : Nat) (sd : SD) : Option (Mu × D) → OS
  | some (μ1, c) => if isRef n sd[i]? = true ∧ μ1.length = n ∧ slotsB n i sd = true ∧ below n c = true ∧ μ1.all (belowN n) = true then .nx (sd.set i (some (.own c))) μ1 else .no
  | none => .no
@[simp] theorem lendK2_some {i n : Nat} {sd : SD} {μ1 : Mu} {c : D} : lendK2 i n sd (some (μ1, c)) = if isRef n sd[i]? = true ∧ μ1.length = n ∧ slotsB n i sd = true ∧ below n c = true ∧ μ1.all (belowN n) = true then .nx (sd.set i (some (.own c))) μ1 else .no := rfl
def lendK (i n : Nat) : OS → OS
  | .nx sd μ => lendK2 i n sd (splitL μ)
  | _ => .no
@[simp] theorem lendK_nx {i n : Nat} {sd : SD} {μ : Mu} : lendK i n (.nx sd μ) = lendK2 i n sd (splitL μ) := rfl
def lendO (o : Option (Option SV)) (sd : SD) (i : Nat) (S : FS) (μ : Mu) : OS := match o with
  | some (some (.own c)) => lendK i μ.length (S (sd.set i (some (.fz (.ref μ.length)))) (μ ++ [.box c]))
  | _ => .no
def sLend (i : Nat) (S : FS) : FS := fun sd μ => lendO sd[i]? sd i S μ
@[simp] theorem sLend_ap {i : Nat} {sd : SD} {μ : Mu} : sLend i S sd μ = lendO sd[i]? sd i S μ := rfl
@[simp] theorem lendO_own {i : Nat} {sd : SD} {μ : Mu} {c : D} : lendO (some (some (.own c))) sd i S μ = lendK i μ.length (S (sd.set i (some (.fz (.ref μ.length)))) (μ ++ [.box c])) := rfl
theorem sLend_le {i : Nat} {E : TEn} {sd : SD} {μ : Mu} (h : ofS (sLend i S) E sd μ) : wLend i (ofS S) E sd μ := by
  unfold ofS sLend lendO at h
  unfold wLend
  split at h
  · rename_i c q
    show OS.sat (S _ _) _
    generalize S (sd.set i (some (.fz (.ref μ.length)))) (μ ++ [.box c]) = o at h ⊢
    cases o with
    | nx sd' μ' =>
      have h : (lendK2 i μ.length sd' (splitL μ')).sat E := h
      cases e : splitL μ' with
      | none => rw [e] at h; exact h.elim
      | some pr =>
        obtain ⟨μ1, c'⟩ := pr
        rw [e] at h
        have h : (if isRef μ.length sd'[i]? = true ∧ μ1.length = μ.length ∧ slotsB μ.length i sd' = true ∧ below μ.length c' = true ∧ μ1.all (belowN μ.length) = true then OS.nx (sd'.set i (some (.own c'))) μ1 else .no).sat E := h
        obtain ⟨⟨h1, h2, h3, h4, h5⟩, h6⟩ := sat_iteS h
        exact ⟨μ1, c', isRef_eq h1, splitL_eq e, h2, h3, h4, h5, h6⟩
    | _ => exact h.elim
  · exact h.elim
theorem fs_lend (i : Nat) (h : QS wd X st (ofS S)) : QS wd X st (ofS (sLend i S)) := (qs_lend i h).imp fun E sd μ h => sLend_le h
end
end
end TL
/-! TL: a tuple that is known to have no dict, in the store: tuple(l), t[i], t.index(x), d != t -/
namespace TL
open PySem PySem.Spec PyProof.Rows L2
section
variable {K : PySem.W.Frag} {cl : Cl} {G0 G : Gh} {H0 H : Hp} {μ0 μ : Mu}
theorem Ext.tellN (e : Ext K cl G0 H0 μ0 G H μ) {p : Addr} {o : HO} {c : Nd} (h0 : H0 p = none) (hp : H p = some o) (hg : G.fz p = none) (hm : p ∉ G.ρ) (hd : NdOk K cl G p o c) :
    Ext K cl G0 H0 μ0 (gnew G p) H (μ ++ [c]) := by
  refine ⟨e.g.trans gle_new, ⟨e.rep.sub, by show (G.ρ ++ [p]).length = _; rw [List.length_append, List.length_append, e.rep.len]; rfl, ?_, fun m a q => ?_⟩, e.dom, fun a u q g m => ?_⟩
  · show (G.ρ ++ [p]).Nodup
    rw [List.nodup_append]
    refine ⟨e.rep.nd, by simp, fun a ha b hb => ?_⟩
    rw [List.mem_singleton] at hb
    subst hb
    exact fun z => hm (z ▸ ha)
  · have q : (G.ρ ++ [p])[m]? = some a := q
    by_cases hb : m < G.ρ.length
    · rw [List.getElem?_append_left hb] at q
      obtain ⟨ga, m', u, q1, q2, ok'⟩ := e.rep.node m a q
      exact ⟨ga, m', u, by rw [List.getElem?_append_left (by rw [← e.rep.len]; exact hb)]; exact q1, q2, ok'.mono gle_new⟩
    · rw [List.getElem?_append_right (by omega)] at q
      have e1 : m - G.ρ.length = 0 := by
        cases k : m - G.ρ.length with
        | zero => rfl
        | succ j => rw [k] at q; simp at q
      rw [e1] at q
      cases q
      refine ⟨hg, c, o, ?_, hp, hd.mono gle_new⟩
      rw [List.getElem?_append_right (by rw [← e.rep.len]; omega), ← e.rep.len, e1]
      rfl
  · obtain ⟨e1, e2, e3⟩ := e.fr a u q g m
    have hb : a ≠ p := ne_of_none q h0
    refine ⟨e1, e2, fun z => ?_⟩
    have z : a ∈ G.ρ ++ [p] := z
    rw [List.mem_append, List.mem_singleton] at z
    rcases z with z | z
    · exact e3 z
    · exact hb z
theorem Rep.tp (r : Rep K cl G H μ) {n : Nat} {a : Addr} {ds : List D} (hn : G.ρ[n]? = some a) (hm : μ[n]? = some (.tp ds)) : ∃ ob vs, H a = some (.frz ob (.tup vs)) ∧ ob.dict = none ∧ DenL K cl G vs ds := by
  obtain ⟨_, m, o, q, ho, ok⟩ := r.node n a hn
  rw [hm] at q
  cases q
  cases o <;> first | exact ok.elim | skip
  obtain ⟨h1, vs, h2, h3⟩ := ok
  subst h2
  exact ⟨_, _, ho, h1, h3⟩
end
section
variable {X : Cx} {wd : Wd} {e a b : Expr} {w wa wb : WE} {ws : WA} {pos p apos cpos : Pos} {A B : FE} {As : FA}
/-! ### tuple(l) -/
theorem call_tupleN : CallR X (.type "tuple") (fun xs H Q => ∃ p ys, xs = [.ref p] ∧ SqL X.K H p ys ∧ ∀ l ob, ob.dict = none → H l = none → Q (.ref l) (upd H l (.frz ob (.tup ys)))) := by
  intro pins s σ H xs us Q I r h
  obtain ⟨p, ys, rfl, hq, q⟩ := h
  obtain ⟨u, rfl, rx⟩ := r.one
  cases rx
  obtain ⟨its, r', pl, hz⟩ := I.list hq
  have hlen := r'.length
  refine call_tuple_list pl.isList (fun h' kp => ?_) (by simp only [List.size_toArray] <;> omega)
  have I1 : Inv X pins σ H { s with heap := h' } := I.kept (t' := s.toks) kp
  have I2 : Inv X pins σ (upd H h'.objs.size (.frz { cls := .type "tuple", data := .seq its.toArray } (.tup ys))) { s with heap := h'.push { cls := .type "tuple", data := .seq its.toArray } } :=
    I1.laid (t' := s.toks) (fun b o e => Heap.get?_push_of_some _ e) (Nat.le_refl _) (show ObjOk X.prog X.w _ _ _ (.frz { cls := .type "tuple", data := .seq its.toArray } (.tup ys)) from ⟨Heap.get?_push_size _ rfl, hz, its, r', IsTup.new _ _⟩)
  exact ⟨.ref h'.objs.size, _, I2, rfl, q _ _ rfl (I1.hok.fresh (Nat.le_refl _))⟩
def wTupN (ws : WA) : WE := fun sd μ x k => ws sd μ x fun ds μ1 => ∃ xs, ds = [.lst xs] ∧ k (.d (.ref μ1.length)) (μ1 ++ [.tp xs])
theorem qe_tupN (hm : X.mg "tuple" = none) (ha : QB wd X [e] ws) (hg : Gl X "tuple" := by rfl)
    (he : starEach [e] X.env = (false, eval e X.env) :: starEach [] X.env := by rfl) (hpl : (backTo pos (starEach [] X.env)).any (·.1) = false := by rfl) :
    QE wd X (.Call (.Name "tuple" p) [e] [] pos) (wTupN ws) := by
  refine ⟨PE.imp (pe_callTy call_tupleN hg hm (by decide +kernel) ha.pa (by decide) (by decide) he hpl) fun σ H Q ⟨G0, H0, μ0, G, μ, sd, x, k, hx, hs, hw, hk, hxo⟩ => ?_⟩
  refine ⟨G0, H0, μ0, G, μ, sd, x, _, hx, hs, hw, fun ds μ1 q vs G1 H1 e1 hd => ?_, hxo⟩
  obtain ⟨xs, rfl, q⟩ := q
  obtain ⟨v, rfl, h1⟩ := den1_1 hd
  obtain ⟨a, us, rfl, q1, q2⟩ := h1
  refine ⟨a, us, rfl, q1, fun l ob ho hl => ?_⟩
  have f0 := e1.rep.free hl
  have e2 : Ext X.K wd.cl G1 H1 μ1 G1 (upd H1 l (.frz ob (.tup us))) μ1 := Ext.loose e1.rep hl
  have e3 := Ext.tellN e2 (c := .tp xs) hl upd_same f0.1 f0.2 ⟨ho, us, rfl, q2⟩
  exact hk _ _ q _ _ _ (e1.trans e3) (Den.ref (gnew_at e2.rep))
/-! ### t[i] -/
def wIxT (wa wb : WE) : WE := fun sd μ x k => wa sd μ x fun r μ1 => ∃ n, r = .d (.ref n) ∧ wb sd μ1 x fun r2 μ2 => ∃ i ds d, r2 = .d (.int i) ∧ μ2[n]? = some (.tp ds) ∧ atI ds i = some d ∧ k (.d d) μ2
theorem qe_ixT (ha : QE wd X a wa) (hb : QE wd X b wb) (hs : PlainIx b := by intro _ _; rfl) : QE wd X (.Subscript a b pos) (wIxT wa wb) := by
  refine ⟨PE.imp (pe_ix ix_seq ha.pe hb.pe hs) fun σ H Q ⟨G0, H0, μ0, G, μ, sd, x, k, hx, hs, hw, hk, hxo⟩ => ?_⟩
  refine ⟨G0, H0, μ0, G, μ, sd, x, _, hx, hs, hw, fun r μ1 q v1 G1 H1 e1 rel1 => ?_, hxo⟩
  obtain ⟨n, rfl, q⟩ := q
  cases rel1 with
  | @ref c _ hn =>
  refine ⟨G0, H0, μ0, G1, μ1, sd, x, _, hx.trans e1, hs.step e1, q, fun r2 μ2 q2 v2 G2 H2 e2 rel2 => ?_, hxo.step e1⟩
  obtain ⟨i, ds, d, rfl, hm, hd, q2⟩ := q2
  cases rel2
  obtain ⟨ob, vs, hH, _, dl⟩ := e2.rep.tp (e2.g.at hn) hm
  obtain ⟨v, hv, den⟩ := atI_den dl hd
  exact .inr (.inl ⟨c, vs, _, v, rfl, rfl, .inl (.inr ⟨ob, hH⟩), hv, hk _ _ q2 _ G2 H2 (e1.trans e2) den⟩)
/-! ### t.index(x) -/
def tTI (K : PySem.W.Frag) (to : TE) (t : TA) : TE := fun σ H Q => to σ H fun x H1 => ∃ l ob vs, x = .ref l ∧ H1 l = some (.frz ob (.tup vs)) ∧ ob.dict = none ∧ t σ H1 fun xs H2 => ∃ y ob2 vs2 ks k, xs = [y] ∧ H2 l = some (.frz ob2 (.tup vs2)) ∧ KDenL K H2 vs2 ks ∧ KDen K H2 y k ∧ k.depth ≤ 8 ∧ k ∈ ks ∧ Q (.int (ks.idxOf k : Nat)) H2
theorem pe_tIdx {to : TE} {t : TA} (ho : PE X a to) (ha : PA X [e] t) (hu : X.A.units + 65 < cLine) (hst : starEach [e] X.env = (false, eval e X.env) :: starEach [] X.env := by rfl)
    (hbase : attributeBase a "index" X.env (eval a X.env) = eval a X.env := by rfl)
    (hfew : ((backTo cpos (starEach [e] X.env)).all (fun x => !x.1) && (backToKw cpos (keywordEach [] X.env)).all (fun x => x.1.isSome)
      && decide ([e].length + ([] : List Keyword).length + (if ([] : List Keyword).isEmpty then 0 else 1) < 30)) = true := by rfl)
    (hline : (apos.endLine == cpos.line) = true := by rfl) (hplain : (backTo cpos (starEach [] X.env)).any (·.1) = false := by rfl) :
    PE X (.Call (.Attribute a "index" apos) [e] [] cpos) (tTI X.K to t) := by
  refine ⟨fun pins s σ H Q I h => ?_⟩
  refine wpAny_Call_method_late hbase hfew hline rfl (thn (ho.run pins s σ H _ I h) fun v s1 ⟨x, H1, I1, r1, l, ob, vs, ex, hl, hd, q1⟩ => ?_)
  subst ex
  obtain rfl : v = Value.ref l := r1
  obtain ⟨hg, _, _, _, hT⟩ := (show ObjOk X.prog X.w H1 s1.heap l (.frz ob (.tup vs)) from I1.hok l _ hl)
  refine ⟨"tuple", "tuple.index", PySem.F.plainAttrs_tuple, PySem.F.slot_tuple_index, PySem.F.type_tuple_index, (let ⟨o, ho, hc, _⟩ := hT; ⟨o, ho, hc⟩), (fun b eb => by cases eb; exact ⟨ob, hg, hd⟩), ?_⟩
  have hA := ha.run cpos pins s1 σ H1 _ I1 q1
  rw [hst] at hA ⊢
  refine Calls.callWith_builtin (by show (false || (backTo cpos (starEach [] X.env)).any (·.1)) = false; rw [hplain] <;> rfl) (Calls.evalArgs_plain ?_)
  refine thn hA fun us s2 ⟨xs, H2, I2, r2, y, ob2, vs2, ks, k, ex, hl2, hks, hk, hdep, hin, q2⟩ => ?_
  subst ex
  obtain ⟨u, rfl, ru⟩ := r2.one
  obtain ⟨hg2, hz2, its, rv, hT2⟩ := (show ObjOk X.prog X.w H2 s2.heap l (.frz ob2 (.tup vs2)) from I2.hok l _ hl2)
  refine PySem.SeqAt.call_tuple_index (show s2.heap.IsTuple l its.toArray from hT2) (PySem.SeqAt.ItemsEq.nested (A := X.A.in1) (keys_are I2 ks vs2 its hks rv) (key_is I2 k y u hk ru) ?_) hin ⟨.int _, H2, I2.tok _, ⟨_, rfl⟩, q2⟩
  show X.A.units + 1 + k.depth < cLine
  omega
def wIdxT (wa wb : WE) : WE := fun sd μ x k => wa sd μ x fun r μ1 => ∃ n ds0, r = .d (.ref n) ∧ μ1[n]? = some (.tp ds0) ∧ wb sd μ1 x fun r2 μ2 => withT r2 fun y => ∃ ds ks ky, μ2[n]? = some (.tp ds) ∧ nkeys ds = some ks ∧ nkey y = some ky ∧ ky.depth ≤ 8 ∧ ky ∈ ks ∧ k (.d (.int (ks.idxOf ky : Nat))) μ2
theorem qe_idxT (hu : X.A.units + 65 < cLine) (ha : QE wd X a wa) (he : QE wd X e w) (hst : starEach [e] X.env = (false, eval e X.env) :: starEach [] X.env := by rfl)
    (hbase : attributeBase a "index" X.env (eval a X.env) = eval a X.env := by rfl)
    (hfew : ((backTo cpos (starEach [e] X.env)).all (fun x => !x.1) && (backToKw cpos (keywordEach [] X.env)).all (fun x => x.1.isSome)
      && decide ([e].length + ([] : List Keyword).length + (if ([] : List Keyword).isEmpty then 0 else 1) < 30)) = true := by rfl)
    (hline : (apos.endLine == cpos.line) = true := by rfl) (hplain : (backTo cpos (starEach [] X.env)).any (·.1) = false := by rfl) :
    QE wd X (.Call (.Attribute a "index" apos) [e] [] cpos) (wIdxT wa w) := by
  refine ⟨PE.imp (pe_tIdx ha.pe (pa_cons he.pe pa_nil hst) hu hst hbase hfew hline hplain) fun σ H Q ⟨G0, H0, μ0, G, μ, sd, x, k, hx, hs, hw, hk, hxo⟩ => ?_⟩
  refine ⟨G0, H0, μ0, G, μ, sd, x, _, hx, hs, hw, fun r μ1 q v1 G1 H1 e1 rel1 => ?_, hxo⟩
  obtain ⟨n, ds0, rfl, hm0, q⟩ := q
  cases rel1 with
  | @ref c _ hn =>
  obtain ⟨ob, vs, hH, hod, _⟩ := e1.rep.tp hn hm0
  refine ⟨c, ob, vs, rfl, hH, hod, ?_⟩
  refine ⟨G0, H0, μ0, G1, μ1, sd, x, _, hx.trans e1, hs.step e1, q, fun r2 μ2 q2 v2 G2 H2 e2 rel2 => ?_, hxo.step e1⟩
  obtain ⟨y, hy, ds, ks, ky, hm, hks, hky, hdp, hin, q2⟩ := withT_tree q2
  obtain ⟨G3, e3, s3, den⟩ := keep e2 rel2 hy
  obtain ⟨ob2, vs2, hH2, _, dl⟩ := e3.rep.tp (e3.g.at hn) hm
  refine ⟨v2, ob2, vs2, ks, ky, rfl, hH2, ?_, ?_, hdp, hin, hk _ _ q2 _ G3 H2 (e1.trans e3) (Den.int _)⟩
  · exact KDenL.mono e3.rep.sub ks _ (DenL.key _ _ ks dl hks)
  · exact KDen.mono e3.rep.sub ky _ (Den.key _ _ ky den hky)
/-! ### d != t -/
def wNeT (wa wb : WE) : WE := fun sd μ x k => wa sd μ x fun r1 μ1 => wb sd μ1 x fun r2 μ2 => ∃ n ds, r2 = .d (.ref n) ∧ μ2[n]? = some (.tp ds) ∧ okD 12 (vw μ2 sd r1) ∧ okD 12 (.tup ds) ∧ k (.d (.bl (!(deq (vw μ2 sd r1) (.tup ds))))) μ2
theorem neT_red {r : R2} {σ : L2.St} {H : Hp} {Q : VK} (ha : QE wd X a wa) (hb : QE wd X b wb)
    (hr : ∀ (x y : V) (H : Hp) (Q : VK) (d e : PyData), Dp X.K H x d → Dp X.K H y e → SeqAt.shaped d = true → SeqAt.shaped e = true → Q (.bl (!(PyData.eqv d e))) H → r x y H Q) (h : rdE X.K wd (wNeT wa wb) σ H Q) :
    rdE X.K wd wa σ H fun x H1 => rdE X.K wd wb σ H1 fun y H2 => r x y H2 Q := by
  obtain ⟨G0, H0, μ0, G, μ, sd, x, k, hx, hs, hw, hk, hxo⟩ := h
  refine ⟨G0, H0, μ0, G, μ, sd, x, _, hx, hs, hw, fun r1 μ1 q1 v1 G1 H1 e1 rel1 => ?_, hxo⟩
  obtain ⟨G1', e1', s1, hold1⟩ := hold hs e1 rel1
  refine ⟨G0, H0, μ0, G1', μ1, sd, x, _, hx.trans e1', hs.step e1', q1, fun r2 μ2 q2 v2 G2 H2 e2 rel2 => ?_, hxo.step e1'⟩
  obtain ⟨n, ds, rfl, hm, o1, o2, q2⟩ := q2
  cases rel2 with
  | @ref c _ hn =>
  obtain ⟨ob, vs, hH, _, dl⟩ := e2.rep.tp hn hm
  obtain ⟨p, t1, t2⟩ := shaped_of o1 (by decide)
  obtain ⟨q, t3, t4⟩ := shaped_of o2 (by decide)
  have d1 := Den1.den e2.rep.sub (hold1 _ _ _ e2)
  have d2 : Den X.K wd.cl ⟨H2, G2.ρ⟩ (.ref c) (.tup ds) := .tup (.inl (.inr ⟨ob, hH⟩)) (DenL.mono e2.rep.gle _ _ dl)
  refine hr v1 _ H2 Q p q (Den.dp _ _ _ d1 t1) (Den.dp _ _ _ d2 t3) t2 t4 ?_
  rw [deq_pd _ _ _ _ t1 t3]
  exact hk _ _ q2 _ G2 H2 (e1'.trans e2) (Den.bl _)
theorem qt_neT (hu : X.A.units + 64 < cLine) (ha : QE wd X a wa) (hb : QE wd X b wb) (hm : behindInMarks .NotEq b = false := by rfl) : QT wd X (.Compare a [.NotEq] [b] pos) (wTst (wNeT wa wb)) :=
  ⟨PT.imp (pt_cmpR (op_neD hu) ha.pe hb.pe hm) fun σ H Q h => neT_red (Q := fun x H' => ∃ c, x = .bl c ∧ Q c H') ha hb (fun x y H Q d e h1 h2 h3 h4 q => ⟨d, e, h1, h2, h3, h4, q⟩) (tst_of h)⟩
end
noncomputable section
open Classical
section
variable {X : Cx} {wd : Wd} {e a b : Expr} {pos p apos cpos : Pos} {A B : FE} {As : FA}
def tpN : Option Nd → Option (List D)
  | some (.tp ds) => some ds
  | _ => none
@[simp] theorem tpN_tp {ds : List D} : tpN (some (.tp ds)) = some ds := rfl
theorem tpN_eq {o : Option Nd} {ds : List D} (h : tpN o = some ds) : o = some (.tp ds) := by
  unfold tpN at h
  split at h
  · cases h; rfl
  · cases h
def refN : R → Option Nat
  | .d (.ref n) => some n
  | _ => none
@[simp] theorem refN_d {n : Nat} : refN (.d (.ref n)) = some n := rfl
theorem refN_eq {r : R} {n : Nat} (h : refN r = some n) : r = .d (.ref n) := by
  unfold refN at h
  split at h
  · cases h; rfl
  · cases h
def tupK (ds : List D) (μ : Mu) : Out R := match ds with
  | [.lst xs] => .ok (.d (.ref μ.length)) (μ ++ [.tp xs])
  | _ => .no
@[simp] theorem tupK_lst {xs : List D} {μ : Mu} : tupK [.lst xs] μ = .ok (.d (.ref μ.length)) (μ ++ [.tp xs]) := rfl
def fTupN (As : FA) : FE := fun sd μ => (As sd μ).bind tupK
@[simp] theorem fTupN_ap {sd : SD} {μ : Mu} : fTupN As sd μ = (As sd μ).bind tupK := rfl
theorem fe_tupN (hm : X.mg "tuple" = none) (ha : QB wd X [e] (ofA As)) (hg : Gl X "tuple" := by rfl)
    (he : starEach [e] X.env = (false, eval e X.env) :: starEach [] X.env := by rfl) (hpl : (backTo pos (starEach [] X.env)).any (·.1) = false := by rfl) :
    QE wd X (.Call (.Name "tuple" p) [e] [] pos) (ofE (fTupN As)) := (qe_tupN hm ha hg he hpl).imp fun sd μ x k h => sat_mono (sat_bind h) fun ds μ1 h => by
  unfold tupK at h
  split at h
  · exact ⟨_, rfl, h⟩
  · exact h.elim
def fIxT (A B : FE) : FE := fun sd μ => ((A sd μ).bind fun r μ1 => Out.of (refN r) μ1).bind fun n μ1 => ((B sd μ1).bind fun r μ2 => Out.of (iOf r) μ2).bind fun i μ2 => Out.of ((tpN μ2[n]?).bind fun ds => (atI ds i).map R.d) μ2
@[simp] theorem fIxT_ap {sd : SD} {μ : Mu} : fIxT A B sd μ = ((A sd μ).bind fun r μ1 => Out.of (refN r) μ1).bind fun n μ1 => ((B sd μ1).bind fun r μ2 => Out.of (iOf r) μ2).bind fun i μ2 => Out.of ((tpN μ2[n]?).bind fun ds => (atI ds i).map R.d) μ2 := rfl
theorem fe_ixT (ha : QE wd X a (ofE A)) (hb : QE wd X b (ofE B)) (hs : PlainIx b := by intro _ _; rfl) : QE wd X (.Subscript a b pos) (ofE (fIxT A B)) := (qe_ixT ha hb hs).imp fun sd μ x k h => sat_mono (sat_bind (sat_bind h)) fun r μ1 h => by
  obtain ⟨n, e1, h⟩ := sat_of h
  refine ⟨n, refN_eq e1, sat_mono (sat_bind (sat_bind h)) fun r2 μ2 h => ?_⟩
  obtain ⟨i, e2, h⟩ := sat_of h
  obtain ⟨rr, e3, h⟩ := sat_of h
  obtain ⟨ds, e4, e5⟩ := Option.bind_eq_some_iff.mp e3
  obtain ⟨d, e6, rfl⟩ := Option.map_eq_some_iff.mp e5
  exact ⟨i, ds, d, iOf_eq e2, tpN_eq e4, e6, h⟩
def idxK (ds : List D) (y : D) (μ : Mu) : Out R := match nkeys ds, nkey y with
  | some ks, some k => if k.depth ≤ 8 ∧ k ∈ ks then .ok (.d (.int (ks.idxOf k : Nat))) μ else .no
  | _, _ => .no
theorem idxK_some {ds : List D} {y : D} {μ : Mu} {ks : List NestedKey} {k : NestedKey} (h1 : nkeys ds = some ks) (h2 : nkey y = some k) (h3 : k.depth ≤ 8) (h4 : k ∈ ks) : idxK ds y μ = .ok (.d (.int (ks.idxOf k : Nat))) μ := by
  unfold idxK
  rw [h1, h2]
  exact if_pos ⟨h3, h4⟩
def fIdxT (A B : FE) : FE := fun sd μ => ((A sd μ).bind fun r μ1 => Out.of (refN r) μ1).bind fun n μ1 => (Out.of (tpN μ1[n]?) μ1).bind fun _ μ1 => ((B sd μ1).bind fun r μ2 => Out.of r.tree μ2).bind fun y μ2 => (Out.of (tpN μ2[n]?) μ2).bind fun ds μ2 => idxK ds y μ2
@[simp] theorem fIdxT_ap {sd : SD} {μ : Mu} : fIdxT A B sd μ = ((A sd μ).bind fun r μ1 => Out.of (refN r) μ1).bind fun n μ1 => (Out.of (tpN μ1[n]?) μ1).bind fun _ μ1 => ((B sd μ1).bind fun r μ2 => Out.of r.tree μ2).bind fun y μ2 => (Out.of (tpN μ2[n]?) μ2).bind fun ds μ2 => idxK ds y μ2 := rfl
theorem fe_idxT (hu : X.A.units + 65 < cLine) (ha : QE wd X a (ofE A)) (he : QE wd X e (ofE B)) (hst : starEach [e] X.env = (false, eval e X.env) :: starEach [] X.env := by rfl)
    (hbase : attributeBase a "index" X.env (eval a X.env) = eval a X.env := by rfl)
    (hfew : ((backTo cpos (starEach [e] X.env)).all (fun x => !x.1) && (backToKw cpos (keywordEach [] X.env)).all (fun x => x.1.isSome)
      && decide ([e].length + ([] : List Keyword).length + (if ([] : List Keyword).isEmpty then 0 else 1) < 30)) = true := by rfl)
    (hline : (apos.endLine == cpos.line) = true := by rfl) (hplain : (backTo cpos (starEach [] X.env)).any (·.1) = false := by rfl) :
    QE wd X (.Call (.Attribute a "index" apos) [e] [] cpos) (ofE (fIdxT A B)) := (qe_idxT hu ha he hst hbase hfew hline hplain).imp fun sd μ x k h => sat_mono (sat_bind (sat_bind h)) fun r μ1 h => by
  obtain ⟨n, e1, h⟩ := sat_of h
  obtain ⟨ds0, e2, h⟩ := sat_of (sat_bind h)
  refine ⟨n, ds0, refN_eq e1, tpN_eq e2, sat_mono (sat_bind (sat_bind h)) fun r2 μ2 h => ?_⟩
  obtain ⟨y, e3, h⟩ := sat_of h
  refine tree_with e3 ?_
  obtain ⟨ds, e4, h⟩ := sat_of (sat_bind h)
  unfold idxK at h
  cases e5 : nkeys ds with
  | none => rw [e5] at h; exact h.elim
  | some ks =>
    cases e6 : nkey y with
    | none => rw [e5, e6] at h; exact h.elim
    | some ky =>
      rw [e5, e6] at h
      obtain ⟨⟨h1, h2⟩, h⟩ := sat_ite h
      exact ⟨ds, ks, ky, tpN_eq e4, e5, rfl, h1, h2, h⟩
def fNeT (A B : FE) : FE := fun sd μ => (A sd μ).bind fun r1 μ1 => ((B sd μ1).bind fun r μ2 => Out.of (refN r) μ2).bind fun n μ2 => (Out.of (tpN μ2[n]?) μ2).bind fun ds μ2 => if okD 12 (vw μ2 sd r1) ∧ okD 12 (.tup ds) then .ok (.d (.bl (!(deq (vw μ2 sd r1) (.tup ds))))) μ2 else .no
@[simp] theorem fNeT_ap {sd : SD} {μ : Mu} : fNeT A B sd μ = (A sd μ).bind fun r1 μ1 => ((B sd μ1).bind fun r μ2 => Out.of (refN r) μ2).bind fun n μ2 => (Out.of (tpN μ2[n]?) μ2).bind fun ds μ2 => if okD 12 (vw μ2 sd r1) ∧ okD 12 (.tup ds) then .ok (.d (.bl (!(deq (vw μ2 sd r1) (.tup ds))))) μ2 else .no := rfl
theorem fNeT_le {sd : SD} {μ : Mu} {x : XT} {k : R → Mu → Prop} (h : ofE (fNeT A B) sd μ x k) : wNeT (ofE A) (ofE B) sd μ x k := by
  refine sat_mono (sat_bind h) fun r1 μ1 h => sat_mono (sat_bind (sat_bind h)) fun r2 μ2 h => ?_
  obtain ⟨n, e1, h⟩ := sat_of h
  obtain ⟨ds, e2, h⟩ := sat_of (sat_bind h)
  obtain ⟨⟨h1, h2⟩, h⟩ := sat_ite h
  exact ⟨n, ds, refN_eq e1, tpN_eq e2, h1, h2, h⟩
theorem ft_neT (hu : X.A.units + 64 < cLine) (ha : QE wd X a (ofE A)) (hb : QE wd X b (ofE B)) (hm : behindInMarks .NotEq b = false := by rfl) : QT wd X (.Compare a [.NotEq] [b] pos) (ofT (fTst (fNeT A B))) := (qt_neT hu ha hb hm).imp fun sd μ x k h => by
  have h2 : wTst (ofE (fNeT A B)) sd μ x k := fTst_le h
  exact fNeT_le h2
end
end
end TL
/-! TL: isinstance of an instance with an own class -/
namespace TL
open PySem PySem.Spec PyProof.Rows L2
structure InsC (K : PySem.W.Frag) (C : Addr) : Prop where
  cls : Cls K C
  ha : PySem.W.findIn K (.ref C) "__class__" = some (some (.builtin "object.__class__"))
  hn : PySem.W.specialIn K (.builtin "object.__class__") "__get__" = some (some (.builtin "getset_descriptor.__get__"))
  htk : PySem.W.takesIn K (.builtin "object.__class__") = some true
  hm : PySem.W.mroIn K C (.type "object") = some true
def IscT (K : PySem.W.Frag) (cl : Cl) (tv : Value) (isc : Nat → Option Bool) : Prop := ∀ c b, isc c = some b → ∀ C, cl c = some C → InsC K C ∧ PySem.W.kitOne K (.ref C) tv = some b
theorem iscT_nil {K : PySem.W.Frag} {cl : Cl} {tv : Value} : IscT K cl tv (lkB []) := fun c b h => by cases h
theorem iscT_cons {K : PySem.W.Frag} {cl : Cl} {tv : Value} {c : Nat} {b : Bool} {l : List (Nat × Bool)} (h1 : ∀ C, cl c = some C → InsC K C ∧ PySem.W.kitOne K (.ref C) tv = some b) (h2 : IscT K cl tv (lkB l)) : IscT K cl tv (lkB ((c, b) :: l)) := fun c' b' h C hC => by
  unfold lkB at h
  by_cases e : c' = c
  · subst e
    simp [List.lookup] at h
    subst h
    exact h1 C hC
  · have e2 : (c' == c) = false := by simpa using e
    simp [List.lookup, e2] at h
    exact h2 c' b' h C hC
section
variable {X : Cx} {wd : Wd} {a : Expr} {wa : WE} {A : FE} {pos : Pos}
def oIsc (isc : Nat → Option Bool) : UP := fun a k => match a with
  | .obj c _ => ∃ b, isc c = some b ∧ k (.d (.bl b))
  | _ => False
theorem qe_isc {x T : Str} {p p2 : Pos} {C : Addr} {isc : Nat → Option Bool} (hT : IscT X.K wd.cl (.ref C) isc) (ha : QE wd X a wa) (hm : X.mg x = none) (hmT : X.mg T = some (.ref C)) (hg : Gl X x := by rfl) (hgT : Gl X T := by rfl) (hv : bootBuiltins x = some (.builtin "isinstance") := by decide +kernel)
    (hn : x ≠ "__name__" := by decide) (hdb : (x == ("__debug__" : Str)) = false := by decide) (hdT : (T == ("__debug__" : Str)) = false := by decide)
    (he1 : starEach [a, .Name T p2] X.env = (false, eval a X.env) :: starEach [.Name T p2] X.env := by rfl) (he2 : starEach [.Name T p2] X.env = (false, eval (.Name T p2) X.env) :: starEach [] X.env := by rfl)
    (hpl : (backTo pos (starEach [.Name T p2] X.env)).any (·.1) = false := by rfl) :
    QE wd X (.Call (.Name x p) [a, .Name T p2] [] pos) (wUn (oIsc isc) wa) := by
  refine ⟨PE.imp (pe_callB call_isi hg hm hv (pa_cons ha.pe (pa_cons (pe_glob (X := X) (v := .ref C) hgT hmT rfl hdT) pa_nil he2) he1) hn hdb he1 hpl) fun σ H Q h => ?_⟩
  refine one (r := fun v H Q => rIsi X.K [v, .ref C] H Q) ha (fun v1 d1 G H μ k Q r h1 ho hk => ?_) h
  cases d1 <;> try exact ho.elim
  rename_i c fs
  obtain ⟨b, e, ho⟩ := ho
  cases h1 with
  | @obj ad C' dx _ vs _ q1 q2 q3 =>
  obtain ⟨t1, t2⟩ := hT c b e C' q1
  exact ⟨_, _, .ref C', .ref C, b, rfl, .own C, .base (.ins (r.sub _ _ q2) t1.cls t1.ha t1.hn t1.htk t1.hm), t2, hk _ ho _ G H (.refl r) (Den.bl _)⟩
def foIsc (isc : Nat → Option Bool) : FUp := fun a => match a with
  | .obj c _ => (isc c).map fun b => .d (.bl b)
  | _ => none
@[simp] theorem foIsc_obj {isc : Nat → Option Bool} {c : Nat} {fs : List (Nat × D)} : foIsc isc (.obj c fs) = (isc c).map fun b => .d (.bl b) := rfl
theorem of_isc {isc : Nat → Option Bool} : UpF (oIsc isc) (foIsc isc) := fun a r k e q => by
  unfold foIsc at e
  split at e
  · obtain ⟨b, e1, rfl⟩ := Option.map_eq_some_iff.mp e
    exact ⟨b, e1, q⟩
  · cases e
theorem fe_isc {x T : Str} {p p2 : Pos} {C : Addr} {isc : Nat → Option Bool} (hT : IscT X.K wd.cl (.ref C) isc) (ha : QE wd X a (ofE A)) (hm : X.mg x = none) (hmT : X.mg T = some (.ref C)) (hg : Gl X x := by rfl) (hgT : Gl X T := by rfl) (hv : bootBuiltins x = some (.builtin "isinstance") := by decide +kernel)
    (hn : x ≠ "__name__" := by decide) (hdb : (x == ("__debug__" : Str)) = false := by decide) (hdT : (T == ("__debug__" : Str)) = false := by decide)
    (he1 : starEach [a, .Name T p2] X.env = (false, eval a X.env) :: starEach [.Name T p2] X.env := by rfl) (he2 : starEach [.Name T p2] X.env = (false, eval (.Name T p2) X.env) :: starEach [] X.env := by rfl)
    (hpl : (backTo pos (starEach [.Name T p2] X.env)).any (·.1) = false := by rfl) :
    QE wd X (.Call (.Name x p) [a, .Name T p2] [] pos) (ofE (fUn (foIsc isc) A)) := (qe_isc hT ha hm hmT hg hgT hv hn hdb hdT he1 he2 hpl).imp fun sd μ x k h => fUn_le of_isc h
end
end TL
/-! TL: isinstance(e, (A, B)), e the exception in hand, A, B own classes -/
namespace TL
open PySem PySem.Spec PyProof.Rows L2
section
variable {X : Cx} {wd : Wd} {x : Str} {pos : Pos}
def rIsE2T (K : PySem.W.Frag) (D a : Addr) (d : Option Addr) : List V → Hp → VK → Prop := fun xs H Q => ∃ (tp : Addr) (cs : List V) (us : List Value) (b : Bool), xs = [.ref a, .ref tp] ∧ H tp = some (.tup cs) ∧ Paired ClsV cs us ∧ PySem.W.kitAny K (.ref D) us = some b ∧
  (d = none ∨ ∃ dd vs, d = some dd ∧ H dd = some (.xd vs)) ∧ Q (.bl b) H
theorem call_isE2T {a D : Addr} {d : Option Addr} {oe : Obj} {pn : List (Addr × Obj)} (C : ExcC X.K D) (hz : Zc (.ref D) d oe) (hf : ∃ vs, oe.data = .fields vs) : CallR (X.suite a ((a, oe) :: pn)) (.builtin "isinstance") (rIsE2T X.K D a d) := by
  intro pins s σ H xs us Q I r h
  obtain ⟨tp, cs, ws, b, rfl, hT, k, e, hd, q⟩ := h
  obtain ⟨u1, u2, rfl, r1, r2⟩ := vals2 r
  cases (show u1 = Value.ref a from r1)
  cases (show u2 = Value.ref tp from r2)
  obtain ⟨_, its, rv, o, h1, h2, n, h3⟩ := (show ObjOk X.prog X.w H s.heap tp (.tup cs) from I.hok tp _ hT)
  have e3 := ClsV.all k rv
  subst e3
  obtain ⟨oc, od, dt, sl⟩ := o
  simp only at h2 h3
  subst h2 h3
  obtain ⟨hget, _⟩ := I.pin (a, oe) (List.mem_append.mpr (.inl List.mem_cons_self))
  obtain ⟨vs, hv⟩ := hf
  have J : ∃ od, PySem.W.InstAt s.heap a oe D od := by
    obtain ⟨h1, h2⟩ := hz
    have hno : PySem.W.notCls oe = true := by unfold PySem.W.notCls; rw [hv] <;> rfl
    rcases hd with hd | ⟨dd, ws, hd, hH⟩
    · subst hd
      exact ⟨none, hget, h1, hno, by rw [h2]; trivial⟩
    · subst hd
      obtain ⟨mA, hns, _⟩ := (show ObjOk X.prog X.w H s.heap dd (.xd ws) from I.hok dd _ hH)
      obtain ⟨od, ho, _⟩ := lookIn_ns hns
      exact ⟨some od, hget, h1, hno, by rw [h2]; exact ho⟩
  obtain ⟨od, J⟩ := J
  have hcl : (PySem.W.clsIn X.K D).isSome = true := by
    have h0 := C.hd
    unfold PySem.W.hasDictIn at h0
    cases q : PySem.W.clsIn X.K D with
    | none => rw [q] at h0; cases h0
    | some cd => rfl
  exact PySem.W.kia_tup (PySem.W.kitx_exc hcl C.hg C.hk C.hs C.ha C.hn C.ht C.hm) I.kIn J h1 e (fun z => nomatch z) fun tk => ⟨.bl b, H, I.kept (t' := tk) fun _ _ z => z, rfl, q⟩
def isxOr (f g : Nat → Option Bool) : Nat → Option Bool := fun c => match f c, g c with
  | some true, some _ => some true
  | some false, some b => some b
  | _, _ => none
theorem isxOr_any {K : PySem.W.Frag} {cl : Cl} {C1 C2 : Addr} {f g : Nat → Option Bool} (h1 : IsxT K cl (.ref C1) f) (h2 : IsxT K cl (.ref C2) g) {c : Nat} {C : Addr} {b : Bool} (hc : cl c = some C) (e : isxOr f g c = some b) : ExcC K C ∧ PySem.W.kitAny K (.ref C) [.ref C1, .ref C2] = some b := by
  unfold isxOr at e
  cases e1 : f c with
  | none => rw [e1] at e; cases e
  | some b1 =>
    cases e2 : g c with
    | none => rw [e1, e2] at e; cases b1 <;> cases e
    | some b2 =>
      rw [e1, e2] at e
      obtain ⟨q1, q2⟩ := h1 c C b1 hc e1
      obtain ⟨_, q3⟩ := h2 c C b2 hc e2
      refine ⟨q1, ?_⟩
      unfold PySem.W.kitAny
      rw [q2]
      cases b1 with
      | true => cases e; rfl
      | false =>
        cases e
        show PySem.W.kitAny K (.ref C) [.ref C2] = some b
        unfold PySem.W.kitAny
        rw [q3]
        cases b <;> rfl
theorem qe_isE2 {a C1 C2 : Addr} {oe : Obj} {cls : Value} {d : Option Addr} {pn : List (Addr × Obj)} {xi T1 T2 : Str} {p p1 p2 p3 p4 : Pos} {x1} {isx1 isx2 : Nat → Option Bool} {i : Nat} (hz : Zc cls d oe) (hf : ∃ vs, oe.data = .fields vs) (hT1 : IsxT X.K wd.cl (.ref C1) isx1) (hT2 : IsxT X.K wd.cl (.ref C2) isx2)
    (hm : X.mg xi = none) (hm1 : X.mg T1 = some (.ref C1)) (hm2 : X.mg T2 = some (.ref C2)) (hg1 : Gl X T1 := by rfl) (hg2 : Gl X T2 := by rfl) (hd1 : (T1 == ("__debug__" : Str)) = false := by decide) (hd2 : (T2 == ("__debug__" : Str)) = false := by decide)
    (hN : X.N[i]? = some x := by rfl) (hv : Vis X.env.scope x := by first | exact Or.inl rfl | exact Or.inr (Or.inl rfl) | exact Or.inr (Or.inr rfl)) (hd : (x == ("__debug__" : Str)) = false := by decide) (hcd : (x == ("__classdict__" : Str)) = false := by decide)
    (hg : Gl X xi := by rfl) (hvI : bootBuiltins xi = some (.builtin "isinstance") := by decide +kernel) (hn : xi ≠ "__name__" := by decide) (hdb : (xi == ("__debug__" : Str)) = false := by decide)
    (ht1 : starEach [.Name T1 p2, .Name T2 p3] X.env = (false, eval (.Name T1 p2) X.env) :: starEach [.Name T2 p3] X.env := by rfl) (ht2 : starEach [.Name T2 p3] X.env = (false, eval (.Name T2 p3) X.env) :: starEach [] X.env := by rfl)
    (he1 : starEach [.Name x p1, .Tuple [.Name T1 p2, .Name T2 p3] x1 p4] X.env = (false, eval (.Name x p1) X.env) :: starEach [.Tuple [.Name T1 p2, .Name T2 p3] x1 p4] X.env := by rfl) (he2 : starEach [.Tuple [.Name T1 p2, .Name T2 p3] x1 p4] X.env = (false, eval (.Tuple [.Name T1 p2, .Name T2 p3] x1 p4) X.env) :: starEach [] X.env := by rfl)
    (hpl : (backTo pos (starEach [.Tuple [.Name T1 p2, .Name T2 p3] x1 p4] X.env)).any (·.1) = false := by rfl) :
    QE ⟨wd.cl, wd.W, some (a, cls, d), wd.fp⟩ (X.suite a ((a, oe) :: pn)) (.Call (.Name xi p) [.Name x p1, .Tuple [.Name T1 p2, .Name T2 p3] x1 p4] [] pos) (wIsE i (isxOr isx1 isx2)) := by
  refine ⟨⟨fun pins s σ H Q I ⟨G0, H0, μ0, G, μ, sd, x', k, hx, hs, hw, hk, hxo⟩ => ?_⟩⟩
  unfold wIsE at hw
  split at hw
  · rename_i c fs q
    obtain ⟨b, hb, hw⟩ := hw
    obtain ⟨v, hv1, a', C', d', e1, rfl, hc, xd⟩ := hs.at_ i _ q
    cases e1
    obtain ⟨t1, t2⟩ := isxOr_any hT1 hT2 hc hb
    have pt := pe_tup (x1 := x1) (pos := p4) (pa_cons (X := X.suite a ((a, oe) :: pn)) (e := .Name T1 p2) (es := [.Name T2 p3]) (pe_glob (X := X.suite a ((a, oe) :: pn)) (pos := p2) (v := .ref C1) hg1 hm1 rfl hd1) (pa_cons (X := X.suite a ((a, oe) :: pn)) (e := .Name T2 p3) (es := []) (pe_glob (X := X.suite a ((a, oe) :: pn)) (pos := p3) (v := .ref C2) hg2 hm2 rfl hd2) pa_nil ht2) ht1)
    have P := pe_callB (X := X.suite a ((a, oe) :: pn)) (r := rIsE2T X.K C' a d) (call_isE2T t1 hz hf) hg hm hvI (pa_cons (pe_var (X := X.suite a ((a, oe) :: pn)) (i := i) hN hv hd hcd) (pa_cons pt pa_nil he2) he1) hn hdb he1 hpl (pos := pos) (p := p)
    refine P.run pins s σ H Q I ⟨.ref a, hv1, ⟨(by show 2 ≤ sizeLine; decide), fun tp htp => ?_⟩⟩
    have ext := Ext.loose (o := .tup [.ref C1, .ref C2]) hx.rep htp
    refine ⟨tp, [.ref C1, .ref C2], [.ref C1, .ref C2], b, rfl, upd_same, .cons (.own C1) (.cons (.own C2) .nil), t2, ?_, hk _ _ hw _ G _ ext (Den.bl _)⟩
    rcases xd with ⟨_, h0⟩ | ⟨dd, ws, h1, h2, _⟩
    · exact .inl h0
    · exact .inr ⟨dd, ws, h1, by rw [upd_ne (ne_of_none h2 htp)]; exact h2⟩
  · exact hw.elim
theorem fe_isE2 {cl : Cl} {fp : List D → V → Gh → Prop} {W : WX} {a C1 C2 : Addr} {oe : Obj} {cls : Value} {d : Option Addr} {pn : List (Addr × Obj)} {xi T1 T2 : Str} {p p1 p2 p3 p4 : Pos} {x1} {isx1 isx2 : Nat → Option Bool} {i : Nat} (hz : Zc cls d oe) (hf : ∃ vs, oe.data = .fields vs) (hT1 : IsxT X.K cl (.ref C1) isx1) (hT2 : IsxT X.K cl (.ref C2) isx2)
    (hm : X.mg xi = none) (hm1 : X.mg T1 = some (.ref C1)) (hm2 : X.mg T2 = some (.ref C2)) (hg1 : Gl X T1 := by rfl) (hg2 : Gl X T2 := by rfl) (hd1 : (T1 == ("__debug__" : Str)) = false := by decide) (hd2 : (T2 == ("__debug__" : Str)) = false := by decide)
    (hN : X.N[i]? = some x := by rfl) (hv : Vis X.env.scope x := by first | exact Or.inl rfl | exact Or.inr (Or.inl rfl) | exact Or.inr (Or.inr rfl)) (hd : (x == ("__debug__" : Str)) = false := by decide) (hcd : (x == ("__classdict__" : Str)) = false := by decide)
    (hg : Gl X xi := by rfl) (hvI : bootBuiltins xi = some (.builtin "isinstance") := by decide +kernel) (hn : xi ≠ "__name__" := by decide) (hdb : (xi == ("__debug__" : Str)) = false := by decide)
    (ht1 : starEach [.Name T1 p2, .Name T2 p3] X.env = (false, eval (.Name T1 p2) X.env) :: starEach [.Name T2 p3] X.env := by rfl) (ht2 : starEach [.Name T2 p3] X.env = (false, eval (.Name T2 p3) X.env) :: starEach [] X.env := by rfl)
    (he1 : starEach [.Name x p1, .Tuple [.Name T1 p2, .Name T2 p3] x1 p4] X.env = (false, eval (.Name x p1) X.env) :: starEach [.Tuple [.Name T1 p2, .Name T2 p3] x1 p4] X.env := by rfl) (he2 : starEach [.Tuple [.Name T1 p2, .Name T2 p3] x1 p4] X.env = (false, eval (.Tuple [.Name T1 p2, .Name T2 p3] x1 p4) X.env) :: starEach [] X.env := by rfl)
    (hpl : (backTo pos (starEach [.Tuple [.Name T1 p2, .Name T2 p3] x1 p4] X.env)).any (·.1) = false := by rfl) :
    QE ⟨cl, W, some (a, cls, d), fp⟩ (X.suite a ((a, oe) :: pn)) (.Call (.Name xi p) [.Name x p1, .Tuple [.Name T1 p2, .Name T2 p3] x1 p4] [] pos) (ofE (fIsE i (isxOr isx1 isx2))) :=
  (qe_isE2 (wd := ⟨cl, W, none, fp⟩) (i := i) hz hf hT1 hT2 hm hm1 hm2 hg1 hg2 hd1 hd2 hN hv hd hcd hg hvI hn hdb ht1 ht2 he1 he2 hpl).imp fun sd μ x k h => fIsE_le h
end
/-! data, its lists seen through the store, n levels -/
def seeD : Nat → Mu → D → D
  | 0, _, d => d
  | n + 1, μ, .ref a => match μ[a]? with
    | some (.box (.lst ds)) => .lst (ds.map (seeD n μ))
    | _ => .ref a
  | n + 1, μ, .tup ds => .tup (ds.map (seeD n μ))
  | n + 1, μ, .lst ds => .lst (ds.map (seeD n μ))
  | _ + 1, _, d => d
section
variable {K : PySem.W.Frag} {cl : Cl} {G : Gh} {H : Hp} {μ : Mu}
theorem seeD_denL {n : Nat} (ih : ∀ (v : V) (d : D), Den K cl G v d → Den K cl ⟨H, G.ρ⟩ v (seeD n μ d)) : ∀ {vs : List V} {ds : List D}, DenL K cl G vs ds → DenL K cl ⟨H, G.ρ⟩ vs (ds.map (seeD n μ))
  | _, _, .nil => .nil
  | _, _, .cons h1 h2 => .cons (ih _ _ h1) (seeD_denL ih h2)
theorem seeD_den (r : Rep K cl G H μ) : ∀ (n : Nat) (v : V) (d : D), Den K cl G v d → Den K cl ⟨H, G.ρ⟩ v (seeD n μ d)
  | 0, v, d, h => Den.mono r.gle _ _ h
  | n + 1, v, d, h => by
    cases d with
    | ref m =>
      have h0 := Den.mono r.gle _ _ h
      cases h with
      | @ref a _ hn =>
      show Den K cl ⟨H, G.ρ⟩ (.ref a) (match μ[m]? with | some (.box (.lst ds)) => .lst (ds.map (seeD n μ)) | _ => .ref m)
      split
      · rename_i ds e
        obtain ⟨o, ho, ok⟩ := r.box hn e
        obtain ⟨vs, rfl, h3⟩ := ok.lst
        exact .lst (SqL.of ho) (seeD_denL (seeD_den r n) h3)
      · exact h0
    | tup ds =>
      cases h with
      | tup h1 h2 => exact .tup (sqT_same r.sub h1) (seeD_denL (seeD_den r n) h2)
    | lst ds =>
      cases h with
      | lst h1 h2 => exact .lst (r.sub.seq h1) (seeD_denL (seeD_den r n) h2)
    | _ => exact Den.mono r.gle _ _ h
theorem seeD_den1 (r : Rep K cl G H μ) (n : Nat) {v : V} {d : D} (h : Den1 K cl G H v d) : Den K cl ⟨H, G.ρ⟩ v (seeD n μ d) := by
  cases n with
  | zero => exact Den1.den r.sub h
  | succ n =>
    cases d with
    | lst ds =>
      obtain ⟨a, vs, rfl, h1, h2⟩ := h
      exact .lst h1 (seeD_denL (seeD_den r n) h2)
    | tup ds => exact seeD_den r (n + 1) _ _ h
    | ref m => exact seeD_den r (n + 1) _ _ h
    | _ => exact Den1.den r.sub h
end
section
variable {X : Cx} {wd : Wd} {a b : Expr} {wa wb : WE} {A B : FE} {pos : Pos} {n : Nat}
def wSeeD (n : Nat) (f : Bool → Bool) (wa wb : WE) : WE := fun sd μ x k => wa sd μ x fun r1 μ1 => wb sd μ1 x fun r2 μ2 => okD 12 (seeD n μ2 (vw μ2 sd r1)) ∧ okD 12 (seeD n μ2 (vw μ2 sd r2)) ∧ k (.d (.bl (f (deq (seeD n μ2 (vw μ2 sd r1)) (seeD n μ2 (vw μ2 sd r2)))))) μ2
theorem seeD_red {f : Bool → Bool} {r : R2} {σ : L2.St} {H : Hp} {Q : VK} (ha : QE wd X a wa) (hb : QE wd X b wb)
    (hr : ∀ (x y : V) (H : Hp) (Q : VK) (d e : PyData), Dp X.K H x d → Dp X.K H y e → SeqAt.shaped d = true → SeqAt.shaped e = true → Q (.bl (f (PyData.eqv d e))) H → r x y H Q) (h : rdE X.K wd (wSeeD n f wa wb) σ H Q) :
    rdE X.K wd wa σ H fun x H1 => rdE X.K wd wb σ H1 fun y H2 => r x y H2 Q := by
  obtain ⟨G0, H0, μ0, G, μ, sd, x, k, hx, hs, hw, hk, hxo⟩ := h
  refine ⟨G0, H0, μ0, G, μ, sd, x, _, hx, hs, hw, fun r1 μ1 q1 v1 G1 H1 e1 rel1 => ?_, hxo⟩
  obtain ⟨G1', e1', s1, hold1⟩ := hold hs e1 rel1
  refine ⟨G0, H0, μ0, G1', μ1, sd, x, _, hx.trans e1', hs.step e1', q1, fun r2 μ2 q2 v2 G2 H2 e2 rel2 => ?_, hxo.step e1'⟩
  obtain ⟨G2', e2', s2, hold2⟩ := hold (hs.step e1') e2 rel2
  obtain ⟨o1, o2, q2⟩ := q2
  obtain ⟨p, t1, t2⟩ := shaped_of o1 (by decide)
  obtain ⟨q, t3, t4⟩ := shaped_of o2 (by decide)
  refine hr v1 v2 H2 Q p q (Den.dp _ _ _ (seeD_den1 e2'.rep n (hold1 _ _ _ e2')) t1) (Den.dp _ _ _ (seeD_den1 e2'.rep n (hold2 _ _ _ (.refl e2'.rep))) t3) t2 t4 ?_
  rw [deq_pd _ _ _ _ t1 t3]
  exact hk _ _ q2 _ G2' H2 (e1'.trans e2') (Den.bl _)
theorem qe_seeDEq (hu : X.A.units + 64 < cLine) (ha : QE wd X a wa) (hb : QE wd X b wb) (hm : behindInMarks .Eq b = false := by rfl) : QE wd X (.Compare a [.Eq] [b] pos) (wSeeD n (fun b => b) wa wb) :=
  ⟨PE.imp (pe_cmpR (op_eqD hu) ha.pe hb.pe hm) fun σ H Q h => seeD_red ha hb (fun x y H Q d e h1 h2 h3 h4 q => ⟨d, e, h1, h2, h3, h4, q⟩) h⟩
theorem qe_seeDNe (hu : X.A.units + 64 < cLine) (ha : QE wd X a wa) (hb : QE wd X b wb) (hm : behindInMarks .NotEq b = false := by rfl) : QE wd X (.Compare a [.NotEq] [b] pos) (wSeeD n (fun b => !b) wa wb) :=
  ⟨PE.imp (pe_cmpR (op_neD hu) ha.pe hb.pe hm) fun σ H Q h => seeD_red ha hb (fun x y H Q d e h1 h2 h3 h4 q => ⟨d, e, h1, h2, h3, h4, q⟩) h⟩
theorem qt_seeDEq (hu : X.A.units + 64 < cLine) (ha : QE wd X a wa) (hb : QE wd X b wb) (hm : behindInMarks .Eq b = false := by rfl) : QT wd X (.Compare a [.Eq] [b] pos) (wTst (wSeeD n (fun b => b) wa wb)) :=
  ⟨PT.imp (pt_cmpR (op_eqD hu) ha.pe hb.pe hm) fun σ H Q h => seeD_red (Q := fun x H' => ∃ c, x = .bl c ∧ Q c H') ha hb (fun x y H Q d e h1 h2 h3 h4 q => ⟨d, e, h1, h2, h3, h4, q⟩) (tst_of h)⟩
theorem qt_seeDNe (hu : X.A.units + 64 < cLine) (ha : QE wd X a wa) (hb : QE wd X b wb) (hm : behindInMarks .NotEq b = false := by rfl) : QT wd X (.Compare a [.NotEq] [b] pos) (wTst (wSeeD n (fun b => !b) wa wb)) :=
  ⟨PT.imp (pt_cmpR (op_neD hu) ha.pe hb.pe hm) fun σ H Q h => seeD_red (Q := fun x H' => ∃ c, x = .bl c ∧ Q c H') ha hb (fun x y H Q d e h1 h2 h3 h4 q => ⟨d, e, h1, h2, h3, h4, q⟩) (tst_of h)⟩
def fSeeD (n : Nat) (f : Bool → Bool) (A B : FE) : FE := fun sd μ => (A sd μ).bind fun r1 μ1 => (B sd μ1).bind fun r2 μ2 => Out.of (foEq f (seeD n μ2 (vw μ2 sd r1)) (seeD n μ2 (vw μ2 sd r2))) μ2
@[simp] theorem fSeeD_ap {g : Bool → Bool} {sd : SD} {μ : Mu} : fSeeD n g A B sd μ = (A sd μ).bind fun r1 μ1 => (B sd μ1).bind fun r2 μ2 => Out.of (foEq g (seeD n μ2 (vw μ2 sd r1)) (seeD n μ2 (vw μ2 sd r2))) μ2 := rfl
theorem fSeeD_le {f : Bool → Bool} {sd : SD} {μ : Mu} {x : XT} {k : R → Mu → Prop} (h : ofE (fSeeD n f A B) sd μ x k) : wSeeD n f (ofE A) (ofE B) sd μ x k := sat_mono (sat_bind h) fun r1 μ1 h => sat_mono (sat_bind h) fun r2 μ2 h => by
  obtain ⟨r, e, q⟩ := sat_of h
  unfold foEq at e
  split at e
  · rename_i hh; cases e; exact ⟨okB_ok _ _ hh.1, okB_ok _ _ hh.2, q⟩
  · cases e
theorem fe_seeDEq (hu : X.A.units + 64 < cLine) (ha : QE wd X a (ofE A)) (hb : QE wd X b (ofE B)) (hm : behindInMarks .Eq b = false := by rfl) : QE wd X (.Compare a [.Eq] [b] pos) (ofE (fSeeD n (fun b => b) A B)) := (qe_seeDEq hu ha hb hm).imp fun sd μ x k h => fSeeD_le h
theorem fe_seeDNe (hu : X.A.units + 64 < cLine) (ha : QE wd X a (ofE A)) (hb : QE wd X b (ofE B)) (hm : behindInMarks .NotEq b = false := by rfl) : QE wd X (.Compare a [.NotEq] [b] pos) (ofE (fSeeD n (fun b => !b) A B)) := (qe_seeDNe hu ha hb hm).imp fun sd μ x k h => fSeeD_le h
theorem ft_seeDEq (hu : X.A.units + 64 < cLine) (ha : QE wd X a (ofE A)) (hb : QE wd X b (ofE B)) (hm : behindInMarks .Eq b = false := by rfl) : QT wd X (.Compare a [.Eq] [b] pos) (ofT (fTst (fSeeD n (fun b => b) A B))) := (qt_seeDEq hu ha hb hm).imp fun sd μ x k h => by
  have h2 : wTst (ofE (fSeeD n (fun b => b) A B)) sd μ x k := fTst_le h
  exact fSeeD_le h2
theorem ft_seeDNe (hu : X.A.units + 64 < cLine) (ha : QE wd X a (ofE A)) (hb : QE wd X b (ofE B)) (hm : behindInMarks .NotEq b = false := by rfl) : QT wd X (.Compare a [.NotEq] [b] pos) (ofT (fTst (fSeeD n (fun b => !b) A B))) := (qt_seeDNe hu ha hb hm).imp fun sd μ x k h => by
  have h2 : wTst (ofE (fSeeD n (fun b => !b) A B)) sd μ x k := fTst_le h
  exact fSeeD_le h2
end
section
variable {n : Nat} {μ : Mu} {ds : List D} {i : Int} {b : Bool} {x : Str}
@[simp] theorem seeD_0 {d : D} : seeD 0 μ d = d := rfl
@[simp] theorem seeD_int : seeD (n + 1) μ (.int i) = .int i := rfl
@[simp] theorem seeD_bl : seeD (n + 1) μ (.bl b) = .bl b := rfl
@[simp] theorem seeD_non : seeD (n + 1) μ .non = .non := rfl
@[simp] theorem seeD_str : seeD (n + 1) μ (.str x) = .str x := rfl
@[simp] theorem seeD_tup : seeD (n + 1) μ (.tup ds) = .tup (ds.map (seeD n μ)) := rfl
@[simp] theorem seeD_lst : seeD (n + 1) μ (.lst ds) = .lst (ds.map (seeD n μ)) := rfl
theorem seeD_ref {a : Nat} (h : μ[a]? = some (.box (.lst ds))) : seeD (n + 1) μ (.ref a) = .lst (ds.map (seeD n μ)) := by
  rw [seeD, h]
end
end TL
namespace WY
open PySem PySem.Spec L2 TL
noncomputable section
def top (i : Nat) : Stmt := PySem.Challenge.pw_wormyard_k11_told_tables.main.body.getD i (.Pass ⟨0, 0, 0, 0⟩)
abbrev s_NoRoad_init : Stmt := inClass (top 5) 0
abbrev s_TooMany_init : Stmt := inClass (top 4) 0
abbrev s_Land_init : Stmt := inClass (top 12) 0
abbrev s_Table_init : Stmt := inClass (top 9) 0
abbrev s_NoEntry_init : Stmt := inClass (top 6) 0
abbrev s_Land_into : Stmt := inClass (top 12) 4
abbrev s_Land_out_of : Stmt := inClass (top 12) 3
abbrev s_Told_is_good : Stmt := inClass (top 10) 1
abbrev s_Told_init : Stmt := inClass (top 10) 0
abbrev s_is_bad : Stmt := top 19
abbrev s_first_bad : Stmt := top 20
abbrev s_draw : Stmt := top 14
abbrev s_land : Stmt := top 15
abbrev s_refused : Stmt := top 21
abbrev s_Table_ways : Stmt := inClass (top 9) 1
abbrev s_Told_ways : Stmt := inClass (top 10) 2
abbrev s_right : Stmt := top 22
abbrev s_row : Stmt := top 16
abbrev s_spoiled : Stmt := top 17
abbrev s_rows : Stmt := top 18
abbrev s_law : Stmt := top 23
abbrev fc_known : List Nat := [2]
abbrev fc_land : List Nat := [1, 2]
abbrev fc_lanes : List Nat := [0]
abbrev fc_places : List Nat := [0]
abbrev mc_into : List Nat := [0]
abbrev mc_is_good : List Nat := [2]
abbrev mc_out_of : List Nat := [0]
abbrev mc_ways : List Nat := [1, 2]
def em_YardError : Nat → Option Bool := lkB [(20, true), (21, true), (22, true), (23, true), (24, true), (32, true)]
def isx_NoEntry : Nat → Option Bool := lkB [(20, false), (21, false), (22, false), (23, false), (24, true), (32, false)]
def isx_NoMove : Nat → Option Bool := lkB [(20, false), (21, false), (22, false), (23, false), (24, false), (32, true)]
def isx_NoRoad : Nat → Option Bool := lkB [(20, false), (21, false), (22, false), (23, true), (24, false), (32, false)]
def B1_Land_init : FS := (sSeq (sSet (.t [5, 6]) (fV 4))
  (sIf (fOr (fTst (fBin foEqq (fV 5) (fV 6))) (fOr (fTst (fBin foLt (fV 5) (fC (.int 0)))) (fOr (fTst (fBin foLt (fV 6) (fC (.int 0)))) (fOr (fTst (fBin foGe (fV 5) (fV 1))) (fTst (fBin foGe (fV 6) (fV 1))))))) (sRaise1 23 29 (fV 3)) sNext))
def F_Land_init : FF := runF 7 (sSeq (sIf (fOr (fTst (fBin foLt (fV 1) (fC (.int 1)))) (fTst (fBin foGt (fV 1) (fC (.int 12))))) (sRaise 21) sNext)
  (sSeq (sIf (fTst (fBin foGt (fB fbLen (fConsV (fV 2) fNil)) (fC (.int 40)))) (sRaise1 22 28 (fB fbLen (fConsV (fV 2) fNil))) sNext)
  (sSeq (sFor (fiEnumX (fV 2)) (.t [3, 4]) B1_Land_init)
  (sSeq (sPutF fc_places 0 (fV 1) (fV 0))
  (sPutF fc_lanes 1 (fB fbTuple (fConsV (fV 2) fNil)) (fV 0))))))
def F_Table_init : FF := runF 2 (sPutF fc_land 2 (fV 1) (fV 0))
def CT1_Land_into : FT := (fTst (fBin foEqq (fBin foIxD (fBin foIxD (fFld fc_lanes 1 (fV 0)) (fV 2)) (fC (.int 1))) (fV 1)))
def CE1_Land_into : FE := (fV 2)
def F_Land_into : FF := runF 3 (sRet (fLc (fiRng1 (fB fbLen (fConsV (fFld fc_lanes 1 (fV 0)) fNil))) (.n 2) CT1_Land_into CE1_Land_into [2]))
def d_into : Nat → FF := fun c => match c with
  | 0 => F_Land_into
  | _ => fun _ _ => .no
def CT1_Land_out_of : FT := (fTst (fBin foEqq (fBin foIxD (fBin foIxD (fFld fc_lanes 1 (fV 0)) (fV 2)) (fC (.int 0))) (fV 1)))
def CE1_Land_out_of : FE := (fV 2)
def F_Land_out_of : FF := runF 3 (sRet (fLc (fiRng1 (fB fbLen (fConsV (fFld fc_lanes 1 (fV 0)) fNil))) (.n 2) CT1_Land_out_of CE1_Land_out_of [2]))
def d_out_of : Nat → FF := fun c => match c with
  | 0 => F_Land_out_of
  | _ => fun _ _ => .no
def B1_Told_is_good : FS := (sIf (fOr (fTst (fBin foLt (fV 5) (fC (.int 0)))) (fTst (fBin foGe (fV 5) (fFld fc_places 0 (fFld fc_land 2 (fV 0)))))) (sRet (fC (.bl false))) sNext)
def CT1_Told_is_good : FT := (fTst (fBin foNinD (fV 7) (fV 6)))
def CE1_Told_is_good : FE := (fV 7)
def F_Told_is_good : FF := runF 8 (sSeq (sFor (fiSeq (fLst (fCons (fV 1) (fCons (fV 2) fNil)))) (.n 5) B1_Told_is_good)
  (sSeq (sIf (fOr (fTst (fBin foEqq (fV 1) (fV 2))) (fAnd (fTst (fBin foIsn (fV 3) (fC .non))) (fTst (fBin foNinD (fV 3) (fMeth mc_into 1 d_into (fFld fc_land 2 (fV 0)) (fCons (fV 1) fNil)))))) (sRet (fC (.bl false))) sNext)
  (sSeq (sSet (.n 6) (fMeth mc_out_of 1 d_out_of (fFld fc_land 2 (fV 0)) (fCons (fV 1) fNil)))
  (sRet (fBin foEqq (fLc (fiSeq (fV 4)) (.n 7) CT1_Told_is_good CE1_Told_is_good [7]) (fLst fNil))))))
def d_is_good : Nat → FF := fun c => match c with
  | 2 => F_Told_is_good
  | _ => fun _ _ => .no
def B1_Told_init : FS := (sSeq (sSet (.t [5, 6, 7, 8]) (fV 4))
  (sSeq (sIf (fOr (fTst (fBin foInDD (fTup (fCons (fV 5) (fCons (fV 6) (fCons (fV 7) fNil)))) (fFld fc_known 3 (fV 0)))) (fNot (fTst (fMeth mc_is_good 4 d_is_good (fV 0) (fCons (fV 5) (fCons (fV 6) (fCons (fV 7) (fCons (fV 8) fNil)))))))) (sRaise1 24 30 (fV 3)) sNext)
  (sPutMD (fFld fc_known 3 (fV 0)) (fTup (fCons (fV 5) (fCons (fV 6) (fCons (fV 7) fNil)))) (fB fbSorSet (fConsV (fV 8) fNil)))))
def F_Told_init : FF := runF 9 (sSeq (sDrop (fCall 2 F_Table_init (fCons (fV 0) (fCons (fV 1) fNil))))
  (sSeq (sPutF fc_known 3 (fNode (fDnew true)) (fV 0))
  (sFor (fiEnumX (fV 2)) (.t [3, 4]) B1_Told_init)))
def CT1_is_bad : FT := (fOr (fTst (fBin foGe (fV 8) (fB fbLen (fConsV (fV 3) fNil)))) (fTst (fBin foNeq (fBin foIxD (fBin foIxD (fV 3) (fV 8)) (fC (.int 0))) (fV 4))))
def CE1_is_bad : FE := (fV 8)
def CT2_is_bad : FT := (fTst (fBin foEqq (fSl (fV 9) fNo (fPart (fC (.int 3)))) (fSl (fV 0) fNo (fPart (fC (.int 3))))))
def CE2_is_bad : FE := (fV 9)
def F_is_bad : FF := runF 10 (sSeq (sSet (.t [4, 5, 6, 7]) (fV 0))
  (sSeq (sIf (fOr (fTst (fBin foLt (fB fbMin (fConsV (fV 4) (fConsV (fV 5) fNil))) (fC (.int 0)))) (fOr (fTst (fBin foGe (fB fbMax (fConsV (fV 4) (fConsV (fV 5) fNil))) (fV 2))) (fTst (fBin foEqq (fV 4) (fV 5))))) (sRet (fC (.bl true))) sNext)
  (sSeq (sIf (fAnd (fTst (fBin foIsn (fV 6) (fC .non))) (fOr (fTst (fBin foGe (fV 6) (fB fbLen (fConsV (fV 3) fNil)))) (fTst (fBin foNeq (fBin foIxD (fBin foIxD (fV 3) (fV 6)) (fC (.int 1))) (fV 4))))) (sRet (fC (.bl true))) sNext)
  (sSeq (sIf (fTst (fBin foNeq (fLc (fiSeq (fV 7)) (.n 8) CT1_is_bad CE1_is_bad [8]) (fLst fNil))) (sRet (fC (.bl true))) sNext)
  (sRet (fBin foNeq (fLc (fiSeq (fV 1)) (.n 9) CT2_is_bad CE2_is_bad [9]) (fLst fNil)))))))
def B1_first_bad : FS := (sIf (fTst (fCall 4 F_is_bad (fCons (fBin foIxD (fV 0) (fV 3)) (fCons (fSl (fV 0) fNo (fPart (fV 3))) (fCons (fV 1) (fCons (fV 2) fNil)))))) (sRet (fV 3)) sNext)
def F_first_bad : FF := runF 4 (sSeq (sFor (fiRng1 (fB fbLen (fConsV (fV 0) fNil))) (.n 3) B1_first_bad)
  (sRet (fC .non)))
def F_draw : FF := runF 4 (sSeq (sSet (.n 2) (fC (.int 0)))
  (sSeq (sIf (fAnd (fTst (fBin foNeq (fV 0) (fLst fNil))) (fTst (fBin foEqq (fBin foMod (fBin foIxD (fV 0) (fC (.int 0))) (fC (.int 2))) (fC (.int 1))))) (sSeq (sIf (fTst (fBin foLt (fBin foAdd (fC (.int 1)) (fBin foDiv (fV 1) (fC (.int 30)))) (fB fbLen (fConsV (fV 0) fNil)))) (sSet (.n 2) (fBin foIxD (fV 0) (fBin foAdd (fC (.int 1)) (fBin foDiv (fV 1) (fC (.int 30)))))) sNext)
  (sRet (fBin foMod (fBin foShr (fV 2) (fBin foMul (fC (.int 32)) (fBin foMod (fV 1) (fC (.int 30))))) (fBin foPow (fC (.int 2)) (fC (.int 32)))))) sNext)
  (sSeq (sIf (fTst (fBin foNeq (fV 0) (fLst fNil))) (sSet (.n 2) (fBin foIxD (fV 0) (fBin foMod (fV 1) (fB fbLen (fConsV (fV 0) fNil))))) sNext)
  (sSeq (sSet (.n 3) (fBin foMod (fBin foMul (fBin foAdd (fBin foAdd (fV 2) (fBin foMul (fC (.int 7919)) (fV 1))) (fC (.int 1))) (fC (.int 48271))) (fC (.int 2147483647))))
  (sSeq (sSet (.n 3) (fBin foMod (fBin foMul (fV 3) (fBin foAdd (fBin foDiv (fV 3) (fC (.int 1009))) (fC (.int 69621)))) (fC (.int 2147483647))))
  (sRet (fBin foMod (fBin foMul (fV 3) (fBin foAdd (fBin foDiv (fV 3) (fC (.int 2003))) (fC (.int 40692)))) (fC (.int 2147483399)))))))))
def B1_land : FS := (sSeq (sSet (.n 4) (fCall 2 F_draw (fCons (fV 0) (fCons (fBin foAdd (fC (.int 200)) (fV 3)) fNil))))
  (sSeq (sSet (.n 5) (fBin foMod (fV 4) (fV 1)))
  (sApp 2 (fTup (fCons (fV 5) (fCons (fBin foMod (fBin foAdd (fBin foAdd (fV 5) (fC (.int 1))) (fBin foMod (fBin foDiv (fV 4) (fC (.int 16))) (fBin foSub (fV 1) (fC (.int 1))))) (fV 1)) fNil))))))
def F_land : FF := runF 6 (sSeq (sSet (.n 1) (fBin foIxD (fLst (fCons (fC (.int 2)) (fCons (fC (.int 3)) (fCons (fC (.int 4)) (fCons (fC (.int 5)) (fCons (fC (.int 6)) (fCons (fC (.int 3)) (fCons (fC (.int 4)) (fCons (fC (.int 12)) fNil))))))))) (fBin foMod (fCall 2 F_draw (fCons (fV 0) (fCons (fC (.int 0)) fNil))) (fC (.int 8)))))
  (sSeq (sSetO 2 (fLst fNil))
  (sSeq (sFor (fiRng1 (fBin foMod (fCall 2 F_draw (fCons (fV 0) (fCons (fC (.int 1)) fNil))) (fC (.int 15)))) (.n 3) B1_land)
  (sFrz 2 (sRet (fTup (fCons (fV 1) (fCons (fV 2) fNil))))))))
def F_refused : FF := runF 3 (sSeq (sTryAs em_YardError 2 (sDrop (fMakeF 2 2 F_Told_init [] (fCons (fV 0) (fCons (fV 1) fNil)))) (sSeq (sIf (fAnd (fTst (fIsE 2 isx_NoEntry)) (fNot (fTst (fIsE 2 (isxOr isx_NoRoad isx_NoMove))))) (sRet (fXf 2 24 30)) sNext)
  (sRet (fC (.str "other")))))
  (sRet (fC .non)))
def F_Table_ways : FF := runF 4 (sRet (fLst fNil))
def F_Told_ways : FF := runF 4 (sRet (fB fbList (fConsV (fGet2 (fFld fc_known 3 (fV 0)) (fTup (fCons (fV 1) (fCons (fV 2) (fCons (fV 3) fNil)))) (fLst fNil)) fNil)))
def d_ways : Nat → FF := fun c => match c with
  | 1 => F_Table_ways
  | 2 => F_Told_ways
  | _ => fun _ _ => .no
def B1_right : FS := (sPutD 4 (fTup (fCons (fV 5) (fCons (fV 6) (fCons (fV 7) fNil)))) (fB fbSorSet (fConsV (fV 8) fNil)))
def CT1_right : FT := (fTst (fBin foEqq (fBin foIxD (fBin foIxD (fV 3) (fV 10)) (fC (.int 1))) (fV 5)))
def CE1_right : FE := (fV 10)
def B2_right : FS := (sSeq (sSetO 9 (fMeth mc_ways 3 d_ways (fV 0) (fCons (fV 5) (fCons (fV 6) (fCons (fV 7) fNil)))))
  (sSeq (sIf (fOr (fNot (fTst (fUn (foIsi .list) (fV 9)))) (fTst (fBin foNeq (fV 9) (fGet2 (fV 4) (fTup (fCons (fV 5) (fCons (fV 6) (fCons (fV 7) fNil)))) (fLst fNil))))) (sRet (fC (.bl false))) sNext)
  (sApp 9 (fC (.int 0)))))
def B3_right : FS := (sFor (fiSeq (fBin foAdd (fLst (fCons (fC .non) fNil)) (fLc (fiRng1 (fB fbLen (fConsV (fV 3) fNil))) (.n 10) CT1_right CE1_right [10]))) (.n 7) B2_right)
def B4_right : FS := (sFor (fiRng1 (fV 2)) (.n 6) B3_right)
def F_right : FF := runF 11 (sSeq (sSetO 4 (fDnew true))
  (sSeq (sFor (fiSeq (fV 1)) (.t [5, 6, 7, 8]) B1_right)
  (sFrz 4 (sSeq (sFor (fiRng1 (fV 2)) (.n 5) B4_right)
  (sRet (fC (.bl true)))))))
def CT1_row : FT := (fTst (fBin foEqq (fBin foIxD (fBin foIxD (fV 1) (fV 10)) (fC (.int 1))) (fV 4)))
def CE1_row : FE := (fV 10)
def CT2_row : FT := (fTst (fBin foEqq (fBin foIxD (fBin foIxD (fV 1) (fV 10)) (fC (.int 0))) (fV 4)))
def CE2_row : FE := (fV 10)
def CT3_row : FT := (fTst (fBin foEqq (fBin foAnd (fBin foShr (fV 3) (fV 10)) (fC (.int 1))) (fC (.int 1))))
def CE3_row : FE := (fV 10)
def F_row : FF := runF 11 (sSeq (sSet (.n 4) (fBin foMod (fV 2) (fV 0)))
  (sSeq (sSet (.n 5) (fBin foMod (fBin foAdd (fBin foAdd (fV 4) (fC (.int 1))) (fBin foMod (fBin foDiv (fV 2) (fC (.int 16))) (fBin foSub (fV 0) (fC (.int 1))))) (fV 0)))
  (sSeq (sSet (.n 6) (fBin foAdd (fLst (fCons (fC .non) (fCons (fC .non) fNil))) (fLc (fiRng1 (fB fbLen (fConsV (fV 1) fNil))) (.n 10) CT1_row CE1_row [10])))
  (sSeq (sSet (.n 7) (fBin foIxD (fV 6) (fBin foMod (fBin foDiv (fV 2) (fC (.int 256))) (fB fbLen (fConsV (fV 6) fNil)))))
  (sSeq (sSet (.n 8) (fLc (fiRng1 (fB fbLen (fConsV (fV 1) fNil))) (.n 10) CT2_row CE2_row [10]))
  (sSeq (sSet (.n 9) (fLc (fiSeq (fV 8)) (.n 10) CT3_row CE3_row [10]))
  (sSeq (sIf (fTst (fBin foEqq (fBin foMod (fBin foDiv (fV 3) (fC (.int 65536))) (fC (.int 3))) (fC (.int 1)))) (sSet (.n 9) (fRevL (fV 9))) sNext)
  (sRet (fTup (fCons (fV 4) (fCons (fV 5) (fCons (fV 7) (fCons (fBin foAdd (fV 9) (fSl (fV 9) fNo (fPart (fBin foMod (fBin foDiv (fV 3) (fC (.int 262144))) (fC (.int 2)))))) fNil)))))))))))))
def F_spoiled : FF := runF 10 (sSeq (sSet (.t [5, 6, 7, 8]) (fV 0))
  (sSeq (sSet (.n 9) (fBin foMod (fV 4) (fC (.int 8))))
  (sSeq (sIf (fTst (fBin foEqq (fV 9) (fC (.int 0)))) (sRet (fTup (fCons (fBin foAdd (fV 2) (fBin foMod (fBin foDiv (fV 4) (fC (.int 8))) (fC (.int 2)))) (fCons (fV 6) (fCons (fV 7) (fCons (fV 8) fNil)))))) sNext)
  (sSeq (sIf (fTst (fBin foEqq (fV 9) (fC (.int 1)))) (sRet (fTup (fCons (fV 5) (fCons (fBin foSub (fC (.int 0)) (fC (.int 1))) (fCons (fV 7) (fCons (fV 8) fNil)))))) sNext)
  (sSeq (sIf (fTst (fBin foEqq (fV 9) (fC (.int 2)))) (sRet (fTup (fCons (fV 5) (fCons (fV 5) (fCons (fV 7) (fCons (fV 8) fNil)))))) sNext)
  (sSeq (sIf (fTst (fBin foEqq (fV 9) (fC (.int 3)))) (sRet (fTup (fCons (fV 5) (fCons (fV 6) (fCons (fB fbLen (fConsV (fV 3) fNil)) (fCons (fV 8) fNil)))))) sNext)
  (sSeq (sIf (fTst (fBin foEqq (fV 9) (fC (.int 4)))) (sRet (fTup (fCons (fV 5) (fCons (fV 6) (fCons (fV 7) (fCons (fBin foAdd (fV 8) (fLst (fCons (fBin foAdd (fB fbLen (fConsV (fV 3) fNil)) (fBin foMod (fBin foDiv (fV 4) (fC (.int 8))) (fC (.int 2)))) fNil))) fNil)))))) sNext)
  (sSeq (sIf (fTst (fBin foEqq (fV 9) (fC (.int 5)))) (sRet (fTup (fCons (fV 5) (fCons (fV 6) (fCons (fBin foMod (fBin foDiv (fV 4) (fC (.int 8))) (fB fbMax (fConsV (fC (.int 1)) (fConsV (fB fbLen (fConsV (fV 3) fNil)) fNil)))) (fCons (fV 8) fNil)))))) sNext)
  (sSeq (sIf (fTst (fBin foEqq (fV 9) (fC (.int 6)))) (sRet (fTup (fCons (fV 5) (fCons (fV 6) (fCons (fV 7) (fCons (fBin foAdd (fLst (fCons (fBin foMod (fBin foDiv (fV 4) (fC (.int 8))) (fB fbMax (fConsV (fC (.int 1)) (fConsV (fB fbLen (fConsV (fV 3) fNil)) fNil)))) fNil)) (fV 8)) fNil)))))) sNext)
  (sRet (fBin foAdd (fSl (fBin foIxD (fV 1) (fBin foMod (fBin foDiv (fV 4) (fC (.int 8))) (fB fbLen (fConsV (fV 1) fNil)))) fNo (fPart (fC (.int 3)))) (fTup (fCons (fLst fNil) fNil)))))))))))))
def B1_rows : FS := (sSeq (sSet (.n 6) (fCall 4 F_row (fCons (fV 1) (fCons (fV 2) (fCons (fCall 2 F_draw (fCons (fV 0) (fCons (fBin foAdd (fC (.int 300)) (fBin foMul (fC (.int 2)) (fV 5))) fNil))) (fCons (fCall 2 F_draw (fCons (fV 0) (fCons (fBin foAdd (fC (.int 301)) (fBin foMul (fC (.int 2)) (fV 5))) fNil))) fNil))))))
  (sSeq (sIf (fTst (fBin foNinD (fSl (fV 6) fNo (fPart (fC (.int 3)))) (fV 4))) (sAppM (fV 3) (fV 6)) sNext)
  (sPutD 4 (fSl (fV 6) fNo (fPart (fC (.int 3)))) (fC (.bl true)))))
def B2_rows : FS := (sIf (fTst (fBin foNeq (fV 3) (fLst fNil))) (sSeq (sSet (.n 7) (fBin foMod (fCall 2 F_draw (fCons (fV 0) (fCons (fBin foAdd (fC (.int 400)) (fV 5)) fNil))) (fB fbLen (fConsV (fV 3) fNil))))
  (sPutM (fV 3) (fV 7) (fCall 5 F_spoiled (fCons (fBin foIxD (fV 3) (fV 7)) (fCons (fV 3) (fCons (fV 1) (fCons (fV 2) (fCons (fCall 2 F_draw (fCons (fV 0) (fCons (fBin foAdd (fC (.int 410)) (fV 5)) fNil))) fNil)))))))) sNext)
def F_rows : FF := runF 8 (sSeq (sSet (.n 3) (fNode (fLst fNil)))
  (sSeq (sSetO 4 (fDnew true))
  (sSeq (sFor (fiRng1 (fB fbLen (fConsV (fSl (fV 0) (fPart (fC (.int 3))) (fPart (fC (.int 43)))) fNil))) (.n 5) B1_rows)
  (sSeq (sFor (fiRng1 (fBin foSub (fBin foMod (fCall 2 F_draw (fCons (fV 0) (fCons (fC (.int 2)) fNil))) (fC (.int 4))) (fC (.int 1)))) (.n 5) B2_rows)
  (sRet (fV 3))))))
def CE1_law : FE := (fBin foAdd (fSl (fV 8) fNo (fPart (fC (.int 3)))) (fTup (fCons (fNode (fB fbList (fConsV (fBin foIxD (fV 8) (fC (.int 3))) fNil))) fNil)))
def B1_law : FS := (sAppM (fBin foIxD (fV 8) (fC (.int 3))) (fC (.int 0)))
def F_law : FF := runF 9 (sSeq (sSet (.t [1, 2]) (fCall 1 F_land (fCons (fV 0) fNil)))
  (sSeq (sSet (.n 3) (fCall 3 F_rows (fCons (fV 0) (fCons (fV 1) (fCons (fV 2) fNil)))))
  (sSeq (sSet (.n 4) (fMakeF 0 2 F_Land_init [] (fCons (fV 1) (fCons (fV 2) fNil))))
  (sSeq (sSet (.n 5) (fNode (fLc (fiSeq (fV 3)) (.n 8) fYes CE1_law [8])))
  (sSeq (sSet (.n 6) (fCall 3 F_first_bad (fCons (fV 3) (fCons (fV 1) (fCons (fV 2) fNil)))))
  (sSeq (sIf (fOr (fTst (fBin foNeq (fCall 2 F_refused (fCons (fV 4) (fCons (fV 5) fNil))) (fV 6))) (fTst (fSeeD 3 (fun b => !b) (fV 5) (fV 3)))) (sRet (fC (.bl false))) sNext)
  (sSeq (sIf (fTst (fBin foIsn (fV 6) (fC .non))) (sRet (fC (.bl true))) sNext)
  (sSeq (sSet (.n 7) (fMakeF 2 2 F_Told_init [] (fCons (fV 4) (fCons (fV 5) fNil))))
  (sSeq (sFor (fiSeq (fV 5)) (.n 8) B1_law)
  (sSeq (sClrM (fV 5))
  (sSeq (sIf (fOr (fNot (fTst (fCall 4 F_right (fCons (fV 7) (fCons (fV 3) (fCons (fV 1) (fCons (fV 2) fNil))))))) (fNot (fTst (fCall 4 F_right (fCons (fV 7) (fCons (fV 3) (fCons (fV 1) (fCons (fV 2) fNil)))))))) (sRet (fC (.bl false))) sNext)
  (sRet (fAndV (fBin foEqq (fFld fc_lanes 1 (fFld fc_land 2 (fV 7))) (fB fbTuple (fConsV (fV 2) fNil))) (fCall 4 F_right (fCons (fMakeF 1 1 F_Table_init [] (fCons (fV 4) fNil)) (fCons (fLst fNil) (fCons (fV 1) (fCons (fV 2) fNil))))))))))))))))))
end
end WY
namespace WY
open PySem PySem.Spec L2 TL
noncomputable section
structure Adr where
  C_Table : Addr
  C_Told : Addr
  C_Land : Addr
  C_YardError : Addr
  C_NoPlaces : Addr
  C_TooMany : Addr
  C_NoRoad : Addr
  C_NoEntry : Addr
  C_NoMove : Addr
  f_NoRoad_init : Addr
  f_TooMany_init : Addr
  f_Land_init : Addr
  f_Table_init : Addr
  f_NoEntry_init : Addr
  f_Land_into : Addr
  f_Land_out_of : Addr
  f_Told_is_good : Addr
  f_Told_init : Addr
  f_is_bad : Addr
  f_first_bad : Addr
  f_draw : Addr
  f_land : Addr
  f_refused : Addr
  f_Table_ways : Addr
  f_Told_ways : Addr
  f_right : Addr
  f_row : Addr
  f_spoiled : Addr
  f_rows : Addr
  f_law : Addr
@[reducible] def clC (A : Adr) : Nat → Option Addr := fun c => match c with
  | 1 => some A.C_Table
  | 2 => some A.C_Told
  | 0 => some A.C_Land
  | 20 => some A.C_YardError
  | 21 => some A.C_NoPlaces
  | 22 => some A.C_TooMany
  | 23 => some A.C_NoRoad
  | 24 => some A.C_NoEntry
  | 32 => some A.C_NoMove
  | _ => none
@[reducible] def cl (P : Program) (w : World) (A : Adr) : Cl := ⟨clC A, P, w, 0⟩
structure Txt (K : PySem.W.Frag) (mg : Str → Option Value) (A : Adr) : Prop where
  c_Table : Cls K A.C_Table
  c_Told : Cls K A.C_Told
  c_Land : Cls K A.C_Land
  f_NoRoad_init : ∃ fd, Fun K "__init__" "NoRoad.__init__" s_NoRoad_init A.f_NoRoad_init fd ∧ Binds K fd ["self", "lane"] []
  f_TooMany_init : ∃ fd, Fun K "__init__" "TooMany.__init__" s_TooMany_init A.f_TooMany_init fd ∧ Binds K fd ["self", "many"] []
  f_Land_init : ∃ fd, Fun K "__init__" "Land.__init__" s_Land_init A.f_Land_init fd ∧ Binds K fd ["self", "places", "lanes"] []
  f_Table_init : ∃ fd, Fun K "__init__" "Table.__init__" s_Table_init A.f_Table_init fd ∧ Binds K fd ["self", "land"] []
  f_NoEntry_init : ∃ fd, Fun K "__init__" "NoEntry.__init__" s_NoEntry_init A.f_NoEntry_init fd ∧ Binds K fd ["self", "row"] []
  f_Land_into : ∃ fd, Fun K "into" "Land.into" s_Land_into A.f_Land_into fd ∧ Binds K fd ["self", "place"] []
  f_Land_out_of : ∃ fd, Fun K "out_of" "Land.out_of" s_Land_out_of A.f_Land_out_of fd ∧ Binds K fd ["self", "place"] []
  f_Told_is_good : ∃ fd, Fun K "is_good" "Told.is_good" s_Told_is_good A.f_Told_is_good fd ∧ Binds K fd ["self", "place", "goal", "came", "lanes"] []
  f_Told_init : ∃ fd, Fun K "__init__" "Told.__init__" s_Told_init A.f_Told_init fd ∧ Binds K fd ["self", "land", "rows"] []
  f_is_bad : ∃ fd, Fun K "_law_is_bad" "_law_is_bad" s_is_bad A.f_is_bad fd ∧ Binds K fd ["_law_row_here", "_law_ahead", "_law_places", "_law_lanes"] []
  f_first_bad : ∃ fd, Fun K "_law_first_bad" "_law_first_bad" s_first_bad A.f_first_bad fd ∧ Binds K fd ["_law_rows_here", "_law_places", "_law_lanes"] []
  f_draw : ∃ fd, Fun K "_law_draw" "_law_draw" s_draw A.f_draw fd ∧ Binds K fd ["_law_script", "_law_k"] []
  f_land : ∃ fd, Fun K "_law_land" "_law_land" s_land A.f_land fd ∧ Binds K fd ["_law_script"] []
  f_refused : ∃ fd, Fun K "_law_refused" "_law_refused" s_refused A.f_refused fd ∧ Binds K fd ["_law_land_here", "_law_rows_here"] []
  f_Table_ways : ∃ fd, Fun K "ways" "Table.ways" s_Table_ways A.f_Table_ways fd ∧ Binds K fd ["self", "place", "goal", "came"] []
  f_Told_ways : ∃ fd, Fun K "ways" "Told.ways" s_Told_ways A.f_Told_ways fd ∧ Binds K fd ["self", "place", "goal", "came"] []
  f_right : ∃ fd, Fun K "_law_right" "_law_right" s_right A.f_right fd ∧ Binds K fd ["_law_table", "_law_rows_here", "_law_places", "_law_lanes"] []
  f_row : ∃ fd, Fun K "_law_row" "_law_row" s_row A.f_row fd ∧ Binds K fd ["_law_places", "_law_lanes", "_law_draw_here", "_law_other"] []
  f_spoiled : ∃ fd, Fun K "_law_spoiled" "_law_spoiled" s_spoiled A.f_spoiled fd ∧ Binds K fd ["_law_row_here", "_law_rows_here", "_law_places", "_law_lanes", "_law_draw_here"] []
  f_rows : ∃ fd, Fun K "_law_rows" "_law_rows" s_rows A.f_rows fd ∧ Binds K fd ["_law_script", "_law_places", "_law_lanes"] []
  g_Land : mg "Land" = some (.ref A.C_Land)
  g_NoEntry : mg "NoEntry" = some (.ref A.C_NoEntry)
  g_NoMove : mg "NoMove" = some (.ref A.C_NoMove)
  g_NoPlaces : mg "NoPlaces" = some (.ref A.C_NoPlaces)
  g_NoRoad : mg "NoRoad" = some (.ref A.C_NoRoad)
  g_Table : mg "Table" = some (.ref A.C_Table)
  g_Told : mg "Told" = some (.ref A.C_Told)
  g_TooMany : mg "TooMany" = some (.ref A.C_TooMany)
  g_YardError : mg "YardError" = some (.ref A.C_YardError)
  g__law_draw : mg "_law_draw" = some (.ref A.f_draw)
  g__law_first_bad : mg "_law_first_bad" = some (.ref A.f_first_bad)
  g__law_is_bad : mg "_law_is_bad" = some (.ref A.f_is_bad)
  g__law_land : mg "_law_land" = some (.ref A.f_land)
  g__law_refused : mg "_law_refused" = some (.ref A.f_refused)
  g__law_right : mg "_law_right" = some (.ref A.f_right)
  g__law_row : mg "_law_row" = some (.ref A.f_row)
  g__law_rows : mg "_law_rows" = some (.ref A.f_rows)
  g__law_spoiled : mg "_law_spoiled" = some (.ref A.f_spoiled)
  b_enumerate : mg "enumerate" = none
  b_isinstance : mg "isinstance" = none
  b_len : mg "len" = none
  b_list : mg "list" = none
  b_max : mg "max" = none
  b_min : mg "min" = none
  b_range : mg "range" = none
  b_set : mg "set" = none
  b_sorted : mg "sorted" = none
  b_tuple : mg "tuple" = none
  n_Told_known : NoAttr K A.C_Told "known"
  n_Table_land : NoAttr K A.C_Table "land"
  n_Told_land : NoAttr K A.C_Told "land"
  n_Land_lanes : NoAttr K A.C_Land "lanes"
  n_Land_places : NoAttr K A.C_Land "places"
  m_Land_into : Meth K A.C_Land "into" A.f_Land_into
  m_Told_is_good : Meth K A.C_Told "is_good" A.f_Told_is_good
  m_Land_out_of : Meth K A.C_Land "out_of" A.f_Land_out_of
  m_Table_ways : Meth K A.C_Table "ways" A.f_Table_ways
  m_Told_ways : Meth K A.C_Told "ways" A.f_Told_ways
  k_Land : Mk K A.C_Land A.f_Land_init
  k_Table : Mk K A.C_Table A.f_Table_init
  k_Told : Mk K A.C_Told A.f_Told_init
  x_NoPlaces : ExcT K mg "NoPlaces" A.C_NoPlaces
  em_YardError_YardError : PySem.W.exmOne K (.ref A.C_YardError) (.ref A.C_YardError) = some true
  em_YardError_NoPlaces : PySem.W.exmOne K (.ref A.C_NoPlaces) (.ref A.C_YardError) = some true
  em_YardError_TooMany : PySem.W.exmOne K (.ref A.C_TooMany) (.ref A.C_YardError) = some true
  em_YardError_NoRoad : PySem.W.exmOne K (.ref A.C_NoRoad) (.ref A.C_YardError) = some true
  em_YardError_NoEntry : PySem.W.exmOne K (.ref A.C_NoEntry) (.ref A.C_YardError) = some true
  em_YardError_NoMove : PySem.W.exmOne K (.ref A.C_NoMove) (.ref A.C_YardError) = some true
  o_NoEntry : OexC K A.C_NoEntry
  xi_NoEntry : PySem.W.findIn K (.ref A.C_NoEntry) "__init__" = some (some (.ref A.f_NoEntry_init))
  xt_NoEntry : PySem.W.typeIn K (.ref A.f_NoEntry_init) = some (.type "function")
  no_NoEntry_row : PySem.W.findIn K (.ref A.C_NoEntry) "row" = some none
  o_NoRoad : OexC K A.C_NoRoad
  xi_NoRoad : PySem.W.findIn K (.ref A.C_NoRoad) "__init__" = some (some (.ref A.f_NoRoad_init))
  xt_NoRoad : PySem.W.typeIn K (.ref A.f_NoRoad_init) = some (.type "function")
  no_NoRoad_lane : PySem.W.findIn K (.ref A.C_NoRoad) "lane" = some none
  o_TooMany : OexC K A.C_TooMany
  xi_TooMany : PySem.W.findIn K (.ref A.C_TooMany) "__init__" = some (some (.ref A.f_TooMany_init))
  xt_TooMany : PySem.W.typeIn K (.ref A.f_TooMany_init) = some (.type "function")
  no_TooMany_many : PySem.W.findIn K (.ref A.C_TooMany) "many" = some none
  xf_NoEntry : XfC K A.C_NoEntry
  ec_YardError : ExcC K A.C_YardError
  ec_NoPlaces : ExcC K A.C_NoPlaces
  ec_TooMany : ExcC K A.C_TooMany
  ec_NoRoad : ExcC K A.C_NoRoad
  ec_NoEntry : ExcC K A.C_NoEntry
  ec_NoMove : ExcC K A.C_NoMove
  kt_NoEntry_YardError : PySem.W.kitOne K (.ref A.C_YardError) (.ref A.C_NoEntry) = some false
  kt_NoEntry_NoPlaces : PySem.W.kitOne K (.ref A.C_NoPlaces) (.ref A.C_NoEntry) = some false
  kt_NoEntry_TooMany : PySem.W.kitOne K (.ref A.C_TooMany) (.ref A.C_NoEntry) = some false
  kt_NoEntry_NoRoad : PySem.W.kitOne K (.ref A.C_NoRoad) (.ref A.C_NoEntry) = some false
  kt_NoEntry_NoEntry : PySem.W.kitOne K (.ref A.C_NoEntry) (.ref A.C_NoEntry) = some true
  kt_NoEntry_NoMove : PySem.W.kitOne K (.ref A.C_NoMove) (.ref A.C_NoEntry) = some false
  kt_NoMove_YardError : PySem.W.kitOne K (.ref A.C_YardError) (.ref A.C_NoMove) = some false
  kt_NoMove_NoPlaces : PySem.W.kitOne K (.ref A.C_NoPlaces) (.ref A.C_NoMove) = some false
  kt_NoMove_TooMany : PySem.W.kitOne K (.ref A.C_TooMany) (.ref A.C_NoMove) = some false
  kt_NoMove_NoRoad : PySem.W.kitOne K (.ref A.C_NoRoad) (.ref A.C_NoMove) = some false
  kt_NoMove_NoEntry : PySem.W.kitOne K (.ref A.C_NoEntry) (.ref A.C_NoMove) = some false
  kt_NoMove_NoMove : PySem.W.kitOne K (.ref A.C_NoMove) (.ref A.C_NoMove) = some true
  kt_NoRoad_YardError : PySem.W.kitOne K (.ref A.C_YardError) (.ref A.C_NoRoad) = some false
  kt_NoRoad_NoPlaces : PySem.W.kitOne K (.ref A.C_NoPlaces) (.ref A.C_NoRoad) = some false
  kt_NoRoad_TooMany : PySem.W.kitOne K (.ref A.C_TooMany) (.ref A.C_NoRoad) = some false
  kt_NoRoad_NoRoad : PySem.W.kitOne K (.ref A.C_NoRoad) (.ref A.C_NoRoad) = some true
  kt_NoRoad_NoEntry : PySem.W.kitOne K (.ref A.C_NoEntry) (.ref A.C_NoRoad) = some false
  kt_NoRoad_NoMove : PySem.W.kitOne K (.ref A.C_NoMove) (.ref A.C_NoRoad) = some false
  cr_Table : ClX.CRead K A.C_Table (.type "type")
  cv_Table_init : ClX.CVal K A.C_Table (.type "type") "__init__" (.ref A.f_Table_init) (.ref A.f_Table_init)
section
variable {P : Program} {w : World} {K : PySem.W.Frag} {mg : Str → Option Value} {base : Heap} {A : Adr}
theorem fl_known (T : Txt K mg A) : FldT K (cl P w A) fc_known 3 := (fldT_cons (fun C e => by have e' : A.C_Told = C := Option.some.inj e; subst e'; exact ⟨T.c_Told, T.n_Told_known⟩) fldT_nil)
theorem fl_land (T : Txt K mg A) : FldT K (cl P w A) fc_land 2 := (fldT_cons (fun C e => by have e' : A.C_Table = C := Option.some.inj e; subst e'; exact ⟨T.c_Table, T.n_Table_land⟩) (fldT_cons (fun C e => by have e' : A.C_Told = C := Option.some.inj e; subst e'; exact ⟨T.c_Told, T.n_Told_land⟩) fldT_nil))
theorem fl_lanes (T : Txt K mg A) : FldT K (cl P w A) fc_lanes 1 := (fldT_cons (fun C e => by have e' : A.C_Land = C := Option.some.inj e; subst e'; exact ⟨T.c_Land, T.n_Land_lanes⟩) fldT_nil)
theorem fl_places (T : Txt K mg A) : FldT K (cl P w A) fc_places 0 := (fldT_cons (fun C e => by have e' : A.C_Land = C := Option.some.inj e; subst e'; exact ⟨T.c_Land, T.n_Land_places⟩) fldT_nil)
theorem emt_YardError {X : Cx} (T : Txt X.K mg A) : ExmT X (cl P w A) (.ref A.C_YardError) em_YardError := (exmT_cons (fun C e => by have e' : A.C_YardError = C := Option.some.inj e; subst e'; exact T.em_YardError_YardError) (exmT_cons (fun C e => by have e' : A.C_NoPlaces = C := Option.some.inj e; subst e'; exact T.em_YardError_NoPlaces) (exmT_cons (fun C e => by have e' : A.C_TooMany = C := Option.some.inj e; subst e'; exact T.em_YardError_TooMany) (exmT_cons (fun C e => by have e' : A.C_NoRoad = C := Option.some.inj e; subst e'; exact T.em_YardError_NoRoad) (exmT_cons (fun C e => by have e' : A.C_NoEntry = C := Option.some.inj e; subst e'; exact T.em_YardError_NoEntry) (exmT_cons (fun C e => by have e' : A.C_NoMove = C := Option.some.inj e; subst e'; exact T.em_YardError_NoMove) exmT_nil))))))
theorem isxt_NoEntry {X : Cx} (T : Txt X.K mg A) : IsxT X.K (cl P w A) (.ref A.C_NoEntry) isx_NoEntry := (isxT_cons (fun C e => by have e' : A.C_YardError = C := Option.some.inj e; subst e'; exact ⟨T.ec_YardError, T.kt_NoEntry_YardError⟩) (isxT_cons (fun C e => by have e' : A.C_NoPlaces = C := Option.some.inj e; subst e'; exact ⟨T.ec_NoPlaces, T.kt_NoEntry_NoPlaces⟩) (isxT_cons (fun C e => by have e' : A.C_TooMany = C := Option.some.inj e; subst e'; exact ⟨T.ec_TooMany, T.kt_NoEntry_TooMany⟩) (isxT_cons (fun C e => by have e' : A.C_NoRoad = C := Option.some.inj e; subst e'; exact ⟨T.ec_NoRoad, T.kt_NoEntry_NoRoad⟩) (isxT_cons (fun C e => by have e' : A.C_NoEntry = C := Option.some.inj e; subst e'; exact ⟨T.ec_NoEntry, T.kt_NoEntry_NoEntry⟩) (isxT_cons (fun C e => by have e' : A.C_NoMove = C := Option.some.inj e; subst e'; exact ⟨T.ec_NoMove, T.kt_NoEntry_NoMove⟩) isxT_nil))))))
theorem isxt_NoMove {X : Cx} (T : Txt X.K mg A) : IsxT X.K (cl P w A) (.ref A.C_NoMove) isx_NoMove := (isxT_cons (fun C e => by have e' : A.C_YardError = C := Option.some.inj e; subst e'; exact ⟨T.ec_YardError, T.kt_NoMove_YardError⟩) (isxT_cons (fun C e => by have e' : A.C_NoPlaces = C := Option.some.inj e; subst e'; exact ⟨T.ec_NoPlaces, T.kt_NoMove_NoPlaces⟩) (isxT_cons (fun C e => by have e' : A.C_TooMany = C := Option.some.inj e; subst e'; exact ⟨T.ec_TooMany, T.kt_NoMove_TooMany⟩) (isxT_cons (fun C e => by have e' : A.C_NoRoad = C := Option.some.inj e; subst e'; exact ⟨T.ec_NoRoad, T.kt_NoMove_NoRoad⟩) (isxT_cons (fun C e => by have e' : A.C_NoEntry = C := Option.some.inj e; subst e'; exact ⟨T.ec_NoEntry, T.kt_NoMove_NoEntry⟩) (isxT_cons (fun C e => by have e' : A.C_NoMove = C := Option.some.inj e; subst e'; exact ⟨T.ec_NoMove, T.kt_NoMove_NoMove⟩) isxT_nil))))))
theorem isxt_NoRoad {X : Cx} (T : Txt X.K mg A) : IsxT X.K (cl P w A) (.ref A.C_NoRoad) isx_NoRoad := (isxT_cons (fun C e => by have e' : A.C_YardError = C := Option.some.inj e; subst e'; exact ⟨T.ec_YardError, T.kt_NoRoad_YardError⟩) (isxT_cons (fun C e => by have e' : A.C_NoPlaces = C := Option.some.inj e; subst e'; exact ⟨T.ec_NoPlaces, T.kt_NoRoad_NoPlaces⟩) (isxT_cons (fun C e => by have e' : A.C_TooMany = C := Option.some.inj e; subst e'; exact ⟨T.ec_TooMany, T.kt_NoRoad_TooMany⟩) (isxT_cons (fun C e => by have e' : A.C_NoRoad = C := Option.some.inj e; subst e'; exact ⟨T.ec_NoRoad, T.kt_NoRoad_NoRoad⟩) (isxT_cons (fun C e => by have e' : A.C_NoEntry = C := Option.some.inj e; subst e'; exact ⟨T.ec_NoEntry, T.kt_NoRoad_NoEntry⟩) (isxT_cons (fun C e => by have e' : A.C_NoMove = C := Option.some.inj e; subst e'; exact ⟨T.ec_NoMove, T.kt_NoRoad_NoMove⟩) isxT_nil))))))
theorem sc_NoRoad_init : FnScope ["self", "lane"] ["self", "lane"] (defScope s_NoRoad_init) := ⟨rfl, rfl, rfl, by decide +kernel, rfl, by decide +kernel, by decide +kernel⟩
theorem ok_NoRoad_init (T : Txt K mg A) : OkX P w K mg base 1 A.f_NoRoad_init ["self", "lane"] (spX1 K A.C_NoRoad "lane") := by
  obtain ⟨fd, F, b⟩ := T.f_NoRoad_init
  refine ⟨fd, F.okX sc_NoRoad_init (fun vs H Q E ⟨a, v, e, _⟩ => by rw [e]; rfl) (fun cdv A' outer s H vs Q E hr ⟨a, v, e, ha, k⟩ => ?_), b, F.kp⟩
  subst e
  exact ⟨_, pss_one (ps_ost (pv 0) (pv 1)), ⟨_, rfl, _, rfl, a, A.C_NoRoad, rfl, T.o_NoRoad, T.no_NoRoad_lane, .inl ⟨ha, fun dx h1 h2 => k dx h1 h2⟩⟩⟩
theorem sc_TooMany_init : FnScope ["self", "many"] ["self", "many"] (defScope s_TooMany_init) := ⟨rfl, rfl, rfl, by decide +kernel, rfl, by decide +kernel, by decide +kernel⟩
theorem ok_TooMany_init (T : Txt K mg A) : OkX P w K mg base 1 A.f_TooMany_init ["self", "many"] (spX1 K A.C_TooMany "many") := by
  obtain ⟨fd, F, b⟩ := T.f_TooMany_init
  refine ⟨fd, F.okX sc_TooMany_init (fun vs H Q E ⟨a, v, e, _⟩ => by rw [e]; rfl) (fun cdv A' outer s H vs Q E hr ⟨a, v, e, ha, k⟩ => ?_), b, F.kp⟩
  subst e
  exact ⟨_, pss_one (ps_ost (pv 0) (pv 1)), ⟨_, rfl, _, rfl, a, A.C_TooMany, rfl, T.o_TooMany, T.no_TooMany_many, .inl ⟨ha, fun dx h1 h2 => k dx h1 h2⟩⟩⟩
theorem sc_Land_init : FnScope ["self", "places", "lanes", "number", "lane", "start", "end"] ["self", "places", "lanes"] (defScope s_Land_init) := ⟨rfl, rfl, rfl, by decide +kernel, rfl, by decide +kernel, by decide +kernel⟩
theorem ok_Land_init (T : Txt K mg A) : OkF P w K mg base (cl P w A) 3 A.f_Land_init ["self", "places", "lanes"] (ofF F_Land_init) := by
  obtain ⟨fd, F, b⟩ := T.f_Land_init
  refine ⟨fd, fnF (k := 2) F sc_Land_init (fun cdv A' outer s H E hr => ?_), b, F.kp⟩
  have hu64 := units64 hr
  have hu65 := units65 hr
  have tkS := takes_of (X := cxOf (L2.CX P w) P w K mg base ["self", "places", "lanes", "number", "lane", "start", "end"] "Land.__init__" (defScope s_Land_init) A.f_Land_init cdv A' outer s H E) rfl rfl rfl rfl
  have tk := takesE_of (wd := ⟨cl P w A, fun cls d _ H => E cls d H, none, fp0⟩) tkS
  have hp := passes_of (X := cxOf (L2.CX P w) P w K mg base ["self", "places", "lanes", "number", "lane", "start", "end"] "Land.__init__" (defScope s_Land_init) A.f_Land_init cdv A' outer s H E) rfl
  exact (fss_cons (fs_if (QW.qt (fw_or (ft_cmp ot_lt of_B (fv 1) fe_int) (fw_or1 (ft_cmp ot_gt of_B (fv 1) fe_int)))) (fss_one (fs_raise (c := 21) rfl T.x_NoPlaces rfl tkS)) fss_nil)
  (fss_cons (fs_if (ft_cmp ot_gt of_B (fe_blt ct_len bf_len T.b_len (fb_cons (fv 2) fb_nil)) fe_int) (fss_one (fs_raise1O (c := 22) (f := 28) rfl T.o_TooMany T.xi_TooMany T.xt_TooMany (ok_TooMany_init T) (hr.mono (by decide)) T.g_TooMany rfl tkS (fe_blt ct_len bf_len T.b_len (fb_cons (fv 2) fb_nil)))) fss_nil)
  (fss_cons (fs_for hp rfl (fi_enumX (fv 2) T.b_enumerate) (qg_tup rfl (qgs_cons (qgs_cons qgs_nil sc_Land_init.nd) sc_Land_init.nd)) (fss_cons (fs_asg (fv 4) (qg_tup rfl (qgs_cons (qgs_cons qgs_nil sc_Land_init.nd) sc_Land_init.nd)))
  (fss_one (fs_if (QW.qt (fw_or (ft_cmp (ot_eq hu64) of_eq (fv 5) (fv 6)) (fw_or (ft_cmp ot_lt of_B (fv 5) fe_int) (fw_or (ft_cmp ot_lt of_B (fv 6) fe_int) (fw_or (ft_cmp ot_ge of_B (fv 5) (fv 1)) (fw_or1 (ft_cmp ot_ge of_B (fv 6) (fv 1)))))))) (fss_one (fs_raise1O (c := 23) (f := 29) rfl T.o_NoRoad T.xi_NoRoad T.xt_NoRoad (ok_NoRoad_init T) (hr.mono (by decide)) T.g_NoRoad rfl tkS (fv 3))) fss_nil))))
  (fss_cons (fs_putF (f := 0) (fl_places T) (fv 0) (fv 1))
  (fss_one (fs_putF (f := 1) (fl_lanes T) (fv 0) (fe_bty ct_tuple bf_tuple T.b_tuple (fb_cons (fv 2) fb_nil))))))))
theorem sc_Table_init : FnScope ["self", "land"] ["self", "land"] (defScope s_Table_init) := ⟨rfl, rfl, rfl, by decide +kernel, rfl, by decide +kernel, by decide +kernel⟩
theorem ok_Table_init (T : Txt K mg A) : OkF P w K mg base (cl P w A) 1 A.f_Table_init ["self", "land"] (ofF F_Table_init) := by
  obtain ⟨fd, F, b⟩ := T.f_Table_init
  refine ⟨fd, fnF (k := 0) F sc_Table_init (fun cdv A' outer s H E hr => ?_), b, F.kp⟩
  have hu64 := units64 hr
  have hu65 := units65 hr
  have tkS := takes_of (X := cxOf (L2.CX P w) P w K mg base ["self", "land"] "Table.__init__" (defScope s_Table_init) A.f_Table_init cdv A' outer s H E) rfl rfl rfl rfl
  have tk := takesE_of (wd := ⟨cl P w A, fun cls d _ H => E cls d H, none, fp0⟩) tkS
  have hp := passes_of (X := cxOf (L2.CX P w) P w K mg base ["self", "land"] "Table.__init__" (defScope s_Table_init) A.f_Table_init cdv A' outer s H E) rfl
  exact (fss_one (fs_putF (f := 2) (fl_land T) (fv 0) (fv 1)))
theorem sc_NoEntry_init : FnScope ["self", "row"] ["self", "row"] (defScope s_NoEntry_init) := ⟨rfl, rfl, rfl, by decide +kernel, rfl, by decide +kernel, by decide +kernel⟩
theorem ok_NoEntry_init (T : Txt K mg A) : OkX P w K mg base 1 A.f_NoEntry_init ["self", "row"] (spX1 K A.C_NoEntry "row") := by
  obtain ⟨fd, F, b⟩ := T.f_NoEntry_init
  refine ⟨fd, F.okX sc_NoEntry_init (fun vs H Q E ⟨a, v, e, _⟩ => by rw [e]; rfl) (fun cdv A' outer s H vs Q E hr ⟨a, v, e, ha, k⟩ => ?_), b, F.kp⟩
  subst e
  exact ⟨_, pss_one (ps_ost (pv 0) (pv 1)), ⟨_, rfl, _, rfl, a, A.C_NoEntry, rfl, T.o_NoEntry, T.no_NoEntry_row, .inl ⟨ha, fun dx h1 h2 => k dx h1 h2⟩⟩⟩
theorem sc_Land_into : FnScope ["self", "place", "lane"] ["self", "place"] (defScope s_Land_into) := ⟨rfl, rfl, rfl, by decide +kernel, rfl, by decide +kernel, by decide +kernel⟩
theorem ok_Land_into (T : Txt K mg A) : OkF P w K mg base (cl P w A) 1 A.f_Land_into ["self", "place"] (ofF F_Land_into) := by
  obtain ⟨fd, F, b⟩ := T.f_Land_into
  refine ⟨fd, fnF (k := 0) F sc_Land_into (fun cdv A' outer s H E hr => ?_), b, F.kp⟩
  have hu64 := units64 hr
  have hu65 := units65 hr
  have tkS := takes_of (X := cxOf (L2.CX P w) P w K mg base ["self", "place", "lane"] "Land.into" (defScope s_Land_into) A.f_Land_into cdv A' outer s H E) rfl rfl rfl rfl
  have tk := takesE_of (wd := ⟨cl P w A, fun cls d _ H => E cls d H, none, fp0⟩) tkS
  have hp := passes_of (X := cxOf (L2.CX P w) P w K mg base ["self", "place", "lane"] "Land.into" (defScope s_Land_into) A.f_Land_into cdv A' outer s H E) rfl
  exact (fss_one (fs_ret (fe_lc rfl sc_Land_into.nd (fi_range1 (fe_blt ct_len bf_len T.b_len (fb_cons (fe_fld (f := 1) (fl_lanes T) (fv 0)) fb_nil)) T.b_range) (own := [("lane", 2)]) (blkOk_by (by first | (show blkC ["self", "place", "lane"] (defScope s_Land_into) _ _ = true; decide +kernel) | kernel_rfl)) (fun _ _ _ _ _ => (qg_name sc_Land_into.nd)) (fun _ _ _ _ _ => by exact (fts_one (ft_cmp (ot_eq hu64) of_eq (fe_ixD ⟨rfl, rfl⟩ hu64 (fe_ixD ⟨rfl, rfl⟩ hu64 (fe_fld (f := 1) (fl_lanes T) (fv 0)) (fv 2)) fe_int) (fv 1)))) (fun _ _ _ _ _ => by exact (fv 2)))))
theorem mt_into (T : Txt K mg A) : MethO P w K mg base (cl P w A) mc_into "into" 1 1 (fun c => ofF (d_into c)) := (methO_cons (fun C e => by have e' : A.C_Land = C := Option.some.inj e; subst e'; exact ⟨T.c_Land, A.f_Land_into, _, T.m_Land_into, rfl, (ok_Land_into T).mono (by decide)⟩) methO_nil)
theorem sc_Land_out_of : FnScope ["self", "place", "lane"] ["self", "place"] (defScope s_Land_out_of) := ⟨rfl, rfl, rfl, by decide +kernel, rfl, by decide +kernel, by decide +kernel⟩
theorem ok_Land_out_of (T : Txt K mg A) : OkF P w K mg base (cl P w A) 1 A.f_Land_out_of ["self", "place"] (ofF F_Land_out_of) := by
  obtain ⟨fd, F, b⟩ := T.f_Land_out_of
  refine ⟨fd, fnF (k := 0) F sc_Land_out_of (fun cdv A' outer s H E hr => ?_), b, F.kp⟩
  have hu64 := units64 hr
  have hu65 := units65 hr
  have tkS := takes_of (X := cxOf (L2.CX P w) P w K mg base ["self", "place", "lane"] "Land.out_of" (defScope s_Land_out_of) A.f_Land_out_of cdv A' outer s H E) rfl rfl rfl rfl
  have tk := takesE_of (wd := ⟨cl P w A, fun cls d _ H => E cls d H, none, fp0⟩) tkS
  have hp := passes_of (X := cxOf (L2.CX P w) P w K mg base ["self", "place", "lane"] "Land.out_of" (defScope s_Land_out_of) A.f_Land_out_of cdv A' outer s H E) rfl
  exact (fss_one (fs_ret (fe_lc rfl sc_Land_out_of.nd (fi_range1 (fe_blt ct_len bf_len T.b_len (fb_cons (fe_fld (f := 1) (fl_lanes T) (fv 0)) fb_nil)) T.b_range) (own := [("lane", 2)]) (blkOk_by (by first | (show blkC ["self", "place", "lane"] (defScope s_Land_out_of) _ _ = true; decide +kernel) | kernel_rfl)) (fun _ _ _ _ _ => (qg_name sc_Land_out_of.nd)) (fun _ _ _ _ _ => by exact (fts_one (ft_cmp (ot_eq hu64) of_eq (fe_ixD ⟨rfl, rfl⟩ hu64 (fe_ixD ⟨rfl, rfl⟩ hu64 (fe_fld (f := 1) (fl_lanes T) (fv 0)) (fv 2)) fe_int) (fv 1)))) (fun _ _ _ _ _ => by exact (fv 2)))))
theorem mt_out_of (T : Txt K mg A) : MethO P w K mg base (cl P w A) mc_out_of "out_of" 1 1 (fun c => ofF (d_out_of c)) := (methO_cons (fun C e => by have e' : A.C_Land = C := Option.some.inj e; subst e'; exact ⟨T.c_Land, A.f_Land_out_of, _, T.m_Land_out_of, rfl, (ok_Land_out_of T).mono (by decide)⟩) methO_nil)
theorem sc_Told_is_good : FnScope ["self", "place", "goal", "came", "lanes", "one", "known", "lane"] ["self", "place", "goal", "came", "lanes"] (defScope s_Told_is_good) := ⟨rfl, rfl, rfl, by decide +kernel, rfl, by decide +kernel, by decide +kernel⟩
theorem ok_Told_is_good (T : Txt K mg A) : OkF P w K mg base (cl P w A) 2 A.f_Told_is_good ["self", "place", "goal", "came", "lanes"] (ofF F_Told_is_good) := by
  obtain ⟨fd, F, b⟩ := T.f_Told_is_good
  refine ⟨fd, fnF (k := 1) F sc_Told_is_good (fun cdv A' outer s H E hr => ?_), b, F.kp⟩
  have hu64 := units64 hr
  have hu65 := units65 hr
  have tkS := takes_of (X := cxOf (L2.CX P w) P w K mg base ["self", "place", "goal", "came", "lanes", "one", "known", "lane"] "Told.is_good" (defScope s_Told_is_good) A.f_Told_is_good cdv A' outer s H E) rfl rfl rfl rfl
  have tk := takesE_of (wd := ⟨cl P w A, fun cls d _ H => E cls d H, none, fp0⟩) tkS
  have hp := passes_of (X := cxOf (L2.CX P w) P w K mg base ["self", "place", "goal", "came", "lanes", "one", "known", "lane"] "Told.is_good" (defScope s_Told_is_good) A.f_Told_is_good cdv A' outer s H E) rfl
  exact (fss_cons (fs_for hp rfl (fi_seq (fe_lst (fa_cons (fv 1) (fa_cons (fv 2) fa_nil)))) (qg_name sc_Told_is_good.nd) (fss_one (fs_if (QW.qt (fw_or (ft_cmp ot_lt of_B (fv 5) fe_int) (fw_or1 (ft_cmp ot_ge of_B (fv 5) (fe_fld (f := 0) (fl_places T) (fe_fld (f := 2) (fl_land T) (fv 0))))))) (fss_one (fs_ret fe_bl)) fss_nil)))
  (fss_cons (fs_if (QW.qt (fw_or (ft_cmp (ot_eq hu64) of_eq (fv 1) (fv 2)) (fw_or1 (QW.qt (fw_and (ft_cmp ot_isNot of_isNot (fv 3) fe_non) (fw_and1 (ft_cmp (ot_notInD ⟨rfl, rfl⟩ hu65) of_inD (fv 3) (fe_meth (fe_fld (f := 2) (fl_land T) (fv 0)) ((mt_into T).at (hr.mono (by decide))) tk (fa_cons (fv 1) fa_nil))))))))) (fss_one (fs_ret fe_bl)) fss_nil)
  (fss_cons (fs_set (i := 6) sc_Told_is_good.nd (fe_meth (fe_fld (f := 2) (fl_land T) (fv 0)) ((mt_out_of T).at (hr.mono (by decide))) tk (fa_cons (fv 1) fa_nil)))
  (fss_one (fs_ret (fe_cmp (ot_eq hu64) of_eq (fe_lc rfl sc_Told_is_good.nd (fi_seq (fv 4)) (own := [("lane", 7)]) (blkOk_by (by first | (show blkC ["self", "place", "goal", "came", "lanes", "one", "known", "lane"] (defScope s_Told_is_good) _ _ = true; decide +kernel) | kernel_rfl)) (fun _ _ _ _ _ => (qg_name sc_Told_is_good.nd)) (fun _ _ _ _ _ => by exact (fts_one (ft_cmp (ot_notInD ⟨rfl, rfl⟩ hu65) of_inD (fv 7) (fv 6)))) (fun _ _ _ _ _ => by exact (fv 7))) (fe_lst fa_nil)))))))
theorem mt_is_good (T : Txt K mg A) : MethO P w K mg base (cl P w A) mc_is_good "is_good" 4 2 (fun c => ofF (d_is_good c)) := (methO_cons (fun C e => by have e' : A.C_Told = C := Option.some.inj e; subst e'; exact ⟨T.c_Told, A.f_Told_is_good, _, T.m_Told_is_good, rfl, (ok_Told_is_good T).mono (by decide)⟩) methO_nil)
theorem sc_Told_init : FnScope ["self", "land", "rows", "number", "row", "place", "goal", "came", "lanes"] ["self", "land", "rows"] (defScope s_Told_init) := ⟨rfl, rfl, rfl, by decide +kernel, rfl, by decide +kernel, by decide +kernel⟩
theorem ok_Told_init (T : Txt K mg A) : OkF P w K mg base (cl P w A) 3 A.f_Told_init ["self", "land", "rows"] (ofF F_Told_init) := by
  obtain ⟨fd, F, b⟩ := T.f_Told_init
  refine ⟨fd, fnF (k := 2) F sc_Told_init (fun cdv A' outer s H E hr => ?_), b, F.kp⟩
  have hu64 := units64 hr
  have hu65 := units65 hr
  have tkS := takes_of (X := cxOf (L2.CX P w) P w K mg base ["self", "land", "rows", "number", "row", "place", "goal", "came", "lanes"] "Told.__init__" (defScope s_Told_init) A.f_Told_init cdv A' outer s H E) rfl rfl rfl rfl
  have tk := takesE_of (wd := ⟨cl P w A, fun cls d _ H => E cls d H, none, fp0⟩) tkS
  have hp := passes_of (X := cxOf (L2.CX P w) P w K mg base ["self", "land", "rows", "number", "row", "place", "goal", "came", "lanes"] "Told.__init__" (defScope s_Told_init) A.f_Told_init cdv A' outer s H E) rfl
  exact (fss_cons (fs_expr (fe_cfnO (ps := ["self", "land"]) (ok_Table_init T) T.g_Table T.cr_Table T.cv_Table_init (hr.mono (by decide)) tk (fa_cons (fv 0) (fa_cons (fv 1) fa_nil))))
  (fss_cons (fs_putF (f := 3) (fl_known T) (fv 0) (fe_node (fe_dnew ⟨rfl, rfl⟩ true)))
  (fss_one (fs_for hp rfl (fi_enumX (fv 2) T.b_enumerate) (qg_tup rfl (qgs_cons (qgs_cons qgs_nil sc_Told_init.nd) sc_Told_init.nd)) (fss_cons (fs_asg (fv 4) (qg_tup rfl (qgs_cons (qgs_cons (qgs_cons (qgs_cons qgs_nil sc_Told_init.nd) sc_Told_init.nd) sc_Told_init.nd) sc_Told_init.nd)))
  (fss_cons (fs_if (QW.qt (fw_or (ft_cmp (ot_inD ⟨rfl, rfl⟩ hu65) of_inD (fe_tup (fa_cons (fv 5) (fa_cons (fv 6) (fa_cons (fv 7) fa_nil)))) (fe_fld (f := 3) (fl_known T) (fv 0))) (fw_or1 (ft_not (ft_val (fe_meth (fv 0) ((mt_is_good T).at (hr.mono (by decide))) tk (fa_cons (fv 5) (fa_cons (fv 6) (fa_cons (fv 7) (fa_cons (fv 8) fa_nil)))))))))) (fss_one (fs_raise1O (c := 24) (f := 30) rfl T.o_NoEntry T.xi_NoEntry T.xt_NoEntry (ok_NoEntry_init T) (hr.mono (by decide)) T.g_NoEntry rfl tkS (fv 3))) fss_nil)
  (fss_one (fs_putMD ⟨rfl, rfl⟩ hu64 (fe_fld (f := 3) (fl_known T) (fv 0)) (fe_tup (fa_cons (fv 5) (fa_cons (fv 6) (fa_cons (fv 7) fa_nil)))) (fe_sorSet rfl (fb_cons (fv 8) fb_nil) T.b_sorted T.b_set)))))))))
theorem sc_is_bad : FnScope ["_law_row_here", "_law_ahead", "_law_places", "_law_lanes", "_law_place", "_law_goal", "_law_came", "_law_some", "_law_k", "_law_one"] ["_law_row_here", "_law_ahead", "_law_places", "_law_lanes"] (defScope s_is_bad) := ⟨rfl, rfl, rfl, by decide +kernel, rfl, by decide +kernel, by decide +kernel⟩
theorem ok_is_bad (T : Txt K mg A) : OkF P w K mg base (cl P w A) 1 A.f_is_bad ["_law_row_here", "_law_ahead", "_law_places", "_law_lanes"] (ofF F_is_bad) := by
  obtain ⟨fd, F, b⟩ := T.f_is_bad
  refine ⟨fd, fnF (k := 0) F sc_is_bad (fun cdv A' outer s H E hr => ?_), b, F.kp⟩
  have hu64 := units64 hr
  have hu65 := units65 hr
  have tkS := takes_of (X := cxOf (L2.CX P w) P w K mg base ["_law_row_here", "_law_ahead", "_law_places", "_law_lanes", "_law_place", "_law_goal", "_law_came", "_law_some", "_law_k", "_law_one"] "_law_is_bad" (defScope s_is_bad) A.f_is_bad cdv A' outer s H E) rfl rfl rfl rfl
  have tk := takesE_of (wd := ⟨cl P w A, fun cls d _ H => E cls d H, none, fp0⟩) tkS
  have hp := passes_of (X := cxOf (L2.CX P w) P w K mg base ["_law_row_here", "_law_ahead", "_law_places", "_law_lanes", "_law_place", "_law_goal", "_law_came", "_law_some", "_law_k", "_law_one"] "_law_is_bad" (defScope s_is_bad) A.f_is_bad cdv A' outer s H E) rfl
  exact (fss_cons (fs_asg (fv 0) (qg_tup rfl (qgs_cons (qgs_cons (qgs_cons (qgs_cons qgs_nil sc_is_bad.nd) sc_is_bad.nd) sc_is_bad.nd) sc_is_bad.nd)))
  (fss_cons (fs_if (QW.qt (fw_or (ft_cmp ot_lt of_B (fe_blt (ct_min rfl) bf_min T.b_min (fb_cons (fv 4) (fb_cons (fv 5) fb_nil))) fe_int) (fw_or (ft_cmp ot_ge of_B (fe_blt (ct_max rfl) bf_max T.b_max (fb_cons (fv 4) (fb_cons (fv 5) fb_nil))) (fv 2)) (fw_or1 (ft_cmp (ot_eq hu64) of_eq (fv 4) (fv 5)))))) (fss_one (fs_ret fe_bl)) fss_nil)
  (fss_cons (fs_if (QW.qt (fw_and (ft_cmp ot_isNot of_isNot (fv 6) fe_non) (fw_and1 (QW.qt (fw_or (ft_cmp ot_ge of_B (fv 6) (fe_blt ct_len bf_len T.b_len (fb_cons (fv 3) fb_nil))) (fw_or1 (ft_cmp (ot_ne hu64) of_ne (fe_ixD ⟨rfl, rfl⟩ hu64 (fe_ixD ⟨rfl, rfl⟩ hu64 (fv 3) (fv 6)) fe_int) (fv 4)))))))) (fss_one (fs_ret fe_bl)) fss_nil)
  (fss_cons (fs_if (ft_cmp (ot_ne hu64) of_ne (fe_lc rfl sc_is_bad.nd (fi_seq (fv 7)) (own := [("_law_k", 8)]) (blkOk_by (by first | (show blkC ["_law_row_here", "_law_ahead", "_law_places", "_law_lanes", "_law_place", "_law_goal", "_law_came", "_law_some", "_law_k", "_law_one"] (defScope s_is_bad) _ _ = true; decide +kernel) | kernel_rfl)) (fun _ _ _ _ _ => (qg_name sc_is_bad.nd)) (fun _ _ _ _ _ => by exact (fts_one (QW.qt (fw_or (ft_cmp ot_ge of_B (fv 8) (fe_blt ct_len bf_len T.b_len (fb_cons (fv 3) fb_nil))) (fw_or1 (ft_cmp (ot_ne hu64) of_ne (fe_ixD ⟨rfl, rfl⟩ hu64 (fe_ixD ⟨rfl, rfl⟩ hu64 (fv 3) (fv 8)) fe_int) (fv 4))))))) (fun _ _ _ _ _ => by exact (fv 8))) (fe_lst fa_nil)) (fss_one (fs_ret fe_bl)) fss_nil)
  (fss_one (fs_ret (fe_cmp (ot_ne hu64) of_ne (fe_lc rfl sc_is_bad.nd (fi_seq (fv 1)) (own := [("_law_one", 9)]) (blkOk_by (by first | (show blkC ["_law_row_here", "_law_ahead", "_law_places", "_law_lanes", "_law_place", "_law_goal", "_law_came", "_law_some", "_law_k", "_law_one"] (defScope s_is_bad) _ _ = true; decide +kernel) | kernel_rfl)) (fun _ _ _ _ _ => (qg_name sc_is_bad.nd)) (fun _ _ _ _ _ => by exact (fts_one (ft_cmp (ot_eq hu64) of_eq (fe_sl (fv 9) fo_none (fo_some fe_int)) (fe_sl (fv 0) fo_none (fo_some fe_int))))) (fun _ _ _ _ _ => by exact (fv 9))) (fe_lst fa_nil))))))))
theorem sc_first_bad : FnScope ["_law_rows_here", "_law_places", "_law_lanes", "_law_k"] ["_law_rows_here", "_law_places", "_law_lanes"] (defScope s_first_bad) := ⟨rfl, rfl, rfl, by decide +kernel, rfl, by decide +kernel, by decide +kernel⟩
theorem ok_first_bad (T : Txt K mg A) : OkF P w K mg base (cl P w A) 2 A.f_first_bad ["_law_rows_here", "_law_places", "_law_lanes"] (ofF F_first_bad) := by
  obtain ⟨fd, F, b⟩ := T.f_first_bad
  refine ⟨fd, fnF (k := 1) F sc_first_bad (fun cdv A' outer s H E hr => ?_), b, F.kp⟩
  have hu64 := units64 hr
  have hu65 := units65 hr
  have tkS := takes_of (X := cxOf (L2.CX P w) P w K mg base ["_law_rows_here", "_law_places", "_law_lanes", "_law_k"] "_law_first_bad" (defScope s_first_bad) A.f_first_bad cdv A' outer s H E) rfl rfl rfl rfl
  have tk := takesE_of (wd := ⟨cl P w A, fun cls d _ H => E cls d H, none, fp0⟩) tkS
  have hp := passes_of (X := cxOf (L2.CX P w) P w K mg base ["_law_rows_here", "_law_places", "_law_lanes", "_law_k"] "_law_first_bad" (defScope s_first_bad) A.f_first_bad cdv A' outer s H E) rfl
  exact (fss_cons (fs_for hp rfl (fi_range1 (fe_blt ct_len bf_len T.b_len (fb_cons (fv 0) fb_nil)) T.b_range) (qg_name sc_first_bad.nd) (fss_one (fs_if (ft_val (fe_callO (ps := ["_law_row_here", "_law_ahead", "_law_places", "_law_lanes"]) (ok_is_bad T) (hr.mono (by decide)) T.g__law_is_bad tk (fa_cons (fe_ixD ⟨rfl, rfl⟩ hu64 (fv 0) (fv 3)) (fa_cons (fe_sl (fv 0) fo_none (fo_some (fv 3))) (fa_cons (fv 1) (fa_cons (fv 2) fa_nil)))))) (fss_one (fs_ret (fv 3))) fss_nil)))
  (fss_one (fs_ret fe_non)))
theorem sc_draw : FnScope ["_law_script", "_law_k", "_law_cell", "_law_number"] ["_law_script", "_law_k"] (defScope s_draw) := ⟨rfl, rfl, rfl, by decide +kernel, rfl, by decide +kernel, by decide +kernel⟩
theorem ok_draw (T : Txt K mg A) : OkF P w K mg base (cl P w A) 1 A.f_draw ["_law_script", "_law_k"] (ofF F_draw) := by
  obtain ⟨fd, F, b⟩ := T.f_draw
  refine ⟨fd, fnF (k := 0) F sc_draw (fun cdv A' outer s H E hr => ?_), b, F.kp⟩
  have hu64 := units64 hr
  have hu65 := units65 hr
  have tkS := takes_of (X := cxOf (L2.CX P w) P w K mg base ["_law_script", "_law_k", "_law_cell", "_law_number"] "_law_draw" (defScope s_draw) A.f_draw cdv A' outer s H E) rfl rfl rfl rfl
  have tk := takesE_of (wd := ⟨cl P w A, fun cls d _ H => E cls d H, none, fp0⟩) tkS
  have hp := passes_of (X := cxOf (L2.CX P w) P w K mg base ["_law_script", "_law_k", "_law_cell", "_law_number"] "_law_draw" (defScope s_draw) A.f_draw cdv A' outer s H E) rfl
  exact (fss_cons (fs_set (i := 2) sc_draw.nd fe_int)
  (fss_cons (fs_if (QW.qt (fw_and (ft_cmp (ot_ne hu64) of_ne (fv 0) (fe_lst fa_nil)) (fw_and1 (ft_cmp (ot_eq hu64) of_eq (fe_op ot_mod of_I (fe_ixD ⟨rfl, rfl⟩ hu64 (fv 0) fe_int) fe_int) fe_int)))) (fss_cons (fs_if (ft_cmp ot_lt of_B (fe_op ot_add of_add fe_int (fe_op ot_div of_I (fv 1) fe_int)) (fe_blt ct_len bf_len T.b_len (fb_cons (fv 0) fb_nil))) (fss_one (fs_set (i := 2) sc_draw.nd (fe_ixD ⟨rfl, rfl⟩ hu64 (fv 0) (fe_op ot_add of_add fe_int (fe_op ot_div of_I (fv 1) fe_int))))) fss_nil)
  (fss_one (fs_ret (fe_op ot_mod of_I (fe_op ot_shr of_I (fv 2) (fe_op ot_mul of_mul fe_int (fe_op ot_mod of_I (fv 1) fe_int))) (fe_op ot_pow of_I fe_int fe_int))))) fss_nil)
  (fss_cons (fs_if (ft_cmp (ot_ne hu64) of_ne (fv 0) (fe_lst fa_nil)) (fss_one (fs_set (i := 2) sc_draw.nd (fe_ixD ⟨rfl, rfl⟩ hu64 (fv 0) (fe_op ot_mod of_I (fv 1) (fe_blt ct_len bf_len T.b_len (fb_cons (fv 0) fb_nil)))))) fss_nil)
  (fss_cons (fs_set (i := 3) sc_draw.nd (fe_op ot_mod of_I (fe_op ot_mul of_mul (fe_op ot_add of_add (fe_op ot_add of_add (fv 2) (fe_op ot_mul of_mul fe_int (fv 1))) fe_int) fe_int) fe_int))
  (fss_cons (fs_set (i := 3) sc_draw.nd (fe_op ot_mod of_I (fe_op ot_mul of_mul (fv 3) (fe_op ot_add of_add (fe_op ot_div of_I (fv 3) fe_int) fe_int)) fe_int))
  (fss_one (fs_ret (fe_op ot_mod of_I (fe_op ot_mul of_mul (fv 3) (fe_op ot_add of_add (fe_op ot_div of_I (fv 3) fe_int) fe_int)) fe_int))))))))
theorem sc_land : FnScope ["_law_script", "_law_places", "_law_lanes", "_law_k", "_law_draw_here", "_law_start"] ["_law_script"] (defScope s_land) := ⟨rfl, rfl, rfl, by decide +kernel, rfl, by decide +kernel, by decide +kernel⟩
theorem ok_land (T : Txt K mg A) : OkF P w K mg base (cl P w A) 2 A.f_land ["_law_script"] (ofF F_land) := by
  obtain ⟨fd, F, b⟩ := T.f_land
  refine ⟨fd, fnF (k := 1) F sc_land (fun cdv A' outer s H E hr => ?_), b, F.kp⟩
  have hu64 := units64 hr
  have hu65 := units65 hr
  have tkS := takes_of (X := cxOf (L2.CX P w) P w K mg base ["_law_script", "_law_places", "_law_lanes", "_law_k", "_law_draw_here", "_law_start"] "_law_land" (defScope s_land) A.f_land cdv A' outer s H E) rfl rfl rfl rfl
  have tk := takesE_of (wd := ⟨cl P w A, fun cls d _ H => E cls d H, none, fp0⟩) tkS
  have hp := passes_of (X := cxOf (L2.CX P w) P w K mg base ["_law_script", "_law_places", "_law_lanes", "_law_k", "_law_draw_here", "_law_start"] "_law_land" (defScope s_land) A.f_land cdv A' outer s H E) rfl
  exact (fss_cons (fs_set (i := 1) sc_land.nd (fe_ixD ⟨rfl, rfl⟩ hu64 (fe_lst (fa_cons fe_int (fa_cons fe_int (fa_cons fe_int (fa_cons fe_int (fa_cons fe_int (fa_cons fe_int (fa_cons fe_int (fa_cons fe_int fa_nil))))))))) (fe_op ot_mod of_I (fe_callO (ps := ["_law_script", "_law_k"]) (ok_draw T) (hr.mono (by decide)) T.g__law_draw tk (fa_cons (fv 0) (fa_cons fe_int fa_nil))) fe_int)))
  (fss_cons (fs_setO (i := 2) sc_land.nd (fe_lst fa_nil))
  (fss_cons (fs_for hp rfl (fi_range1 (fe_op ot_mod of_I (fe_callO (ps := ["_law_script", "_law_k"]) (ok_draw T) (hr.mono (by decide)) T.g__law_draw tk (fa_cons (fv 0) (fa_cons fe_int fa_nil))) fe_int) T.b_range) (qg_name sc_land.nd) (fss_cons (fs_set (i := 4) sc_land.nd (fe_callO (ps := ["_law_script", "_law_k"]) (ok_draw T) (hr.mono (by decide)) T.g__law_draw tk (fa_cons (fv 0) (fa_cons (fe_op ot_add of_add fe_int (fv 3)) fa_nil))))
  (fss_cons (fs_set (i := 5) sc_land.nd (fe_op ot_mod of_I (fv 4) (fv 1)))
  (fss_one (fs_app (i := 2) (fe_tup (fa_cons (fv 5) (fa_cons (fe_op ot_mod of_I (fe_op ot_add of_add (fe_op ot_add of_add (fv 5) fe_int) (fe_op ot_mod of_I (fe_op ot_div of_I (fv 4) fe_int) (fe_op ot_sub of_I (fv 1) fe_int))) (fv 1)) fa_nil))))))))
  (fss_frz 2 (fss_one (fs_ret (fe_tup (fa_cons (fv 1) (fa_cons (fv 2) fa_nil)))))))))
theorem sc_refused : FnScope ["_law_land_here", "_law_rows_here", "e"] ["_law_land_here", "_law_rows_here"] (defScope s_refused) := ⟨rfl, rfl, rfl, by decide +kernel, rfl, by decide +kernel, by decide +kernel⟩
theorem ok_refused (T : Txt K mg A) : OkF P w K mg base (cl P w A) 5 A.f_refused ["_law_land_here", "_law_rows_here"] (ofF F_refused) := by
  obtain ⟨fd, F, b⟩ := T.f_refused
  refine ⟨fd, fnF (k := 4) F sc_refused (fun cdv A' outer s H E hr => ?_), b, F.kp⟩
  have hu64 := units64 hr
  have hu65 := units65 hr
  have tkS := takes_of (X := cxOf (L2.CX P w) P w K mg base ["_law_land_here", "_law_rows_here", "e"] "_law_refused" (defScope s_refused) A.f_refused cdv A' outer s H E) rfl rfl rfl rfl
  have tk := takesE_of (wd := ⟨cl P w A, fun cls d _ H => E cls d H, none, fp0⟩) tkS
  have hp := passes_of (X := cxOf (L2.CX P w) P w K mg base ["_law_land_here", "_law_rows_here", "e"] "_law_refused" (defScope s_refused) A.f_refused cdv A' outer s H E) rfl
  exact (fss_cons (fs_tryAs (i := 2) rfl rfl rfl sc_refused.nd ⟨rfl, by decide, .inl T.g_YardError⟩ tkS (emt_YardError T) (fun W pn xe tkW hpW => (fss_one (fs_expr (fe_makeFO (c := 2) (n := 2) (ok_Told_init T) rfl rfl T.k_Told (hr.mono (by decide)) T.g_Told (takesE_of tkW) (fa_cons (fv 0) (fa_cons (fv 1) fa_nil)))))) (fun a oe cls d pn zc hfl => (fss_cons (fs_if (QW.qt (fw_and (ft_val (fe_isEo (i := 2) zc hfl (isxt_NoEntry T) T.b_isinstance T.g_NoEntry)) (fw_and1 (ft_not (ft_val (fe_isE2 (i := 2) zc hfl (isxt_NoRoad T) (isxt_NoMove T) T.b_isinstance T.g_NoRoad T.g_NoMove)))))) (fss_one (fs_ret (fe_xfo (i := 2) (c := 24) (f := 30) zc hfl rfl T.xf_NoEntry T.no_NoEntry_row))) fss_nil)
  (fss_one (fs_ret fe_str)))))
  (fss_one (fs_ret fe_non)))
theorem sc_Table_ways : FnScope ["self", "place", "goal", "came"] ["self", "place", "goal", "came"] (defScope s_Table_ways) := ⟨rfl, rfl, rfl, by decide +kernel, rfl, by decide +kernel, by decide +kernel⟩
theorem ok_Table_ways (T : Txt K mg A) : OkF P w K mg base (cl P w A) 1 A.f_Table_ways ["self", "place", "goal", "came"] (ofF F_Table_ways) := by
  obtain ⟨fd, F, b⟩ := T.f_Table_ways
  refine ⟨fd, fnF (k := 0) F sc_Table_ways (fun cdv A' outer s H E hr => ?_), b, F.kp⟩
  have hu64 := units64 hr
  have hu65 := units65 hr
  have tkS := takes_of (X := cxOf (L2.CX P w) P w K mg base ["self", "place", "goal", "came"] "Table.ways" (defScope s_Table_ways) A.f_Table_ways cdv A' outer s H E) rfl rfl rfl rfl
  have tk := takesE_of (wd := ⟨cl P w A, fun cls d _ H => E cls d H, none, fp0⟩) tkS
  have hp := passes_of (X := cxOf (L2.CX P w) P w K mg base ["self", "place", "goal", "came"] "Table.ways" (defScope s_Table_ways) A.f_Table_ways cdv A' outer s H E) rfl
  exact (fss_one (fs_ret (fe_lst fa_nil)))
theorem sc_Told_ways : FnScope ["self", "place", "goal", "came"] ["self", "place", "goal", "came"] (defScope s_Told_ways) := ⟨rfl, rfl, rfl, by decide +kernel, rfl, by decide +kernel, by decide +kernel⟩
theorem ok_Told_ways (T : Txt K mg A) : OkF P w K mg base (cl P w A) 1 A.f_Told_ways ["self", "place", "goal", "came"] (ofF F_Told_ways) := by
  obtain ⟨fd, F, b⟩ := T.f_Told_ways
  refine ⟨fd, fnF (k := 0) F sc_Told_ways (fun cdv A' outer s H E hr => ?_), b, F.kp⟩
  have hu64 := units64 hr
  have hu65 := units65 hr
  have tkS := takes_of (X := cxOf (L2.CX P w) P w K mg base ["self", "place", "goal", "came"] "Told.ways" (defScope s_Told_ways) A.f_Told_ways cdv A' outer s H E) rfl rfl rfl rfl
  have tk := takesE_of (wd := ⟨cl P w A, fun cls d _ H => E cls d H, none, fp0⟩) tkS
  have hp := passes_of (X := cxOf (L2.CX P w) P w K mg base ["self", "place", "goal", "came"] "Told.ways" (defScope s_Told_ways) A.f_Told_ways cdv A' outer s H E) rfl
  exact (fss_one (fs_ret (fe_bty ct_list bf_list T.b_list (fb_cons (fe_get2 ⟨rfl, rfl⟩ hu64 (fe_fld (f := 3) (fl_known T) (fv 0)) (fe_tup (fa_cons (fv 1) (fa_cons (fv 2) (fa_cons (fv 3) fa_nil)))) (fe_lst fa_nil)) fb_nil))))
theorem mt_ways (T : Txt K mg A) : MethO P w K mg base (cl P w A) mc_ways "ways" 3 1 (fun c => ofF (d_ways c)) := (methO_cons (fun C e => by have e' : A.C_Table = C := Option.some.inj e; subst e'; exact ⟨T.c_Table, A.f_Table_ways, _, T.m_Table_ways, rfl, (ok_Table_ways T).mono (by decide)⟩) (methO_cons (fun C e => by have e' : A.C_Told = C := Option.some.inj e; subst e'; exact ⟨T.c_Told, A.f_Told_ways, _, T.m_Told_ways, rfl, (ok_Told_ways T).mono (by decide)⟩) methO_nil))
theorem sc_right : FnScope ["_law_table", "_law_rows_here", "_law_places", "_law_lanes", "_law_due", "_law_place", "_law_goal", "_law_came", "_law_some", "_law_found", "_law_k"] ["_law_table", "_law_rows_here", "_law_places", "_law_lanes"] (defScope s_right) := ⟨rfl, rfl, rfl, by decide +kernel, rfl, by decide +kernel, by decide +kernel⟩
theorem ok_right (T : Txt K mg A) : OkF P w K mg base (cl P w A) 2 A.f_right ["_law_table", "_law_rows_here", "_law_places", "_law_lanes"] (ofF F_right) := by
  obtain ⟨fd, F, b⟩ := T.f_right
  refine ⟨fd, fnF (k := 1) F sc_right (fun cdv A' outer s H E hr => ?_), b, F.kp⟩
  have hu64 := units64 hr
  have hu65 := units65 hr
  have tkS := takes_of (X := cxOf (L2.CX P w) P w K mg base ["_law_table", "_law_rows_here", "_law_places", "_law_lanes", "_law_due", "_law_place", "_law_goal", "_law_came", "_law_some", "_law_found", "_law_k"] "_law_right" (defScope s_right) A.f_right cdv A' outer s H E) rfl rfl rfl rfl
  have tk := takesE_of (wd := ⟨cl P w A, fun cls d _ H => E cls d H, none, fp0⟩) tkS
  have hp := passes_of (X := cxOf (L2.CX P w) P w K mg base ["_law_table", "_law_rows_here", "_law_places", "_law_lanes", "_law_due", "_law_place", "_law_goal", "_law_came", "_law_some", "_law_found", "_law_k"] "_law_right" (defScope s_right) A.f_right cdv A' outer s H E) rfl
  exact (fss_cons (fs_setO (i := 4) sc_right.nd (fe_dnew ⟨rfl, rfl⟩ true))
  (fss_cons (fs_for hp rfl (fi_seq (fv 1)) (qg_tup rfl (qgs_cons (qgs_cons (qgs_cons (qgs_cons qgs_nil sc_right.nd) sc_right.nd) sc_right.nd) sc_right.nd)) (fss_one (fs_putD (n := 4) ⟨rfl, rfl⟩ hu64 (fe_tup (fa_cons (fv 5) (fa_cons (fv 6) (fa_cons (fv 7) fa_nil)))) (fe_sorSet rfl (fb_cons (fv 8) fb_nil) T.b_sorted T.b_set))))
  (fss_frz 4 (fss_cons (fs_for hp rfl (fi_range1 (fv 2) T.b_range) (qg_name sc_right.nd) (fss_one (fs_for hp rfl (fi_range1 (fv 2) T.b_range) (qg_name sc_right.nd) (fss_one (fs_for hp rfl (fi_seq (fe_op ot_add of_add (fe_lst (fa_cons fe_non fa_nil)) (fe_lc rfl sc_right.nd (fi_range1 (fe_blt ct_len bf_len T.b_len (fb_cons (fv 3) fb_nil)) T.b_range) (own := [("_law_k", 10)]) (blkOk_by (by first | (show blkC ["_law_table", "_law_rows_here", "_law_places", "_law_lanes", "_law_due", "_law_place", "_law_goal", "_law_came", "_law_some", "_law_found", "_law_k"] (defScope s_right) _ _ = true; decide +kernel) | kernel_rfl)) (fun _ _ _ _ _ => (qg_name sc_right.nd)) (fun _ _ _ _ _ => by exact (fts_one (ft_cmp (ot_eq hu64) of_eq (fe_ixD ⟨rfl, rfl⟩ hu64 (fe_ixD ⟨rfl, rfl⟩ hu64 (fv 3) (fv 10)) fe_int) (fv 5)))) (fun _ _ _ _ _ => by exact (fv 10))))) (qg_name sc_right.nd) (fss_cons (fs_setO (i := 9) sc_right.nd (fe_meth (fv 0) ((mt_ways T).at (hr.mono (by decide))) tk (fa_cons (fv 5) (fa_cons (fv 6) (fa_cons (fv 7) fa_nil)))))
  (fss_cons (fs_if (QW.qt (fw_or (ft_not (ft_val (fe_isi (t := .list) (fv 9) T.b_isinstance T.b_list))) (fw_or1 (ft_cmp (ot_ne hu64) of_ne (fv 9) (fe_get2 ⟨rfl, rfl⟩ hu64 (fv 4) (fe_tup (fa_cons (fv 5) (fa_cons (fv 6) (fa_cons (fv 7) fa_nil)))) (fe_lst fa_nil)))))) (fss_one (fs_ret fe_bl)) fss_nil)
  (fss_one (fs_app (i := 9) fe_int)))))))))
  (fss_one (fs_ret fe_bl))))))
theorem sc_row : FnScope ["_law_places", "_law_lanes", "_law_draw_here", "_law_other", "_law_place", "_law_goal", "_law_cames", "_law_came", "_law_begin", "_law_row_here", "_law_k"] ["_law_places", "_law_lanes", "_law_draw_here", "_law_other"] (defScope s_row) := ⟨rfl, rfl, rfl, by decide +kernel, rfl, by decide +kernel, by decide +kernel⟩
theorem ok_row (T : Txt K mg A) : OkF P w K mg base (cl P w A) 1 A.f_row ["_law_places", "_law_lanes", "_law_draw_here", "_law_other"] (ofF F_row) := by
  obtain ⟨fd, F, b⟩ := T.f_row
  refine ⟨fd, fnF (k := 0) F sc_row (fun cdv A' outer s H E hr => ?_), b, F.kp⟩
  have hu64 := units64 hr
  have hu65 := units65 hr
  have tkS := takes_of (X := cxOf (L2.CX P w) P w K mg base ["_law_places", "_law_lanes", "_law_draw_here", "_law_other", "_law_place", "_law_goal", "_law_cames", "_law_came", "_law_begin", "_law_row_here", "_law_k"] "_law_row" (defScope s_row) A.f_row cdv A' outer s H E) rfl rfl rfl rfl
  have tk := takesE_of (wd := ⟨cl P w A, fun cls d _ H => E cls d H, none, fp0⟩) tkS
  have hp := passes_of (X := cxOf (L2.CX P w) P w K mg base ["_law_places", "_law_lanes", "_law_draw_here", "_law_other", "_law_place", "_law_goal", "_law_cames", "_law_came", "_law_begin", "_law_row_here", "_law_k"] "_law_row" (defScope s_row) A.f_row cdv A' outer s H E) rfl
  exact (fss_cons (fs_set (i := 4) sc_row.nd (fe_op ot_mod of_I (fv 2) (fv 0)))
  (fss_cons (fs_set (i := 5) sc_row.nd (fe_op ot_mod of_I (fe_op ot_add of_add (fe_op ot_add of_add (fv 4) fe_int) (fe_op ot_mod of_I (fe_op ot_div of_I (fv 2) fe_int) (fe_op ot_sub of_I (fv 0) fe_int))) (fv 0)))
  (fss_cons (fs_set (i := 6) sc_row.nd (fe_op ot_add of_add (fe_lst (fa_cons fe_non (fa_cons fe_non fa_nil))) (fe_lc rfl sc_row.nd (fi_range1 (fe_blt ct_len bf_len T.b_len (fb_cons (fv 1) fb_nil)) T.b_range) (own := [("_law_k", 10)]) (blkOk_by (by first | (show blkC ["_law_places", "_law_lanes", "_law_draw_here", "_law_other", "_law_place", "_law_goal", "_law_cames", "_law_came", "_law_begin", "_law_row_here", "_law_k"] (defScope s_row) _ _ = true; decide +kernel) | kernel_rfl)) (fun _ _ _ _ _ => (qg_name sc_row.nd)) (fun _ _ _ _ _ => by exact (fts_one (ft_cmp (ot_eq hu64) of_eq (fe_ixD ⟨rfl, rfl⟩ hu64 (fe_ixD ⟨rfl, rfl⟩ hu64 (fv 1) (fv 10)) fe_int) (fv 4)))) (fun _ _ _ _ _ => by exact (fv 10)))))
  (fss_cons (fs_set (i := 7) sc_row.nd (fe_ixD ⟨rfl, rfl⟩ hu64 (fv 6) (fe_op ot_mod of_I (fe_op ot_div of_I (fv 2) fe_int) (fe_blt ct_len bf_len T.b_len (fb_cons (fv 6) fb_nil)))))
  (fss_cons (fs_setLc (i := 8) rfl sc_row.nd (fi_range1 (fe_blt ct_len bf_len T.b_len (fb_cons (fv 1) fb_nil)) T.b_range) (own := [("_law_k", 10)]) (blkOk_by (by first | (show blkC ["_law_places", "_law_lanes", "_law_draw_here", "_law_other", "_law_place", "_law_goal", "_law_cames", "_law_came", "_law_begin", "_law_row_here", "_law_k"] (defScope s_row) _ _ = true; decide +kernel) | kernel_rfl)) (fun _ _ _ _ _ => (qg_name sc_row.nd)) (fun _ _ _ _ _ => by exact (fts_one (ft_cmp (ot_eq hu64) of_eq (fe_ixD ⟨rfl, rfl⟩ hu64 (fe_ixD ⟨rfl, rfl⟩ hu64 (fv 1) (fv 10)) fe_int) (fv 4)))) (fun _ _ _ _ _ => by exact (fv 10)) (hsw := by exact sw_true rfl rfl rfl (by decide +kernel)))
  (fss_cons (fs_setLc (i := 9) rfl sc_row.nd (fi_seq (fv 8)) (own := [("_law_k", 10)]) (blkOk_by (by first | (show blkC ["_law_places", "_law_lanes", "_law_draw_here", "_law_other", "_law_place", "_law_goal", "_law_cames", "_law_came", "_law_begin", "_law_row_here", "_law_k"] (defScope s_row) _ _ = true; decide +kernel) | kernel_rfl)) (fun _ _ _ _ _ => (qg_name sc_row.nd)) (fun _ _ _ _ _ => by exact (fts_one (ft_cmp (ot_eq hu64) of_eq (fe_op ot_and of_I (fe_op ot_shr of_I (fv 3) (fv 10)) fe_int) fe_int))) (fun _ _ _ _ _ => by exact (fv 10)) (hsw := by exact sw_true rfl rfl rfl (by decide +kernel)))
  (fss_cons (fs_if (ft_cmp (ot_eq hu64) of_eq (fe_op ot_mod of_I (fe_op ot_div of_I (fv 3) fe_int) fe_int) fe_int) (fss_one (fs_set (i := 9) sc_row.nd (fe_revL (fv 9)))) fss_nil)
  (fss_one (fs_ret (fe_tup (fa_cons (fv 4) (fa_cons (fv 5) (fa_cons (fv 7) (fa_cons (fe_op ot_add of_add (fv 9) (fe_sl (fv 9) fo_none (fo_some (fe_op ot_mod of_I (fe_op ot_div of_I (fv 3) fe_int) fe_int)))) fa_nil))))))))))))))
theorem sc_spoiled : FnScope ["_law_row_here", "_law_rows_here", "_law_places", "_law_lanes", "_law_draw_here", "_law_place", "_law_goal", "_law_came", "_law_some", "_law_way"] ["_law_row_here", "_law_rows_here", "_law_places", "_law_lanes", "_law_draw_here"] (defScope s_spoiled) := ⟨rfl, rfl, rfl, by decide +kernel, rfl, by decide +kernel, by decide +kernel⟩
theorem ok_spoiled (T : Txt K mg A) : OkF P w K mg base (cl P w A) 1 A.f_spoiled ["_law_row_here", "_law_rows_here", "_law_places", "_law_lanes", "_law_draw_here"] (ofF F_spoiled) := by
  obtain ⟨fd, F, b⟩ := T.f_spoiled
  refine ⟨fd, fnF (k := 0) F sc_spoiled (fun cdv A' outer s H E hr => ?_), b, F.kp⟩
  have hu64 := units64 hr
  have hu65 := units65 hr
  have tkS := takes_of (X := cxOf (L2.CX P w) P w K mg base ["_law_row_here", "_law_rows_here", "_law_places", "_law_lanes", "_law_draw_here", "_law_place", "_law_goal", "_law_came", "_law_some", "_law_way"] "_law_spoiled" (defScope s_spoiled) A.f_spoiled cdv A' outer s H E) rfl rfl rfl rfl
  have tk := takesE_of (wd := ⟨cl P w A, fun cls d _ H => E cls d H, none, fp0⟩) tkS
  have hp := passes_of (X := cxOf (L2.CX P w) P w K mg base ["_law_row_here", "_law_rows_here", "_law_places", "_law_lanes", "_law_draw_here", "_law_place", "_law_goal", "_law_came", "_law_some", "_law_way"] "_law_spoiled" (defScope s_spoiled) A.f_spoiled cdv A' outer s H E) rfl
  exact (fss_cons (fs_asg (fv 0) (qg_tup rfl (qgs_cons (qgs_cons (qgs_cons (qgs_cons qgs_nil sc_spoiled.nd) sc_spoiled.nd) sc_spoiled.nd) sc_spoiled.nd)))
  (fss_cons (fs_set (i := 9) sc_spoiled.nd (fe_op ot_mod of_I (fv 4) fe_int))
  (fss_cons (fs_if (ft_cmp (ot_eq hu64) of_eq (fv 9) fe_int) (fss_one (fs_ret (fe_tup (fa_cons (fe_op ot_add of_add (fv 2) (fe_op ot_mod of_I (fe_op ot_div of_I (fv 4) fe_int) fe_int)) (fa_cons (fv 6) (fa_cons (fv 7) (fa_cons (fv 8) fa_nil))))))) fss_nil)
  (fss_cons (fs_if (ft_cmp (ot_eq hu64) of_eq (fv 9) fe_int) (fss_one (fs_ret (fe_tup (fa_cons (fv 5) (fa_cons (fe_op ot_sub of_I fe_int fe_int) (fa_cons (fv 7) (fa_cons (fv 8) fa_nil))))))) fss_nil)
  (fss_cons (fs_if (ft_cmp (ot_eq hu64) of_eq (fv 9) fe_int) (fss_one (fs_ret (fe_tup (fa_cons (fv 5) (fa_cons (fv 5) (fa_cons (fv 7) (fa_cons (fv 8) fa_nil))))))) fss_nil)
  (fss_cons (fs_if (ft_cmp (ot_eq hu64) of_eq (fv 9) fe_int) (fss_one (fs_ret (fe_tup (fa_cons (fv 5) (fa_cons (fv 6) (fa_cons (fe_blt ct_len bf_len T.b_len (fb_cons (fv 3) fb_nil)) (fa_cons (fv 8) fa_nil))))))) fss_nil)
  (fss_cons (fs_if (ft_cmp (ot_eq hu64) of_eq (fv 9) fe_int) (fss_one (fs_ret (fe_tup (fa_cons (fv 5) (fa_cons (fv 6) (fa_cons (fv 7) (fa_cons (fe_op ot_add of_add (fv 8) (fe_lst (fa_cons (fe_op ot_add of_add (fe_blt ct_len bf_len T.b_len (fb_cons (fv 3) fb_nil)) (fe_op ot_mod of_I (fe_op ot_div of_I (fv 4) fe_int) fe_int)) fa_nil))) fa_nil))))))) fss_nil)
  (fss_cons (fs_if (ft_cmp (ot_eq hu64) of_eq (fv 9) fe_int) (fss_one (fs_ret (fe_tup (fa_cons (fv 5) (fa_cons (fv 6) (fa_cons (fe_op ot_mod of_I (fe_op ot_div of_I (fv 4) fe_int) (fe_blt (ct_max rfl) bf_max T.b_max (fb_cons fe_int (fb_cons (fe_blt ct_len bf_len T.b_len (fb_cons (fv 3) fb_nil)) fb_nil)))) (fa_cons (fv 8) fa_nil))))))) fss_nil)
  (fss_cons (fs_if (ft_cmp (ot_eq hu64) of_eq (fv 9) fe_int) (fss_one (fs_ret (fe_tup (fa_cons (fv 5) (fa_cons (fv 6) (fa_cons (fv 7) (fa_cons (fe_op ot_add of_add (fe_lst (fa_cons (fe_op ot_mod of_I (fe_op ot_div of_I (fv 4) fe_int) (fe_blt (ct_max rfl) bf_max T.b_max (fb_cons fe_int (fb_cons (fe_blt ct_len bf_len T.b_len (fb_cons (fv 3) fb_nil)) fb_nil)))) fa_nil)) (fv 8)) fa_nil))))))) fss_nil)
  (fss_one (fs_ret (fe_op ot_add of_add (fe_sl (fe_ixD ⟨rfl, rfl⟩ hu64 (fv 1) (fe_op ot_mod of_I (fe_op ot_div of_I (fv 4) fe_int) (fe_blt ct_len bf_len T.b_len (fb_cons (fv 1) fb_nil)))) fo_none (fo_some fe_int)) (fe_tup (fa_cons (fe_lst fa_nil) fa_nil))))))))))))))
theorem sc_rows : FnScope ["_law_script", "_law_places", "_law_lanes", "_law_rows_here", "_law_known", "_law_k", "_law_row_here", "_law_at"] ["_law_script", "_law_places", "_law_lanes"] (defScope s_rows) := ⟨rfl, rfl, rfl, by decide +kernel, rfl, by decide +kernel, by decide +kernel⟩
theorem ok_rows (T : Txt K mg A) : OkF P w K mg base (cl P w A) 2 A.f_rows ["_law_script", "_law_places", "_law_lanes"] (ofF F_rows) := by
  obtain ⟨fd, F, b⟩ := T.f_rows
  refine ⟨fd, fnF (k := 1) F sc_rows (fun cdv A' outer s H E hr => ?_), b, F.kp⟩
  have hu64 := units64 hr
  have hu65 := units65 hr
  have tkS := takes_of (X := cxOf (L2.CX P w) P w K mg base ["_law_script", "_law_places", "_law_lanes", "_law_rows_here", "_law_known", "_law_k", "_law_row_here", "_law_at"] "_law_rows" (defScope s_rows) A.f_rows cdv A' outer s H E) rfl rfl rfl rfl
  have tk := takesE_of (wd := ⟨cl P w A, fun cls d _ H => E cls d H, none, fp0⟩) tkS
  have hp := passes_of (X := cxOf (L2.CX P w) P w K mg base ["_law_script", "_law_places", "_law_lanes", "_law_rows_here", "_law_known", "_law_k", "_law_row_here", "_law_at"] "_law_rows" (defScope s_rows) A.f_rows cdv A' outer s H E) rfl
  exact (fss_cons (fs_set (i := 3) sc_rows.nd (fe_node (fe_lst fa_nil)))
  (fss_cons (fs_setO (i := 4) sc_rows.nd (fe_dnew ⟨rfl, rfl⟩ true))
  (fss_cons (fs_for hp rfl (fi_range1 (fe_blt ct_len bf_len T.b_len (fb_cons (fe_sl (fv 0) (fo_some fe_int) (fo_some fe_int)) fb_nil)) T.b_range) (qg_name sc_rows.nd) (fss_cons (fs_set (i := 6) sc_rows.nd (fe_callO (ps := ["_law_places", "_law_lanes", "_law_draw_here", "_law_other"]) (ok_row T) (hr.mono (by decide)) T.g__law_row tk (fa_cons (fv 1) (fa_cons (fv 2) (fa_cons (fe_callO (ps := ["_law_script", "_law_k"]) (ok_draw T) (hr.mono (by decide)) T.g__law_draw tk (fa_cons (fv 0) (fa_cons (fe_op ot_add of_add fe_int (fe_op ot_mul of_mul fe_int (fv 5))) fa_nil))) (fa_cons (fe_callO (ps := ["_law_script", "_law_k"]) (ok_draw T) (hr.mono (by decide)) T.g__law_draw tk (fa_cons (fv 0) (fa_cons (fe_op ot_add of_add fe_int (fe_op ot_mul of_mul fe_int (fv 5))) fa_nil))) fa_nil))))))
  (fss_cons (fs_if (ft_cmp (ot_notInD ⟨rfl, rfl⟩ hu65) of_inD (fe_sl (fv 6) fo_none (fo_some fe_int)) (fv 4)) (fss_one (fs_appM (fv 3) (fv 6))) fss_nil)
  (fss_one (fs_putD (n := 4) ⟨rfl, rfl⟩ hu64 (fe_sl (fv 6) fo_none (fo_some fe_int)) fe_bl)))))
  (fss_cons (fs_for hp rfl (fi_range1 (fe_op ot_sub of_I (fe_op ot_mod of_I (fe_callO (ps := ["_law_script", "_law_k"]) (ok_draw T) (hr.mono (by decide)) T.g__law_draw tk (fa_cons (fv 0) (fa_cons fe_int fa_nil))) fe_int) fe_int) T.b_range) (qg_name sc_rows.nd) (fss_one (fs_if (ft_cmp (ot_ne hu64) of_ne (fv 3) (fe_lst fa_nil)) (fss_cons (fs_set (i := 7) sc_rows.nd (fe_op ot_mod of_I (fe_callO (ps := ["_law_script", "_law_k"]) (ok_draw T) (hr.mono (by decide)) T.g__law_draw tk (fa_cons (fv 0) (fa_cons (fe_op ot_add of_add fe_int (fv 5)) fa_nil))) (fe_blt ct_len bf_len T.b_len (fb_cons (fv 3) fb_nil))))
  (fss_one (fs_putM (fv 3) (fv 7) (fe_callO (ps := ["_law_row_here", "_law_rows_here", "_law_places", "_law_lanes", "_law_draw_here"]) (ok_spoiled T) (hr.mono (by decide)) T.g__law_spoiled tk (fa_cons (fe_ixD ⟨rfl, rfl⟩ hu64 (fv 3) (fv 7)) (fa_cons (fv 3) (fa_cons (fv 1) (fa_cons (fv 2) (fa_cons (fe_callO (ps := ["_law_script", "_law_k"]) (ok_draw T) (hr.mono (by decide)) T.g__law_draw tk (fa_cons (fv 0) (fa_cons (fe_op ot_add of_add fe_int (fv 5)) fa_nil))) fa_nil))))))))) fss_nil)))
  (fss_one (fs_ret (fv 3)))))))
theorem sc_law : FnScope ["_law_script", "_law_places", "_law_lanes", "_law_rows_here", "_law_land_here", "_law_handed", "_law_bad", "_law_table", "_law_row_here"] ["_law_script"] (defScope s_law) := ⟨rfl, rfl, rfl, by decide +kernel, rfl, by decide +kernel, by decide +kernel⟩
theorem ok_law (T : Txt K mg A) {fd : FuncData} (F : Fun K "law" "law" s_law A.f_law fd) : FnOk P w K mg base (L2.CX P w) 6 A.f_law fd ["_law_script"] (spT K (cl P w A) 1 (ofF F_law)) := by
  refine fnF (k := 5) F sc_law (fun cdv A' outer s H E hr => ?_)
  have hu64 := units64 hr
  have hu65 := units65 hr
  have tkS := takes_of (X := cxOf (L2.CX P w) P w K mg base ["_law_script", "_law_places", "_law_lanes", "_law_rows_here", "_law_land_here", "_law_handed", "_law_bad", "_law_table", "_law_row_here"] "law" (defScope s_law) A.f_law cdv A' outer s H E) rfl rfl rfl rfl
  have tk := takesE_of (wd := ⟨cl P w A, fun cls d _ H => E cls d H, none, fp0⟩) tkS
  have hp := passes_of (X := cxOf (L2.CX P w) P w K mg base ["_law_script", "_law_places", "_law_lanes", "_law_rows_here", "_law_land_here", "_law_handed", "_law_bad", "_law_table", "_law_row_here"] "law" (defScope s_law) A.f_law cdv A' outer s H E) rfl
  exact (fss_cons (fs_asg (fe_callO (ps := ["_law_script"]) (ok_land T) (hr.mono (by decide)) T.g__law_land tk (fa_cons (fv 0) fa_nil)) (qg_tup rfl (qgs_cons (qgs_cons qgs_nil sc_law.nd) sc_law.nd)))
  (fss_cons (fs_set (i := 3) sc_law.nd (fe_callO (ps := ["_law_script", "_law_places", "_law_lanes"]) (ok_rows T) (hr.mono (by decide)) T.g__law_rows tk (fa_cons (fv 0) (fa_cons (fv 1) (fa_cons (fv 2) fa_nil)))))
  (fss_cons (fs_set (i := 4) sc_law.nd (fe_makeFO (c := 0) (n := 2) (ok_Land_init T) rfl rfl T.k_Land (hr.mono (by decide)) T.g_Land tk (fa_cons (fv 1) (fa_cons (fv 2) fa_nil))))
  (fss_cons (fs_setLcN (i := 5) rfl sc_law.nd (fi_seq (fv 3)) (own := [("_law_row_here", 8)]) (blkOk_by (by first | (show blkC ["_law_script", "_law_places", "_law_lanes", "_law_rows_here", "_law_land_here", "_law_handed", "_law_bad", "_law_table", "_law_row_here"] (defScope s_law) _ _ = true; decide +kernel) | kernel_rfl)) (fun _ _ _ _ _ => (qg_name sc_law.nd)) (fun _ _ _ _ _ => by exact fts_nil) (fun _ _ _ _ _ => by exact (fe_op ot_add of_add (fe_sl (fv 8) fo_none (fo_some fe_int)) (fe_tup (fa_cons (fe_node (fe_bty ct_list bf_list T.b_list (fb_cons (fe_ixD ⟨rfl, rfl⟩ hu64 (fv 8) fe_int) fb_nil))) fa_nil)))) (hsw := by exact sw_true rfl rfl rfl (by decide +kernel)))
  (fss_cons (fs_set (i := 6) sc_law.nd (fe_callO (ps := ["_law_rows_here", "_law_places", "_law_lanes"]) (ok_first_bad T) (hr.mono (by decide)) T.g__law_first_bad tk (fa_cons (fv 3) (fa_cons (fv 1) (fa_cons (fv 2) fa_nil)))))
  (fss_cons (fs_if (QW.qt (fw_or (ft_cmp (ot_ne hu64) of_ne (fe_callO (ps := ["_law_land_here", "_law_rows_here"]) (ok_refused T) (hr.mono (by decide)) T.g__law_refused tk (fa_cons (fv 4) (fa_cons (fv 5) fa_nil))) (fv 6)) (fw_or1 (ft_seeDNe (n := 3) hu64 (fv 5) (fv 3))))) (fss_one (fs_ret fe_bl)) fss_nil)
  (fss_cons (fs_if (ft_cmp ot_isNot of_isNot (fv 6) fe_non) (fss_one (fs_ret fe_bl)) fss_nil)
  (fss_cons (fs_set (i := 7) sc_law.nd (fe_makeFO (c := 2) (n := 2) (ok_Told_init T) rfl rfl T.k_Told (hr.mono (by decide)) T.g_Told tk (fa_cons (fv 4) (fa_cons (fv 5) fa_nil))))
  (fss_cons (fs_for hp rfl (fi_seq (fv 5)) (qg_name sc_law.nd) (fss_one (fs_appM (fe_ixD ⟨rfl, rfl⟩ hu64 (fv 8) fe_int) fe_int)))
  (fss_cons (fs_clrM (fv 5))
  (fss_cons (fs_if (QW.qt (fw_or (ft_not (ft_val (fe_callO (ps := ["_law_table", "_law_rows_here", "_law_places", "_law_lanes"]) (ok_right T) (hr.mono (by decide)) T.g__law_right tk (fa_cons (fv 7) (fa_cons (fv 3) (fa_cons (fv 1) (fa_cons (fv 2) fa_nil))))))) (fw_or1 (ft_not (ft_val (fe_callO (ps := ["_law_table", "_law_rows_here", "_law_places", "_law_lanes"]) (ok_right T) (hr.mono (by decide)) T.g__law_right tk (fa_cons (fv 7) (fa_cons (fv 3) (fa_cons (fv 1) (fa_cons (fv 2) fa_nil)))))))))) (fss_one (fs_ret fe_bl)) fss_nil)
  (fss_one (fs_ret (fe_and (fe_cmp (ot_eq hu64) of_eq (fe_fld (f := 1) (fl_lanes T) (fe_fld (f := 2) (fl_land T) (fv 7))) (fe_bty ct_tuple bf_tuple T.b_tuple (fb_cons (fv 2) fb_nil))) (fe_one (fe_callO (ps := ["_law_table", "_law_rows_here", "_law_places", "_law_lanes"]) (ok_right T) (hr.mono (by decide)) T.g__law_right tk (fa_cons (fe_makeFO (c := 1) (n := 1) (ok_Table_init T) rfl rfl T.k_Table (hr.mono (by decide)) T.g_Table tk (fa_cons (fv 4) fa_nil)) (fa_cons (fe_lst fa_nil) (fa_cons (fv 1) (fa_cons (fv 2) fa_nil))))))))))))))))))))
end
theorem all_mk {l : PySem.W.OpenLaw} {w : World} {K : PySem.W.Frag} {h : Heap} {mg : Str → Option Value} {fa : Addr} (X : K.In h) (G : h.Ns mainGlobals mg) (hfa : mg "law" = some (.ref fa))
    {C_Table C_Told C_Land C_YardError C_NoPlaces C_TooMany C_NoRoad C_NoEntry C_NoMove f_NoRoad_init f_TooMany_init f_Land_init f_Table_init f_NoEntry_init f_Land_into f_Land_out_of f_Told_is_good f_Told_init f_is_bad f_first_bad f_draw f_land f_refused f_Table_ways f_Told_ways f_right f_row f_spoiled f_rows f_law : Addr}
    {od_NoRoad_init an_NoRoad_init od_TooMany_init an_TooMany_init od_Land_init an_Land_init od_Table_init an_Table_init od_NoEntry_init an_NoEntry_init od_Land_into an_Land_into od_Land_out_of an_Land_out_of od_Told_is_good an_Told_is_good od_Told_init an_Told_init od_is_bad an_is_bad od_first_bad an_first_bad od_draw an_draw od_land an_land od_refused an_refused od_Table_ways an_Table_ways od_Told_ways an_Told_ways od_right an_right od_row an_row od_spoiled an_spoiled od_rows an_rows od_law an_law : Option Addr} {sl_NoRoad_init sl_TooMany_init sl_Land_init sl_Table_init sl_NoEntry_init sl_Land_into sl_Land_out_of sl_Told_is_good sl_Told_init sl_is_bad sl_first_bad sl_draw sl_land sl_refused sl_Table_ways sl_Told_ways sl_right sl_row sl_spoiled sl_rows sl_law : Array (Option Value)} {oc_NoRoad_init kV_NoRoad_init dc_NoRoad_init pm_NoRoad_init ct_NoRoad_init cd_NoRoad_init oc_TooMany_init kV_TooMany_init dc_TooMany_init pm_TooMany_init ct_TooMany_init cd_TooMany_init oc_Land_init kV_Land_init dc_Land_init pm_Land_init ct_Land_init cd_Land_init oc_Table_init kV_Table_init dc_Table_init pm_Table_init ct_Table_init cd_Table_init oc_NoEntry_init kV_NoEntry_init dc_NoEntry_init pm_NoEntry_init ct_NoEntry_init cd_NoEntry_init oc_Land_into kV_Land_into dc_Land_into pm_Land_into ct_Land_into cd_Land_into oc_Land_out_of kV_Land_out_of dc_Land_out_of pm_Land_out_of ct_Land_out_of cd_Land_out_of oc_Told_is_good kV_Told_is_good dc_Told_is_good pm_Told_is_good ct_Told_is_good cd_Told_is_good oc_Told_init kV_Told_init dc_Told_init pm_Told_init ct_Told_init cd_Told_init oc_is_bad kV_is_bad dc_is_bad pm_is_bad ct_is_bad cd_is_bad oc_first_bad kV_first_bad dc_first_bad pm_first_bad ct_first_bad cd_first_bad oc_draw kV_draw dc_draw pm_draw ct_draw cd_draw oc_land kV_land dc_land pm_land ct_land cd_land oc_refused kV_refused dc_refused pm_refused ct_refused cd_refused oc_Table_ways kV_Table_ways dc_Table_ways pm_Table_ways ct_Table_ways cd_Table_ways oc_Told_ways kV_Told_ways dc_Told_ways pm_Told_ways ct_Told_ways cd_Told_ways oc_right kV_right dc_right pm_right ct_right cd_right oc_row kV_row dc_row pm_row ct_row cd_row oc_spoiled kV_spoiled dc_spoiled pm_spoiled ct_spoiled cd_spoiled oc_rows kV_rows dc_rows pm_rows ct_rows cd_rows oc_law kV_law dc_law pm_law ct_law cd_law : Value}
    {nm_NoEntry q_NoEntry : Str} {N_NoEntry : Addr} {bs_NoEntry sub_NoEntry : List Value} {sn_NoEntry : List Str} {ab_NoEntry : Bool} {col_NoEntry : Option Bool} {dd_NoEntry : Option Addr} {m0_NoEntry m1_NoEntry m2_NoEntry m3_NoEntry m5_NoEntry : Option Value}
    {nm_NoRoad q_NoRoad : Str} {N_NoRoad : Addr} {bs_NoRoad sub_NoRoad : List Value} {sn_NoRoad : List Str} {ab_NoRoad : Bool} {col_NoRoad : Option Bool} {dd_NoRoad : Option Addr} {m0_NoRoad m1_NoRoad m2_NoRoad m3_NoRoad m5_NoRoad : Option Value}
    {nm_TooMany q_TooMany : Str} {N_TooMany : Addr} {bs_TooMany sub_TooMany : List Value} {sn_TooMany : List Str} {ab_TooMany : Bool} {col_TooMany : Option Bool} {dd_TooMany : Option Addr} {m0_TooMany m1_TooMany m2_TooMany m3_TooMany m5_TooMany : Option Value}
    (aC_Table : PySem.W.nsIn K mainGlobals "Table" = some (some (.ref C_Table)))
    (aC_Told : PySem.W.nsIn K mainGlobals "Told" = some (some (.ref C_Told)))
    (aC_Land : PySem.W.nsIn K mainGlobals "Land" = some (some (.ref C_Land)))
    (aC_YardError : PySem.W.nsIn K mainGlobals "YardError" = some (some (.ref C_YardError)))
    (aC_NoPlaces : PySem.W.nsIn K mainGlobals "NoPlaces" = some (some (.ref C_NoPlaces)))
    (aC_TooMany : PySem.W.nsIn K mainGlobals "TooMany" = some (some (.ref C_TooMany)))
    (aC_NoRoad : PySem.W.nsIn K mainGlobals "NoRoad" = some (some (.ref C_NoRoad)))
    (aC_NoEntry : PySem.W.nsIn K mainGlobals "NoEntry" = some (some (.ref C_NoEntry)))
    (aC_NoMove : PySem.W.nsIn K mainGlobals "NoMove" = some (some (.ref C_NoMove)))
    (pg_Table : PySem.W.plainGet K C_Table Str.empty = true)
    (hd_Table : PySem.W.hasDictIn K C_Table = true)
    (po_Table : PySem.W.plainOver K C_Table = true)
    (sa_Table : PySem.W.findIn K (.ref C_Table) "__setattr__" = some (some (.builtin "object.__setattr__")))
    (pg_Told : PySem.W.plainGet K C_Told Str.empty = true)
    (hd_Told : PySem.W.hasDictIn K C_Told = true)
    (po_Told : PySem.W.plainOver K C_Told = true)
    (sa_Told : PySem.W.findIn K (.ref C_Told) "__setattr__" = some (some (.builtin "object.__setattr__")))
    (pg_Land : PySem.W.plainGet K C_Land Str.empty = true)
    (hd_Land : PySem.W.hasDictIn K C_Land = true)
    (po_Land : PySem.W.plainOver K C_Land = true)
    (sa_Land : PySem.W.findIn K (.ref C_Land) "__setattr__" = some (some (.builtin "object.__setattr__")))
    (a_NoRoad_init : PySem.W.findIn K (.ref C_NoRoad) "__init__" = some (some (.ref f_NoRoad_init)))
    (l_NoRoad_init : K.lookup f_NoRoad_init = some ⟨oc_NoRoad_init, od_NoRoad_init, .func (PySem.W.fnOf "__init__" "NoRoad.__init__" (defArgs s_NoRoad_init) (defBody s_NoRoad_init) (defScope s_NoRoad_init) .none kV_NoRoad_init dc_NoRoad_init pm_NoRoad_init an_NoRoad_init cd_NoRoad_init ct_NoRoad_init), sl_NoRoad_init⟩)
    (cd_is_NoRoad_init : PySem.W.codeIn K cd_NoRoad_init "NoRoad.__init__" = true)
    (k_NoRoad_init : PySem.W.keepIn K (.ref f_NoRoad_init) = true)
    (i_NoRoad_init : PySem.W.isFn K (.ref f_NoRoad_init) = true)
    (a_TooMany_init : PySem.W.findIn K (.ref C_TooMany) "__init__" = some (some (.ref f_TooMany_init)))
    (l_TooMany_init : K.lookup f_TooMany_init = some ⟨oc_TooMany_init, od_TooMany_init, .func (PySem.W.fnOf "__init__" "TooMany.__init__" (defArgs s_TooMany_init) (defBody s_TooMany_init) (defScope s_TooMany_init) .none kV_TooMany_init dc_TooMany_init pm_TooMany_init an_TooMany_init cd_TooMany_init ct_TooMany_init), sl_TooMany_init⟩)
    (cd_is_TooMany_init : PySem.W.codeIn K cd_TooMany_init "TooMany.__init__" = true)
    (k_TooMany_init : PySem.W.keepIn K (.ref f_TooMany_init) = true)
    (i_TooMany_init : PySem.W.isFn K (.ref f_TooMany_init) = true)
    (a_Land_init : PySem.W.findIn K (.ref C_Land) "__init__" = some (some (.ref f_Land_init)))
    (l_Land_init : K.lookup f_Land_init = some ⟨oc_Land_init, od_Land_init, .func (PySem.W.fnOf "__init__" "Land.__init__" (defArgs s_Land_init) (defBody s_Land_init) (defScope s_Land_init) .none kV_Land_init dc_Land_init pm_Land_init an_Land_init cd_Land_init ct_Land_init), sl_Land_init⟩)
    (cd_is_Land_init : PySem.W.codeIn K cd_Land_init "Land.__init__" = true)
    (k_Land_init : PySem.W.keepIn K (.ref f_Land_init) = true)
    (i_Land_init : PySem.W.isFn K (.ref f_Land_init) = true)
    (a_Table_init : PySem.W.findIn K (.ref C_Table) "__init__" = some (some (.ref f_Table_init)))
    (l_Table_init : K.lookup f_Table_init = some ⟨oc_Table_init, od_Table_init, .func (PySem.W.fnOf "__init__" "Table.__init__" (defArgs s_Table_init) (defBody s_Table_init) (defScope s_Table_init) .none kV_Table_init dc_Table_init pm_Table_init an_Table_init cd_Table_init ct_Table_init), sl_Table_init⟩)
    (cd_is_Table_init : PySem.W.codeIn K cd_Table_init "Table.__init__" = true)
    (k_Table_init : PySem.W.keepIn K (.ref f_Table_init) = true)
    (i_Table_init : PySem.W.isFn K (.ref f_Table_init) = true)
    (a_NoEntry_init : PySem.W.findIn K (.ref C_NoEntry) "__init__" = some (some (.ref f_NoEntry_init)))
    (l_NoEntry_init : K.lookup f_NoEntry_init = some ⟨oc_NoEntry_init, od_NoEntry_init, .func (PySem.W.fnOf "__init__" "NoEntry.__init__" (defArgs s_NoEntry_init) (defBody s_NoEntry_init) (defScope s_NoEntry_init) .none kV_NoEntry_init dc_NoEntry_init pm_NoEntry_init an_NoEntry_init cd_NoEntry_init ct_NoEntry_init), sl_NoEntry_init⟩)
    (cd_is_NoEntry_init : PySem.W.codeIn K cd_NoEntry_init "NoEntry.__init__" = true)
    (k_NoEntry_init : PySem.W.keepIn K (.ref f_NoEntry_init) = true)
    (i_NoEntry_init : PySem.W.isFn K (.ref f_NoEntry_init) = true)
    (a_Land_into : PySem.W.findIn K (.ref C_Land) "into" = some (some (.ref f_Land_into)))
    (l_Land_into : K.lookup f_Land_into = some ⟨oc_Land_into, od_Land_into, .func (PySem.W.fnOf "into" "Land.into" (defArgs s_Land_into) (defBody s_Land_into) (defScope s_Land_into) .none kV_Land_into dc_Land_into pm_Land_into an_Land_into cd_Land_into ct_Land_into), sl_Land_into⟩)
    (cd_is_Land_into : PySem.W.codeIn K cd_Land_into "Land.into" = true)
    (k_Land_into : PySem.W.keepIn K (.ref f_Land_into) = true)
    (i_Land_into : PySem.W.isFn K (.ref f_Land_into) = true)
    (a_Land_out_of : PySem.W.findIn K (.ref C_Land) "out_of" = some (some (.ref f_Land_out_of)))
    (l_Land_out_of : K.lookup f_Land_out_of = some ⟨oc_Land_out_of, od_Land_out_of, .func (PySem.W.fnOf "out_of" "Land.out_of" (defArgs s_Land_out_of) (defBody s_Land_out_of) (defScope s_Land_out_of) .none kV_Land_out_of dc_Land_out_of pm_Land_out_of an_Land_out_of cd_Land_out_of ct_Land_out_of), sl_Land_out_of⟩)
    (cd_is_Land_out_of : PySem.W.codeIn K cd_Land_out_of "Land.out_of" = true)
    (k_Land_out_of : PySem.W.keepIn K (.ref f_Land_out_of) = true)
    (i_Land_out_of : PySem.W.isFn K (.ref f_Land_out_of) = true)
    (a_Told_is_good : PySem.W.findIn K (.ref C_Told) "is_good" = some (some (.ref f_Told_is_good)))
    (l_Told_is_good : K.lookup f_Told_is_good = some ⟨oc_Told_is_good, od_Told_is_good, .func (PySem.W.fnOf "is_good" "Told.is_good" (defArgs s_Told_is_good) (defBody s_Told_is_good) (defScope s_Told_is_good) .none kV_Told_is_good dc_Told_is_good pm_Told_is_good an_Told_is_good cd_Told_is_good ct_Told_is_good), sl_Told_is_good⟩)
    (cd_is_Told_is_good : PySem.W.codeIn K cd_Told_is_good "Told.is_good" = true)
    (k_Told_is_good : PySem.W.keepIn K (.ref f_Told_is_good) = true)
    (i_Told_is_good : PySem.W.isFn K (.ref f_Told_is_good) = true)
    (a_Told_init : PySem.W.findIn K (.ref C_Told) "__init__" = some (some (.ref f_Told_init)))
    (l_Told_init : K.lookup f_Told_init = some ⟨oc_Told_init, od_Told_init, .func (PySem.W.fnOf "__init__" "Told.__init__" (defArgs s_Told_init) (defBody s_Told_init) (defScope s_Told_init) .none kV_Told_init dc_Told_init pm_Told_init an_Told_init cd_Told_init ct_Told_init), sl_Told_init⟩)
    (cd_is_Told_init : PySem.W.codeIn K cd_Told_init "Told.__init__" = true)
    (k_Told_init : PySem.W.keepIn K (.ref f_Told_init) = true)
    (i_Told_init : PySem.W.isFn K (.ref f_Told_init) = true)
    (a_is_bad : PySem.W.nsIn K mainGlobals "_law_is_bad" = some (some (.ref f_is_bad)))
    (l_is_bad : K.lookup f_is_bad = some ⟨oc_is_bad, od_is_bad, .func (PySem.W.fnOf "_law_is_bad" "_law_is_bad" (defArgs s_is_bad) (defBody s_is_bad) (defScope s_is_bad) .none kV_is_bad dc_is_bad pm_is_bad an_is_bad cd_is_bad ct_is_bad), sl_is_bad⟩)
    (cd_is_is_bad : PySem.W.codeIn K cd_is_bad "_law_is_bad" = true)
    (k_is_bad : PySem.W.keepIn K (.ref f_is_bad) = true)
    (a_first_bad : PySem.W.nsIn K mainGlobals "_law_first_bad" = some (some (.ref f_first_bad)))
    (l_first_bad : K.lookup f_first_bad = some ⟨oc_first_bad, od_first_bad, .func (PySem.W.fnOf "_law_first_bad" "_law_first_bad" (defArgs s_first_bad) (defBody s_first_bad) (defScope s_first_bad) .none kV_first_bad dc_first_bad pm_first_bad an_first_bad cd_first_bad ct_first_bad), sl_first_bad⟩)
    (cd_is_first_bad : PySem.W.codeIn K cd_first_bad "_law_first_bad" = true)
    (k_first_bad : PySem.W.keepIn K (.ref f_first_bad) = true)
    (a_draw : PySem.W.nsIn K mainGlobals "_law_draw" = some (some (.ref f_draw)))
    (l_draw : K.lookup f_draw = some ⟨oc_draw, od_draw, .func (PySem.W.fnOf "_law_draw" "_law_draw" (defArgs s_draw) (defBody s_draw) (defScope s_draw) .none kV_draw dc_draw pm_draw an_draw cd_draw ct_draw), sl_draw⟩)
    (cd_is_draw : PySem.W.codeIn K cd_draw "_law_draw" = true)
    (k_draw : PySem.W.keepIn K (.ref f_draw) = true)
    (a_land : PySem.W.nsIn K mainGlobals "_law_land" = some (some (.ref f_land)))
    (l_land : K.lookup f_land = some ⟨oc_land, od_land, .func (PySem.W.fnOf "_law_land" "_law_land" (defArgs s_land) (defBody s_land) (defScope s_land) .none kV_land dc_land pm_land an_land cd_land ct_land), sl_land⟩)
    (cd_is_land : PySem.W.codeIn K cd_land "_law_land" = true)
    (k_land : PySem.W.keepIn K (.ref f_land) = true)
    (a_refused : PySem.W.nsIn K mainGlobals "_law_refused" = some (some (.ref f_refused)))
    (l_refused : K.lookup f_refused = some ⟨oc_refused, od_refused, .func (PySem.W.fnOf "_law_refused" "_law_refused" (defArgs s_refused) (defBody s_refused) (defScope s_refused) .none kV_refused dc_refused pm_refused an_refused cd_refused ct_refused), sl_refused⟩)
    (cd_is_refused : PySem.W.codeIn K cd_refused "_law_refused" = true)
    (k_refused : PySem.W.keepIn K (.ref f_refused) = true)
    (a_Table_ways : PySem.W.findIn K (.ref C_Table) "ways" = some (some (.ref f_Table_ways)))
    (l_Table_ways : K.lookup f_Table_ways = some ⟨oc_Table_ways, od_Table_ways, .func (PySem.W.fnOf "ways" "Table.ways" (defArgs s_Table_ways) (defBody s_Table_ways) (defScope s_Table_ways) .none kV_Table_ways dc_Table_ways pm_Table_ways an_Table_ways cd_Table_ways ct_Table_ways), sl_Table_ways⟩)
    (cd_is_Table_ways : PySem.W.codeIn K cd_Table_ways "Table.ways" = true)
    (k_Table_ways : PySem.W.keepIn K (.ref f_Table_ways) = true)
    (i_Table_ways : PySem.W.isFn K (.ref f_Table_ways) = true)
    (a_Told_ways : PySem.W.findIn K (.ref C_Told) "ways" = some (some (.ref f_Told_ways)))
    (l_Told_ways : K.lookup f_Told_ways = some ⟨oc_Told_ways, od_Told_ways, .func (PySem.W.fnOf "ways" "Told.ways" (defArgs s_Told_ways) (defBody s_Told_ways) (defScope s_Told_ways) .none kV_Told_ways dc_Told_ways pm_Told_ways an_Told_ways cd_Told_ways ct_Told_ways), sl_Told_ways⟩)
    (cd_is_Told_ways : PySem.W.codeIn K cd_Told_ways "Told.ways" = true)
    (k_Told_ways : PySem.W.keepIn K (.ref f_Told_ways) = true)
    (i_Told_ways : PySem.W.isFn K (.ref f_Told_ways) = true)
    (a_right : PySem.W.nsIn K mainGlobals "_law_right" = some (some (.ref f_right)))
    (l_right : K.lookup f_right = some ⟨oc_right, od_right, .func (PySem.W.fnOf "_law_right" "_law_right" (defArgs s_right) (defBody s_right) (defScope s_right) .none kV_right dc_right pm_right an_right cd_right ct_right), sl_right⟩)
    (cd_is_right : PySem.W.codeIn K cd_right "_law_right" = true)
    (k_right : PySem.W.keepIn K (.ref f_right) = true)
    (a_row : PySem.W.nsIn K mainGlobals "_law_row" = some (some (.ref f_row)))
    (l_row : K.lookup f_row = some ⟨oc_row, od_row, .func (PySem.W.fnOf "_law_row" "_law_row" (defArgs s_row) (defBody s_row) (defScope s_row) .none kV_row dc_row pm_row an_row cd_row ct_row), sl_row⟩)
    (cd_is_row : PySem.W.codeIn K cd_row "_law_row" = true)
    (k_row : PySem.W.keepIn K (.ref f_row) = true)
    (a_spoiled : PySem.W.nsIn K mainGlobals "_law_spoiled" = some (some (.ref f_spoiled)))
    (l_spoiled : K.lookup f_spoiled = some ⟨oc_spoiled, od_spoiled, .func (PySem.W.fnOf "_law_spoiled" "_law_spoiled" (defArgs s_spoiled) (defBody s_spoiled) (defScope s_spoiled) .none kV_spoiled dc_spoiled pm_spoiled an_spoiled cd_spoiled ct_spoiled), sl_spoiled⟩)
    (cd_is_spoiled : PySem.W.codeIn K cd_spoiled "_law_spoiled" = true)
    (k_spoiled : PySem.W.keepIn K (.ref f_spoiled) = true)
    (a_rows : PySem.W.nsIn K mainGlobals "_law_rows" = some (some (.ref f_rows)))
    (l_rows : K.lookup f_rows = some ⟨oc_rows, od_rows, .func (PySem.W.fnOf "_law_rows" "_law_rows" (defArgs s_rows) (defBody s_rows) (defScope s_rows) .none kV_rows dc_rows pm_rows an_rows cd_rows ct_rows), sl_rows⟩)
    (cd_is_rows : PySem.W.codeIn K cd_rows "_law_rows" = true)
    (k_rows : PySem.W.keepIn K (.ref f_rows) = true)
    (a_law : PySem.W.nsIn K mainGlobals "law" = some (some (.ref f_law)))
    (l_law : K.lookup f_law = some ⟨oc_law, od_law, .func (PySem.W.fnOf "law" "law" (defArgs s_law) (defBody s_law) (defScope s_law) .none kV_law dc_law pm_law an_law cd_law ct_law), sl_law⟩)
    (cd_is_law : PySem.W.codeIn K cd_law "law" = true)
    (k_law : PySem.W.keepIn K (.ref f_law) = true)
    (z_enumerate : PySem.W.nsIn K mainGlobals "enumerate" = some none)
    (z_isinstance : PySem.W.nsIn K mainGlobals "isinstance" = some none)
    (z_len : PySem.W.nsIn K mainGlobals "len" = some none)
    (z_list : PySem.W.nsIn K mainGlobals "list" = some none)
    (z_max : PySem.W.nsIn K mainGlobals "max" = some none)
    (z_min : PySem.W.nsIn K mainGlobals "min" = some none)
    (z_range : PySem.W.nsIn K mainGlobals "range" = some none)
    (z_set : PySem.W.nsIn K mainGlobals "set" = some none)
    (z_sorted : PySem.W.nsIn K mainGlobals "sorted" = some none)
    (z_tuple : PySem.W.nsIn K mainGlobals "tuple" = some none)
    (n_Told_known : PySem.W.findIn K (.ref C_Told) "known" = some none)
    (n_Table_land : PySem.W.findIn K (.ref C_Table) "land" = some none)
    (n_Told_land : PySem.W.findIn K (.ref C_Told) "land" = some none)
    (n_Land_lanes : PySem.W.findIn K (.ref C_Land) "lanes" = some none)
    (n_Land_places : PySem.W.findIn K (.ref C_Land) "places" = some none)
    (mk_Land : PySem.W.makesIn K C_Land = true)
    (kc_Land : PySem.W.keepIn K (.ref C_Land) = true)
    (mk_Table : PySem.W.makesIn K C_Table = true)
    (kc_Table : PySem.W.keepIn K (.ref C_Table) = true)
    (mk_Told : PySem.W.makesIn K C_Told = true)
    (kc_Told : PySem.W.keepIn K (.ref C_Told) = true)
    (xe_NoPlaces : PySem.W.excIn K C_NoPlaces [.type "ValueError", .type "Exception", .type "BaseException", .type "object"] "ValueError.__new__" = true)
    (kc_NoPlaces : PySem.W.keepIn K (.ref C_NoPlaces) = true)
    (xs_NoPlaces : PySem.W.subIn K (.ref C_NoPlaces) (.type "BaseException") = some true)
    (xy_NoPlaces : PySem.W.typeIn K (.ref C_NoPlaces) = some (.type "type"))
    (xs_YardError : PySem.W.subIn K (.ref C_YardError) (.type "BaseException") = some true)
    (xy_YardError : PySem.W.typeIn K (.ref C_YardError) = some (.type "type"))
    (ic_YardError : PySem.W.isClsIn K C_YardError = true)
    (sb_YardError_YardError : PySem.W.subIn K (.ref C_YardError) (.ref C_YardError) = some true)
    (sb_NoPlaces_YardError : PySem.W.subIn K (.ref C_NoPlaces) (.ref C_YardError) = some true)
    (sb_TooMany_YardError : PySem.W.subIn K (.ref C_TooMany) (.ref C_YardError) = some true)
    (sb_NoRoad_YardError : PySem.W.subIn K (.ref C_NoRoad) (.ref C_YardError) = some true)
    (sb_NoEntry_YardError : PySem.W.subIn K (.ref C_NoEntry) (.ref C_YardError) = some true)
    (sb_NoMove_YardError : PySem.W.subIn K (.ref C_NoMove) (.ref C_YardError) = some true)
    (xl_NoEntry : K.lookup C_NoEntry = some (PySem.excClassObj nm_NoEntry q_NoEntry C_NoEntry N_NoEntry bs_NoEntry [.ref C_YardError, .type "ValueError", .type "Exception", .type "BaseException", .type "object"] true sn_NoEntry sub_NoEntry ab_NoEntry col_NoEntry dd_NoEntry m0_NoEntry m1_NoEntry m2_NoEntry m3_NoEntry m5_NoEntry "ValueError.__new__"))
    (sa_NoEntry : PySem.W.findIn K (.ref C_NoEntry) "__setattr__" = some (some (.builtin "object.__setattr__")))
    (kc_NoEntry : PySem.W.keepIn K (.ref C_NoEntry) = true)
    (xs_NoEntry : PySem.W.subIn K (.ref C_NoEntry) (.type "BaseException") = some true)
    (xy_NoEntry : PySem.W.typeIn K (.ref C_NoEntry) = some (.type "type"))
    (xt_NoEntry : PySem.W.typeIn K (.ref f_NoEntry_init) = some (.type "function"))
    (no_NoEntry_row : PySem.W.findIn K (.ref C_NoEntry) "row" = some none)
    (xl_NoRoad : K.lookup C_NoRoad = some (PySem.excClassObj nm_NoRoad q_NoRoad C_NoRoad N_NoRoad bs_NoRoad [.ref C_YardError, .type "ValueError", .type "Exception", .type "BaseException", .type "object"] true sn_NoRoad sub_NoRoad ab_NoRoad col_NoRoad dd_NoRoad m0_NoRoad m1_NoRoad m2_NoRoad m3_NoRoad m5_NoRoad "ValueError.__new__"))
    (sa_NoRoad : PySem.W.findIn K (.ref C_NoRoad) "__setattr__" = some (some (.builtin "object.__setattr__")))
    (kc_NoRoad : PySem.W.keepIn K (.ref C_NoRoad) = true)
    (xs_NoRoad : PySem.W.subIn K (.ref C_NoRoad) (.type "BaseException") = some true)
    (xy_NoRoad : PySem.W.typeIn K (.ref C_NoRoad) = some (.type "type"))
    (xt_NoRoad : PySem.W.typeIn K (.ref f_NoRoad_init) = some (.type "function"))
    (no_NoRoad_lane : PySem.W.findIn K (.ref C_NoRoad) "lane" = some none)
    (xl_TooMany : K.lookup C_TooMany = some (PySem.excClassObj nm_TooMany q_TooMany C_TooMany N_TooMany bs_TooMany [.ref C_YardError, .type "ValueError", .type "Exception", .type "BaseException", .type "object"] true sn_TooMany sub_TooMany ab_TooMany col_TooMany dd_TooMany m0_TooMany m1_TooMany m2_TooMany m3_TooMany m5_TooMany "ValueError.__new__"))
    (sa_TooMany : PySem.W.findIn K (.ref C_TooMany) "__setattr__" = some (some (.builtin "object.__setattr__")))
    (kc_TooMany : PySem.W.keepIn K (.ref C_TooMany) = true)
    (xs_TooMany : PySem.W.subIn K (.ref C_TooMany) (.type "BaseException") = some true)
    (xy_TooMany : PySem.W.typeIn K (.ref C_TooMany) = some (.type "type"))
    (xt_TooMany : PySem.W.typeIn K (.ref f_TooMany_init) = some (.type "function"))
    (no_TooMany_many : PySem.W.findIn K (.ref C_TooMany) "many" = some none)
    (hg_NoEntry : PySem.W.findIn K (.ref C_NoEntry) "__getattribute__" = some (some (.builtin "BaseException.__getattribute__")))
    (gg_NoEntry : PySem.W.findIn K (.ref C_NoEntry) "__getattr__" = some none)
    (hd_NoEntry : PySem.W.hasDictIn K C_NoEntry = true)
    (oc_get : PySem.W.specialIn K (.builtin "object.__class__") "__get__" = some (some (.builtin "getset_descriptor.__get__")))
    (oc_tk : PySem.W.takesIn K (.builtin "object.__class__") = some true)
    (hg_YardError : PySem.W.findIn K (.ref C_YardError) "__getattribute__" = some (some (.builtin "BaseException.__getattribute__")))
    (gg_YardError : PySem.W.findIn K (.ref C_YardError) "__getattr__" = some none)
    (hd_YardError : PySem.W.hasDictIn K C_YardError = true)
    (ha_YardError : PySem.W.findIn K (.ref C_YardError) "__class__" = some (some (.builtin "object.__class__")))
    (hm_YardError : PySem.W.mroIn K C_YardError (.type "object") = some true)
    (hg_NoPlaces : PySem.W.findIn K (.ref C_NoPlaces) "__getattribute__" = some (some (.builtin "BaseException.__getattribute__")))
    (gg_NoPlaces : PySem.W.findIn K (.ref C_NoPlaces) "__getattr__" = some none)
    (hd_NoPlaces : PySem.W.hasDictIn K C_NoPlaces = true)
    (ha_NoPlaces : PySem.W.findIn K (.ref C_NoPlaces) "__class__" = some (some (.builtin "object.__class__")))
    (hm_NoPlaces : PySem.W.mroIn K C_NoPlaces (.type "object") = some true)
    (hg_TooMany : PySem.W.findIn K (.ref C_TooMany) "__getattribute__" = some (some (.builtin "BaseException.__getattribute__")))
    (gg_TooMany : PySem.W.findIn K (.ref C_TooMany) "__getattr__" = some none)
    (hd_TooMany : PySem.W.hasDictIn K C_TooMany = true)
    (ha_TooMany : PySem.W.findIn K (.ref C_TooMany) "__class__" = some (some (.builtin "object.__class__")))
    (hm_TooMany : PySem.W.mroIn K C_TooMany (.type "object") = some true)
    (hg_NoRoad : PySem.W.findIn K (.ref C_NoRoad) "__getattribute__" = some (some (.builtin "BaseException.__getattribute__")))
    (gg_NoRoad : PySem.W.findIn K (.ref C_NoRoad) "__getattr__" = some none)
    (hd_NoRoad : PySem.W.hasDictIn K C_NoRoad = true)
    (ha_NoRoad : PySem.W.findIn K (.ref C_NoRoad) "__class__" = some (some (.builtin "object.__class__")))
    (hm_NoRoad : PySem.W.mroIn K C_NoRoad (.type "object") = some true)
    (ha_NoEntry : PySem.W.findIn K (.ref C_NoEntry) "__class__" = some (some (.builtin "object.__class__")))
    (hm_NoEntry : PySem.W.mroIn K C_NoEntry (.type "object") = some true)
    (hg_NoMove : PySem.W.findIn K (.ref C_NoMove) "__getattribute__" = some (some (.builtin "BaseException.__getattribute__")))
    (gg_NoMove : PySem.W.findIn K (.ref C_NoMove) "__getattr__" = some none)
    (xs_NoMove : PySem.W.subIn K (.ref C_NoMove) (.type "BaseException") = some true)
    (hd_NoMove : PySem.W.hasDictIn K C_NoMove = true)
    (ha_NoMove : PySem.W.findIn K (.ref C_NoMove) "__class__" = some (some (.builtin "object.__class__")))
    (hm_NoMove : PySem.W.mroIn K C_NoMove (.type "object") = some true)
    (ic_NoEntry : PySem.W.isClsIn K C_NoEntry = true)
    (ss_NoEntry : PySem.W.subIn K (.ref C_NoEntry) (.ref C_NoEntry) = some true)
    (sb_YardError_NoEntry : PySem.W.subIn K (.ref C_YardError) (.ref C_NoEntry) = some false)
    (sb_NoPlaces_NoEntry : PySem.W.subIn K (.ref C_NoPlaces) (.ref C_NoEntry) = some false)
    (sb_TooMany_NoEntry : PySem.W.subIn K (.ref C_TooMany) (.ref C_NoEntry) = some false)
    (sb_NoRoad_NoEntry : PySem.W.subIn K (.ref C_NoRoad) (.ref C_NoEntry) = some false)
    (sb_NoEntry_NoEntry : PySem.W.subIn K (.ref C_NoEntry) (.ref C_NoEntry) = some true)
    (sb_NoMove_NoEntry : PySem.W.subIn K (.ref C_NoMove) (.ref C_NoEntry) = some false)
    (xy_NoMove : PySem.W.typeIn K (.ref C_NoMove) = some (.type "type"))
    (ic_NoMove : PySem.W.isClsIn K C_NoMove = true)
    (ss_NoMove : PySem.W.subIn K (.ref C_NoMove) (.ref C_NoMove) = some true)
    (sb_YardError_NoMove : PySem.W.subIn K (.ref C_YardError) (.ref C_NoMove) = some false)
    (sb_NoPlaces_NoMove : PySem.W.subIn K (.ref C_NoPlaces) (.ref C_NoMove) = some false)
    (sb_TooMany_NoMove : PySem.W.subIn K (.ref C_TooMany) (.ref C_NoMove) = some false)
    (sb_NoRoad_NoMove : PySem.W.subIn K (.ref C_NoRoad) (.ref C_NoMove) = some false)
    (sb_NoEntry_NoMove : PySem.W.subIn K (.ref C_NoEntry) (.ref C_NoMove) = some false)
    (sb_NoMove_NoMove : PySem.W.subIn K (.ref C_NoMove) (.ref C_NoMove) = some true)
    (ic_NoRoad : PySem.W.isClsIn K C_NoRoad = true)
    (ss_NoRoad : PySem.W.subIn K (.ref C_NoRoad) (.ref C_NoRoad) = some true)
    (sb_YardError_NoRoad : PySem.W.subIn K (.ref C_YardError) (.ref C_NoRoad) = some false)
    (sb_NoPlaces_NoRoad : PySem.W.subIn K (.ref C_NoPlaces) (.ref C_NoRoad) = some false)
    (sb_TooMany_NoRoad : PySem.W.subIn K (.ref C_TooMany) (.ref C_NoRoad) = some false)
    (sb_NoRoad_NoRoad : PySem.W.subIn K (.ref C_NoRoad) (.ref C_NoRoad) = some true)
    (sb_NoEntry_NoRoad : PySem.W.subIn K (.ref C_NoEntry) (.ref C_NoRoad) = some false)
    (sb_NoMove_NoRoad : PySem.W.subIn K (.ref C_NoMove) (.ref C_NoRoad) = some false)
    (rd_Table : PySem.W.readsIn K C_Table (.type "type") = true)
    (gt_Table : PySem.W.specialIn K (.ref C_Table) "__getattribute__" = some (some (.builtin "type.__getattribute__")))
    (cv_Table_init : PySem.W.findCls K (.ref C_Table) (.type "type") "__init__" = some (.val (.ref f_Table_init)))
    (hw : Holds (ofF F_law)) :
    ∃ fd : FuncData, (∀ (s : Shared) (v : Value), BindsTo s fd ⟨[v], []⟩ [("_law_script", v)]) ∧ ∀ base : Heap, K.In base → base.Ns mainGlobals mg → FnOk l.prog w K mg base (L2.CX l.prog w) 6 fa fd ["_law_script"] (spLawB K) := by
  have e := hfa.symm.trans (PySem.W.mg_of X G a_law)
  cases e
  have F_NoRoad_init := fun_mk (st := s_NoRoad_init) l_NoRoad_init cd_is_NoRoad_init k_NoRoad_init
  have b_NoRoad_init := F_NoRoad_init.binds (ps := ["self", "lane"]) fun _ _ _ _ _ _ us hl => match us, hl with | [_, _], _ => rfl
  have F_TooMany_init := fun_mk (st := s_TooMany_init) l_TooMany_init cd_is_TooMany_init k_TooMany_init
  have b_TooMany_init := F_TooMany_init.binds (ps := ["self", "many"]) fun _ _ _ _ _ _ us hl => match us, hl with | [_, _], _ => rfl
  have F_Land_init := fun_mk (st := s_Land_init) l_Land_init cd_is_Land_init k_Land_init
  have b_Land_init := F_Land_init.binds (ps := ["self", "places", "lanes"]) fun _ _ _ _ _ _ us hl => match us, hl with | [_, _, _], _ => rfl
  have F_Table_init := fun_mk (st := s_Table_init) l_Table_init cd_is_Table_init k_Table_init
  have b_Table_init := F_Table_init.binds (ps := ["self", "land"]) fun _ _ _ _ _ _ us hl => match us, hl with | [_, _], _ => rfl
  have F_NoEntry_init := fun_mk (st := s_NoEntry_init) l_NoEntry_init cd_is_NoEntry_init k_NoEntry_init
  have b_NoEntry_init := F_NoEntry_init.binds (ps := ["self", "row"]) fun _ _ _ _ _ _ us hl => match us, hl with | [_, _], _ => rfl
  have F_Land_into := fun_mk (st := s_Land_into) l_Land_into cd_is_Land_into k_Land_into
  have b_Land_into := F_Land_into.binds (ps := ["self", "place"]) fun _ _ _ _ _ _ us hl => match us, hl with | [_, _], _ => rfl
  have F_Land_out_of := fun_mk (st := s_Land_out_of) l_Land_out_of cd_is_Land_out_of k_Land_out_of
  have b_Land_out_of := F_Land_out_of.binds (ps := ["self", "place"]) fun _ _ _ _ _ _ us hl => match us, hl with | [_, _], _ => rfl
  have F_Told_is_good := fun_mk (st := s_Told_is_good) l_Told_is_good cd_is_Told_is_good k_Told_is_good
  have b_Told_is_good := F_Told_is_good.binds (ps := ["self", "place", "goal", "came", "lanes"]) fun _ _ _ _ _ _ us hl => match us, hl with | [_, _, _, _, _], _ => rfl
  have F_Told_init := fun_mk (st := s_Told_init) l_Told_init cd_is_Told_init k_Told_init
  have b_Told_init := F_Told_init.binds (ps := ["self", "land", "rows"]) fun _ _ _ _ _ _ us hl => match us, hl with | [_, _, _], _ => rfl
  have F_is_bad := fun_mk (st := s_is_bad) l_is_bad cd_is_is_bad k_is_bad
  have b_is_bad := F_is_bad.binds (ps := ["_law_row_here", "_law_ahead", "_law_places", "_law_lanes"]) fun _ _ _ _ _ _ us hl => match us, hl with | [_, _, _, _], _ => rfl
  have F_first_bad := fun_mk (st := s_first_bad) l_first_bad cd_is_first_bad k_first_bad
  have b_first_bad := F_first_bad.binds (ps := ["_law_rows_here", "_law_places", "_law_lanes"]) fun _ _ _ _ _ _ us hl => match us, hl with | [_, _, _], _ => rfl
  have F_draw := fun_mk (st := s_draw) l_draw cd_is_draw k_draw
  have b_draw := F_draw.binds (ps := ["_law_script", "_law_k"]) fun _ _ _ _ _ _ us hl => match us, hl with | [_, _], _ => rfl
  have F_land := fun_mk (st := s_land) l_land cd_is_land k_land
  have b_land := F_land.binds (ps := ["_law_script"]) fun _ _ _ _ _ _ us hl => match us, hl with | [_], _ => rfl
  have F_refused := fun_mk (st := s_refused) l_refused cd_is_refused k_refused
  have b_refused := F_refused.binds (ps := ["_law_land_here", "_law_rows_here"]) fun _ _ _ _ _ _ us hl => match us, hl with | [_, _], _ => rfl
  have F_Table_ways := fun_mk (st := s_Table_ways) l_Table_ways cd_is_Table_ways k_Table_ways
  have b_Table_ways := F_Table_ways.binds (ps := ["self", "place", "goal", "came"]) fun _ _ _ _ _ _ us hl => match us, hl with | [_, _, _, _], _ => rfl
  have F_Told_ways := fun_mk (st := s_Told_ways) l_Told_ways cd_is_Told_ways k_Told_ways
  have b_Told_ways := F_Told_ways.binds (ps := ["self", "place", "goal", "came"]) fun _ _ _ _ _ _ us hl => match us, hl with | [_, _, _, _], _ => rfl
  have F_right := fun_mk (st := s_right) l_right cd_is_right k_right
  have b_right := F_right.binds (ps := ["_law_table", "_law_rows_here", "_law_places", "_law_lanes"]) fun _ _ _ _ _ _ us hl => match us, hl with | [_, _, _, _], _ => rfl
  have F_row := fun_mk (st := s_row) l_row cd_is_row k_row
  have b_row := F_row.binds (ps := ["_law_places", "_law_lanes", "_law_draw_here", "_law_other"]) fun _ _ _ _ _ _ us hl => match us, hl with | [_, _, _, _], _ => rfl
  have F_spoiled := fun_mk (st := s_spoiled) l_spoiled cd_is_spoiled k_spoiled
  have b_spoiled := F_spoiled.binds (ps := ["_law_row_here", "_law_rows_here", "_law_places", "_law_lanes", "_law_draw_here"]) fun _ _ _ _ _ _ us hl => match us, hl with | [_, _, _, _, _], _ => rfl
  have F_rows := fun_mk (st := s_rows) l_rows cd_is_rows k_rows
  have b_rows := F_rows.binds (ps := ["_law_script", "_law_places", "_law_lanes"]) fun _ _ _ _ _ _ us hl => match us, hl with | [_, _, _], _ => rfl
  have F_law := fun_mk (st := s_law) l_law cd_is_law k_law
  have b_law := F_law.binds (ps := ["_law_script"]) fun _ _ _ _ _ _ us hl => match us, hl with | [_], _ => rfl
  have T : Txt K mg ⟨C_Table, C_Told, C_Land, C_YardError, C_NoPlaces, C_TooMany, C_NoRoad, C_NoEntry, C_NoMove, f_NoRoad_init, f_TooMany_init, f_Land_init, f_Table_init, f_NoEntry_init, f_Land_into, f_Land_out_of, f_Told_is_good, f_Told_init, f_is_bad, f_first_bad, f_draw, f_land, f_refused, f_Table_ways, f_Told_ways, f_right, f_row, f_spoiled, f_rows, fa⟩ := {
    c_Table := ⟨pg_Table, hd_Table, po_Table, sa_Table⟩,
    c_Told := ⟨pg_Told, hd_Told, po_Told, sa_Told⟩,
    c_Land := ⟨pg_Land, hd_Land, po_Land, sa_Land⟩,
    f_NoRoad_init := ⟨_, F_NoRoad_init, b_NoRoad_init⟩,
    f_TooMany_init := ⟨_, F_TooMany_init, b_TooMany_init⟩,
    f_Land_init := ⟨_, F_Land_init, b_Land_init⟩,
    f_Table_init := ⟨_, F_Table_init, b_Table_init⟩,
    f_NoEntry_init := ⟨_, F_NoEntry_init, b_NoEntry_init⟩,
    f_Land_into := ⟨_, F_Land_into, b_Land_into⟩,
    f_Land_out_of := ⟨_, F_Land_out_of, b_Land_out_of⟩,
    f_Told_is_good := ⟨_, F_Told_is_good, b_Told_is_good⟩,
    f_Told_init := ⟨_, F_Told_init, b_Told_init⟩,
    f_is_bad := ⟨_, F_is_bad, b_is_bad⟩,
    f_first_bad := ⟨_, F_first_bad, b_first_bad⟩,
    f_draw := ⟨_, F_draw, b_draw⟩,
    f_land := ⟨_, F_land, b_land⟩,
    f_refused := ⟨_, F_refused, b_refused⟩,
    f_Table_ways := ⟨_, F_Table_ways, b_Table_ways⟩,
    f_Told_ways := ⟨_, F_Told_ways, b_Told_ways⟩,
    f_right := ⟨_, F_right, b_right⟩,
    f_row := ⟨_, F_row, b_row⟩,
    f_spoiled := ⟨_, F_spoiled, b_spoiled⟩,
    f_rows := ⟨_, F_rows, b_rows⟩,
    g_Land := PySem.W.mg_of X G aC_Land,
    g_NoEntry := PySem.W.mg_of X G aC_NoEntry,
    g_NoMove := PySem.W.mg_of X G aC_NoMove,
    g_NoPlaces := PySem.W.mg_of X G aC_NoPlaces,
    g_NoRoad := PySem.W.mg_of X G aC_NoRoad,
    g_Table := PySem.W.mg_of X G aC_Table,
    g_Told := PySem.W.mg_of X G aC_Told,
    g_TooMany := PySem.W.mg_of X G aC_TooMany,
    g_YardError := PySem.W.mg_of X G aC_YardError,
    g__law_draw := PySem.W.mg_of X G a_draw,
    g__law_first_bad := PySem.W.mg_of X G a_first_bad,
    g__law_is_bad := PySem.W.mg_of X G a_is_bad,
    g__law_land := PySem.W.mg_of X G a_land,
    g__law_refused := PySem.W.mg_of X G a_refused,
    g__law_right := PySem.W.mg_of X G a_right,
    g__law_row := PySem.W.mg_of X G a_row,
    g__law_rows := PySem.W.mg_of X G a_rows,
    g__law_spoiled := PySem.W.mg_of X G a_spoiled,
    b_enumerate := PySem.W.mg_none_of X G z_enumerate,
    b_isinstance := PySem.W.mg_none_of X G z_isinstance,
    b_len := PySem.W.mg_none_of X G z_len,
    b_list := PySem.W.mg_none_of X G z_list,
    b_max := PySem.W.mg_none_of X G z_max,
    b_min := PySem.W.mg_none_of X G z_min,
    b_range := PySem.W.mg_none_of X G z_range,
    b_set := PySem.W.mg_none_of X G z_set,
    b_sorted := PySem.W.mg_none_of X G z_sorted,
    b_tuple := PySem.W.mg_none_of X G z_tuple,
    n_Told_known := n_Told_known,
    n_Table_land := n_Table_land,
    n_Told_land := n_Told_land,
    n_Land_lanes := n_Land_lanes,
    n_Land_places := n_Land_places,
    m_Land_into := ⟨a_Land_into, i_Land_into, k_Land_into⟩,
    m_Told_is_good := ⟨a_Told_is_good, i_Told_is_good, k_Told_is_good⟩,
    m_Land_out_of := ⟨a_Land_out_of, i_Land_out_of, k_Land_out_of⟩,
    m_Table_ways := ⟨a_Table_ways, i_Table_ways, k_Table_ways⟩,
    m_Told_ways := ⟨a_Told_ways, i_Told_ways, k_Told_ways⟩,
    k_Land := ⟨mk_Land, a_Land_init, i_Land_init, kc_Land⟩,
    k_Table := ⟨mk_Table, a_Table_init, i_Table_init, kc_Table⟩,
    k_Told := ⟨mk_Told, a_Told_init, i_Told_init, kc_Told⟩,
    x_NoPlaces := ⟨PySem.W.mg_of X G aC_NoPlaces, xe_NoPlaces, kc_NoPlaces, xs_NoPlaces, xy_NoPlaces⟩,
    em_YardError_YardError := exm_ref xs_YardError ic_YardError xy_YardError sb_YardError_YardError,
    em_YardError_NoPlaces := exm_ref xs_YardError ic_YardError xy_YardError sb_NoPlaces_YardError,
    em_YardError_TooMany := exm_ref xs_YardError ic_YardError xy_YardError sb_TooMany_YardError,
    em_YardError_NoRoad := exm_ref xs_YardError ic_YardError xy_YardError sb_NoRoad_YardError,
    em_YardError_NoEntry := exm_ref xs_YardError ic_YardError xy_YardError sb_NoEntry_YardError,
    em_YardError_NoMove := exm_ref xs_YardError ic_YardError xy_YardError sb_NoMove_YardError,
    o_NoEntry := ⟨⟨nm_NoEntry, q_NoEntry, N_NoEntry, bs_NoEntry, _, sn_NoEntry, sub_NoEntry, ab_NoEntry, col_NoEntry, dd_NoEntry, m0_NoEntry, m1_NoEntry, m2_NoEntry, m3_NoEntry, m5_NoEntry, xl_NoEntry, rfl⟩, sa_NoEntry, xs_NoEntry, xy_NoEntry, kc_NoEntry⟩,
    xi_NoEntry := a_NoEntry_init,
    xt_NoEntry := xt_NoEntry,
    no_NoEntry_row := no_NoEntry_row,
    o_NoRoad := ⟨⟨nm_NoRoad, q_NoRoad, N_NoRoad, bs_NoRoad, _, sn_NoRoad, sub_NoRoad, ab_NoRoad, col_NoRoad, dd_NoRoad, m0_NoRoad, m1_NoRoad, m2_NoRoad, m3_NoRoad, m5_NoRoad, xl_NoRoad, rfl⟩, sa_NoRoad, xs_NoRoad, xy_NoRoad, kc_NoRoad⟩,
    xi_NoRoad := a_NoRoad_init,
    xt_NoRoad := xt_NoRoad,
    no_NoRoad_lane := no_NoRoad_lane,
    o_TooMany := ⟨⟨nm_TooMany, q_TooMany, N_TooMany, bs_TooMany, _, sn_TooMany, sub_TooMany, ab_TooMany, col_TooMany, dd_TooMany, m0_TooMany, m1_TooMany, m2_TooMany, m3_TooMany, m5_TooMany, xl_TooMany, rfl⟩, sa_TooMany, xs_TooMany, xy_TooMany, kc_TooMany⟩,
    xi_TooMany := a_TooMany_init,
    xt_TooMany := xt_TooMany,
    no_TooMany_many := no_TooMany_many,
    xf_NoEntry := ⟨hg_NoEntry, gg_NoEntry, xs_NoEntry, hd_NoEntry⟩,
    ec_YardError := ⟨hg_YardError, gg_YardError, xs_YardError, hd_YardError, ha_YardError, oc_get, oc_tk, hm_YardError⟩,
    ec_NoPlaces := ⟨hg_NoPlaces, gg_NoPlaces, xs_NoPlaces, hd_NoPlaces, ha_NoPlaces, oc_get, oc_tk, hm_NoPlaces⟩,
    ec_TooMany := ⟨hg_TooMany, gg_TooMany, xs_TooMany, hd_TooMany, ha_TooMany, oc_get, oc_tk, hm_TooMany⟩,
    ec_NoRoad := ⟨hg_NoRoad, gg_NoRoad, xs_NoRoad, hd_NoRoad, ha_NoRoad, oc_get, oc_tk, hm_NoRoad⟩,
    ec_NoEntry := ⟨hg_NoEntry, gg_NoEntry, xs_NoEntry, hd_NoEntry, ha_NoEntry, oc_get, oc_tk, hm_NoEntry⟩,
    ec_NoMove := ⟨hg_NoMove, gg_NoMove, xs_NoMove, hd_NoMove, ha_NoMove, oc_get, oc_tk, hm_NoMove⟩,
    kt_NoEntry_YardError := kit_ref ic_NoEntry xy_NoEntry ss_NoEntry sb_YardError_NoEntry,
    kt_NoEntry_NoPlaces := kit_ref ic_NoEntry xy_NoEntry ss_NoEntry sb_NoPlaces_NoEntry,
    kt_NoEntry_TooMany := kit_ref ic_NoEntry xy_NoEntry ss_NoEntry sb_TooMany_NoEntry,
    kt_NoEntry_NoRoad := kit_ref ic_NoEntry xy_NoEntry ss_NoEntry sb_NoRoad_NoEntry,
    kt_NoEntry_NoEntry := kit_ref ic_NoEntry xy_NoEntry ss_NoEntry sb_NoEntry_NoEntry,
    kt_NoEntry_NoMove := kit_ref ic_NoEntry xy_NoEntry ss_NoEntry sb_NoMove_NoEntry,
    kt_NoMove_YardError := kit_ref ic_NoMove xy_NoMove ss_NoMove sb_YardError_NoMove,
    kt_NoMove_NoPlaces := kit_ref ic_NoMove xy_NoMove ss_NoMove sb_NoPlaces_NoMove,
    kt_NoMove_TooMany := kit_ref ic_NoMove xy_NoMove ss_NoMove sb_TooMany_NoMove,
    kt_NoMove_NoRoad := kit_ref ic_NoMove xy_NoMove ss_NoMove sb_NoRoad_NoMove,
    kt_NoMove_NoEntry := kit_ref ic_NoMove xy_NoMove ss_NoMove sb_NoEntry_NoMove,
    kt_NoMove_NoMove := kit_ref ic_NoMove xy_NoMove ss_NoMove sb_NoMove_NoMove,
    kt_NoRoad_YardError := kit_ref ic_NoRoad xy_NoRoad ss_NoRoad sb_YardError_NoRoad,
    kt_NoRoad_NoPlaces := kit_ref ic_NoRoad xy_NoRoad ss_NoRoad sb_NoPlaces_NoRoad,
    kt_NoRoad_TooMany := kit_ref ic_NoRoad xy_NoRoad ss_NoRoad sb_TooMany_NoRoad,
    kt_NoRoad_NoRoad := kit_ref ic_NoRoad xy_NoRoad ss_NoRoad sb_NoRoad_NoRoad,
    kt_NoRoad_NoEntry := kit_ref ic_NoRoad xy_NoRoad ss_NoRoad sb_NoEntry_NoRoad,
    kt_NoRoad_NoMove := kit_ref ic_NoRoad xy_NoRoad ss_NoRoad sb_NoMove_NoRoad,
    cr_Table := ⟨rd_Table, gt_Table⟩,
    cv_Table_init := ⟨cv_Table_init, rfl⟩ }
  refine ⟨PySem.W.fnOf "law" "law" (defArgs s_law) (defBody s_law) (defScope s_law) .none kV_law dc_law pm_law an_law cd_law ct_law, fun s v => .of_eq rfl, fun base _ _ => ?_⟩
  exact law_fn hw (ok_law T F_law)
theorem walk (hw : Holds (ofF F_law)) {l : PySem.W.OpenLaw} {q : Program} {loose : List Str} {XP : (Str → Option Value) → Heap → Prop} {YP : World → Heap → Prop} {d : DefRec} {K : Params → PySem.W.Frag} (hn : l.most = some 63) (hdf : d.params.defaults = [])
    (hY : ∀ (w : World) (h : Heap), YP w h → (K w.params).In h)
    (F : ∀ (w : World) (mg : Str → Option Value) (fa : Addr) (h : Heap), (K w.params).In h → h.Ns mainGlobals mg → mg d.name = some (.ref fa) →
      ∃ fd : FuncData, (∀ (s : Shared) (u : Value), BindsTo s fd ⟨[u], []⟩ [("_law_script", u)]) ∧ ∀ base : Heap, (K w.params).In base → base.Ns mainGlobals mg → FnOk l.prog w (K w.params) mg base (L2.CX l.prog w) 6 fa fd ["_law_script"] (spLawB (K w.params))) :
    PySem.W.WalkO q loose XP YP l.row.toRowW d [] (fun f vs => PySem.call f vs) :=
  L2.walk_ofB (n := 63) (k := 6) (x := "_law_script") (CX := fun w => L2.CX l.prog w) (sp := fun w => spLawB (K w.params)) hn (by decide) hdf ⟨rfl, by decide, by decide⟩ hY F
    (fun _ _ a ns hl hb _ hS => ⟨a, ns, rfl, hS, hl, hb, fun _ => rfl⟩) fun w H s e s' z => cx_out _ w H s e s' z
end
end WY
namespace WY
open PySem PySem.Spec L2 TL
/-! numbers drawn of the script -/
def mixA (c : Int) (k : Nat) : Int := (c + 7919 * k + 1) * 48271 % 2147483647
def mixB (a : Int) : Int := a * (a / 1009 + 69621) % 2147483647
def mixC (b : Int) : Int := b * (b / 2003 + 40692) % 2147483399
def draw (ns : List Int) (k : Nat) : Int := if ns = [] then mixC (mixB (mixA 0 k)) else if cell ns 0 % 2 = 1 then (if 1 + k / 30 < ns.length then cell ns (1 + k / 30) / 2 ^ (32 * ((k : Int) % 30)).toNat else 0) % 4294967296 else mixC (mixB (mixA (cell ns (k % ns.length)) k))
theorem draw_lo (ns : List Int) (k : Nat) : 0 ≤ draw ns k := by
  unfold draw mixC
  split
  · omega
  · split <;> omega
theorem draw_hi (ns : List Int) (k : Nat) : draw ns k < 4294967296 := by
  unfold draw mixC
  split
  · omega
  · split <;> omega
theorem e_draw {ns : List Int} (hs : Scr ns) (k : Nat) (hk : k < 100000) (μ : Mu) : F_draw [Lint ns, .int k] μ = .ok (.d (.int (draw ns k))) μ := by
  have hm : ∀ c : Int, Builtin.Int.intBits c ≤ 1048576 → CMulX (c + 7919 * k + 1) 48271 := fun c hc => mulB (Nat.le_trans (bitsAdd (bitsAdd hc (bits64 (by omega))) (bits64 (by omega))) (by omega)) (Nat.le_trans (bits64 (by omega)) (by omega))
  have hm0 : CMulX (7919 * (k : Int) + 1) 48271 := mulX (by omega) (by omega)
  have m1 : CMulX 7919 (k : Int) := mulX (by omega) (by omega)
  have m2 : ∀ a : Int, 0 ≤ a → a < 2147483647 → CMulX a (a / 1009 + 69621) := fun a h1 h2 => mulX (by omega) (by omega)
  have m3 : ∀ a : Int, 0 ≤ a → a < 2147483647 → CMulX a (a / 2003 + 40692) := fun a h1 h2 => mulX (by omega) (by omega)
  have d1 : ∀ a : Int, CDivW a 1009 := fun a => divW (by omega) (by omega)
  have d2 : ∀ a : Int, CDivW a 2003 := fun a => divW (by omega) (by omega)
  have d3 : ∀ a : Int, CDivW a 30 := fun a => divW (by omega) (by omega)
  have m4 : CMulX 32 ((k : Int) % 30) := mulX (by omega) (by omega)
  have p1 : CPow 2 32 := ⟨by decide, by decide, by decide⟩
  cases ns with
  | nil =>
    simp [F_draw, runF_eq, draw, mixA, mixB, mixC]
    rw [if_pos m1, if_pos hm0, if_pos (d1 _), if_pos (m2 _ (by omega) (by omega)), if_pos (d2 _), if_pos (m3 _ (by omega) (by omega))]
  | cons n r =>
    have c0 : cell (n :: r) 0 = n := rfl
    by_cases ho : n % 2 = 1
    · by_cases hl : 1 + k / 30 < (n :: r).length
      · have e := atI_map (n :: r) (1 + k / 30) hl
        have hl' : 1 + (k : Int) / 30 < (r.length : Int) + 1 := by simp at hl; omega
        have hl2 : 1 + k / 30 < r.length + 1 := by simp at hl; omega
        have ek : ((1 + k / 30 : Nat) : Int) = 1 + (k : Int) / 30 := by omega
        rw [ek, List.map_cons] at e
        simp [F_draw, runF_eq, ho, d3, hl', e, m4, p1, draw, c0, hl2]
        omega
      · have hl' : ¬ 1 + (k : Int) / 30 < (r.length : Int) + 1 := by simp at hl; omega
        have hl2 : ¬ 1 + k / 30 < r.length + 1 := by simp at hl; omega
        simp [F_draw, runF_eq, ho, d3, hl', m4, p1, draw, c0, hl2]
        omega
    · have hn : k % (n :: r).length < (n :: r).length := Nat.mod_lt _ (by simp)
      have e := atI_map (n :: r) (k % (n :: r).length) hn
      have hc := hm _ (hs.cell (k % (n :: r).length))
      have ek : ((k % (n :: r).length : Nat) : Int) = (k : Int) % ((r.length : Int) + 1) := by simp
      rw [ek, List.map_cons] at e
      simp only [List.length_cons] at hc
      simp [F_draw, runF_eq, ho, draw, c0, mixA, mixB, mixC, e]
      rw [if_pos m1, if_pos hc, if_pos (d1 _), if_pos (m2 _ (by omega) (by omega)), if_pos (d2 _), if_pos (m3 _ (by omega) (by omega))]
end WY
namespace WY
open PySem PySem.Spec L2 TL
/-! lands -/
abbrev Prs := List (Int × Int)
abbrev Lprs (ls : Prs) : D := .lst (ls.map TL.prD)
def landD (n : Int) (ls : Prs) : D := .obj 0 [(0, .int n), (1, .tup (ls.map TL.prD))]
section
variable {n : Int} {ls : Prs} {μ : Mu} {sd : SD} {cs : List Nat} {f m : Nat}
@[simp] theorem clsOf_land : clsOf (.d (landD n ls)) μ = some (0, landD n ls) := rfl
@[simp] theorem vw_land : vw μ sd (.d (landD n ls)) = landD n ls := rfl
@[simp] theorem foFld_land : foFld cs f (.d (landD n ls)) μ = foFld cs f (.d (.obj 0 [(0, .int n), (1, .tup (ls.map TL.prD))])) μ := rfl
@[simp] theorem bel_land : below m (landD n ls) = true := by simp [landD]
end
def badL (n : Int) (p : Int × Int) : Prop := p.1 = p.2 ∨ p.1 < 0 ∨ p.2 < 0 ∨ n ≤ p.1 ∨ n ≤ p.2
instance (n : Int) (p : Int × Int) : Decidable (badL n p) := by unfold badL; infer_instance
/-- the first bad lane, from number k on -/
def fbL (n : Int) : Nat → Prs → Option Nat
  | _, [] => none
  | k, p :: r => if badL n p then some k else fbL n (k + 1) r
theorem land_body {n : Int} {p : Int × Int} {k : Nat} {x y : D} {a b c d : Option SV} {μ : Mu} : B1_Land_init [fz x, fI n, fz y, fI k, fz (TL.prD p), a, b] μ =
    if badL n p then .ex 23 [(29, .int k)] [fz x, fI n, fz y, fI k, fz (TL.prD p), fI p.1, fI p.2] μ else .nx [fz x, fI n, fz y, fI k, fz (TL.prD p), fI p.1, fI p.2] μ := by
  unfold badL
  simp [B1_Land_init]
  by_cases h1 : p.1 = p.2
  · simp [h1]
  by_cases h2 : p.1 < 0
  · simp [h1, h2]
  by_cases h3 : p.2 < 0
  · simp [h1, h2, h3]
  by_cases h4 : n ≤ p.1
  · simp [h1, h2, h3, h4]
  by_cases h5 : n ≤ p.2
  · simp [h1, h2, h3, h4, h5]
  simp [h1, h2, h3, h4, h5]
theorem land_loop {n : Int} {x y : D} {μ : Mu} {L : Lk} (hL : lkOk L μ) : ∀ {ls : Prs} {k : Nat} {e f a b : Option SV},
    (fbL n k ls = none ∧ ∃ e' f' a' b', forF L (.t [3, 4]) B1_Land_init ((ls.zipIdx k).map fun p => D.tup [.int (p.2 : Nat), TL.prD p.1]) [fz x, fI n, fz y, e, f, a, b] μ = .nx [fz x, fI n, fz y, e', f', a', b'] μ) ∨
    ∃ j sd, fbL n k ls = some j ∧ forF L (.t [3, 4]) B1_Land_init ((ls.zipIdx k).map fun p => D.tup [.int (p.2 : Nat), TL.prD p.1]) [fz x, fI n, fz y, e, f, a, b] μ = .ex 23 [(29, .int j)] sd μ
  | [], k, e, f, a, b => .inl ⟨rfl, e, f, a, b, forL_nil hL⟩
  | p :: r, k, e, f, a, b => by
    have ih := land_loop hL (n := n) (x := x) (y := y) (μ := μ) (ls := r) (k := k + 1) (e := fI k) (f := fz (TL.prD p)) (a := fI p.1) (b := fI p.2)
    have body := land_body (n := n) (p := p) (k := k) (x := x) (y := y) (a := a) (b := b) (c := none) (d := none) (μ := μ)
    have e0 : forF L (.t [3, 4]) B1_Land_init (((p :: r).zipIdx k).map fun p => D.tup [.int (p.2 : Nat), TL.prD p.1]) [fz x, fI n, fz y, e, f, a, b] μ =
        forK L (.t [3, 4]) B1_Land_init ((r.zipIdx (k + 1)).map fun p => D.tup [.int (p.2 : Nat), TL.prD p.1]) (B1_Land_init [fz x, fI n, fz y, fI k, fz (TL.prD p), a, b] μ) := by
      rw [List.zipIdx_cons, List.map_cons, forL_cons hL (by rfl)]
      rfl
    rw [e0, body]
    unfold fbL
    by_cases h : badL n p
    · rw [if_pos h, if_pos h]
      exact .inr ⟨k, _, rfl, rfl⟩
    · rw [if_neg h, if_neg h]
      exact ih
inductive LRes where
  | places | many (k : Nat) | lane (k : Nat) | good
def landR (n : Int) (ls : Prs) : LRes := if n < 1 ∨ 12 < n then .places else if 40 < ls.length then .many ls.length else match fbL n 0 ls with
  | some k => .lane k
  | none => .good
theorem e_Land {n : Int} {ls : Prs} {μ : Mu} {x : D} {L : Lk} (hx : IsL μ x (ls.map TL.prD) L) : mkF 0 2 F_Land_init [] [.int n, x] μ = match landR n ls with
    | .places => .ex 21 [] μ
    | .many k => .ex 22 [(28, .int k)] μ
    | .lane k => .ex 23 [(29, .int k)] μ
    | .good => .ok (.d (landD n ls)) μ := by
  have hx' := hx.app (t := [.ins 0 []])
  have hv := fun {sd fs} => (hx.app (t := [.ins 0 fs])).vw (sd := sd)
  have hi := hx'.it
  have he := fun {p μ'} => hx'.en (p := p) (μ' := μ')
  unfold landR
  by_cases h : n < 1 ∨ 12 < n
  · rw [if_pos h]
    refine mkF_ex (t := [.ins 0 []]) ?_ rfl
    rcases h with h | h
    · simp [F_Land_init, runF_eq, h]
    · by_cases h2 : n < 1 <;> simp [F_Land_init, runF_eq, h, h2]
  · rw [if_neg h]
    have h1 : ¬ n < 1 := fun z => h (.inl z)
    have h2 : ¬ 12 < n := fun z => h (.inr z)
    by_cases h3 : 40 < ls.length
    · rw [if_pos h3]
      refine mkF_ex (t := [.ins 0 []]) ?_ (by simp)
      have h3' : (40 : Int) < ls.length := by omega
      simp [F_Land_init, runF_eq, h1, h2, h3', hv]
    · rw [if_neg h3]
      have h3' : ¬ (40 : Int) < ls.length := by omega
      rcases land_loop hx'.lk (n := n) (x := .ref μ.length) (y := x) (ls := ls) (k := 0) (e := none) (f := none) (a := none) (b := none) with ⟨h4, e, f, a, b, h5⟩ | ⟨j, sd, h4, h5⟩
      · rw [h4]
        refine mkF_ok ?_ (by simp)
        simp [F_Land_init, runF_eq, h1, h2, h3', enumD_map, hv, hi, he, h5]
      · rw [h4]
        refine mkF_ex (t := [.ins 0 []]) ?_ (by simp)
        simp [F_Land_init, runF_eq, h1, h2, h3', enumD_map, hv, hi, he, h5]
theorem fbL_none {n : Int} : ∀ {ls : Prs} {k : Nat}, (∀ p ∈ ls, ¬ badL n p) → fbL n k ls = none
  | [], _, _ => rfl
  | p :: r, k, h => by
    unfold fbL
    rw [if_neg (h p (by simp))]
    exact fbL_none fun q hq => h q (by simp [hq])
/-- a land that there is -/
structure Ld (n : Int) (ls : Prs) : Prop where
  hn : 1 ≤ n ∧ n ≤ 12
  len : ls.length ≤ 40
  ok : ∀ p ∈ ls, ¬ badL n p
theorem Ld.good {n : Int} {ls : Prs} (h : Ld n ls) : landR n ls = .good := by
  obtain ⟨h1, h2, h3⟩ := h
  unfold landR
  rw [if_neg (by omega), if_neg (by omega), fbL_none h3]
theorem Ld.make {n : Int} {ls : Prs} (h : Ld n ls) {μ : Mu} {x : D} {L : Lk} (hx : IsL μ x (ls.map TL.prD) L) : mkF 0 2 F_Land_init [] [.int n, x] μ = .ok (.d (landD n ls)) μ := by
  rw [e_Land hx, h.good]
theorem Ld.at {n : Int} {ls : Prs} (h : Ld n ls) {p : Int × Int} (hp : p ∈ ls) : (0 ≤ p.1 ∧ p.1 < n) ∧ (0 ≤ p.2 ∧ p.2 < n) ∧ p.1 ≠ p.2 := by
  have := h.ok p hp
  unfold badL at this
  omega
end WY
namespace WY
open PySem PySem.Spec L2 TL

/-- the lanes by their outs -/
def outL (ls : Prs) (p : Int) : List Int := ((List.range ls.length).filter fun k => decide ((ls.getD k (0, 0)).1 = p)).map fun k : Nat => (k : Int)
theorem mem_outL {ls : Prs} {p x : Int} : x ∈ outL ls p ↔ 0 ≤ x ∧ x.toNat < ls.length ∧ (ls.getD x.toNat (0, 0)).1 = p := by
  unfold outL
  simp only [List.mem_map, List.mem_filter, List.mem_range, decide_eq_true_eq]
  constructor
  · rintro ⟨k, ⟨h1, h2⟩, rfl⟩
    exact ⟨by omega, by simpa using h1, by simpa using h2⟩
  · rintro ⟨h0, h1, h2⟩
    exact ⟨x.toNat, ⟨h1, h2⟩, by omega⟩
theorem e_out_of {n : Int} {ls : Prs} {p : Int} (hl : ls.length < 1000) {μ : Mu} : F_Land_out_of [landD n ls, .int p] μ = .ok (.new (Lint (outL ls p))) μ := by
  have b1 : ls.length < 1000000000000 := by omega
  have hl2 : ls.length ≤ 16777216 := by omega
  have h := lcF_rng (tg := .n 2) (T := CT1_Land_out_of) (A := CE1_Land_out_of) (sd := [fz (landD n ls), fI p, none]) (μ := μ) (n := ls.length) (fun k => decide ((ls.getD k (0, 0)).1 = p)) (fun k => .int k) (by
    intro k hk
    have e := at_map (f := TL.prD) hk
    refine ⟨[fz (landD n ls), fI p, fI k], rfl, ?_, fun _ => ⟨.d (.int k), by simp [CE1_Land_out_of], rfl⟩⟩
    simp [CT1_Land_out_of, landD, e, hk])
  simp [landD] at h
  simp [F_Land_out_of, runF_eq, landD, rg1_nat b1, hl2, rngD_len, h, outL, Function.comp_def]
end WY
namespace WY
open PySem PySem.Spec L2 TL

/-- the lanes by their intos -/
def intoL (ls : Prs) (p : Int) : List Int := ((List.range ls.length).filter fun k => decide ((ls.getD k (0, 0)).2 = p)).map fun k : Nat => (k : Int)
theorem mem_intoL {ls : Prs} {p x : Int} : x ∈ intoL ls p ↔ 0 ≤ x ∧ x.toNat < ls.length ∧ (ls.getD x.toNat (0, 0)).2 = p := by
  unfold intoL
  simp only [List.mem_map, List.mem_filter, List.mem_range, decide_eq_true_eq]
  constructor
  · rintro ⟨k, ⟨h1, h2⟩, rfl⟩
    exact ⟨by omega, by simpa using h1, by simpa using h2⟩
  · rintro ⟨h0, h1, h2⟩
    exact ⟨x.toNat, ⟨h1, h2⟩, by omega⟩
theorem e_into {n : Int} {ls : Prs} {p : Int} (hl : ls.length < 1000) {μ : Mu} : F_Land_into [landD n ls, .int p] μ = .ok (.new (Lint (intoL ls p))) μ := by
  have b1 : ls.length < 1000000000000 := by omega
  have hl2 : ls.length ≤ 16777216 := by omega
  have h := lcF_rng (tg := .n 2) (T := CT1_Land_into) (A := CE1_Land_into) (sd := [fz (landD n ls), fI p, none]) (μ := μ) (n := ls.length) (fun k => decide ((ls.getD k (0, 0)).2 = p)) (fun k => .int k) (by
    intro k hk
    have e := at_map (f := TL.prD) hk
    refine ⟨[fz (landD n ls), fI p, fI k], rfl, ?_, fun _ => ⟨.d (.int k), by simp [CE1_Land_into], rfl⟩⟩
    simp [CT1_Land_into, landD, e, hk])
  simp [landD] at h
  simp [F_Land_into, runF_eq, landD, rg1_nat b1, hl2, rngD_len, h, intoL, Function.comp_def]
end WY
namespace WY
open PySem PySem.Spec L2 TL
/-! a table, whatever its kind: its ways are W -/
abbrev Wy := Int → Int → Option Int → List Int
structure IsTab (T : D) (n : Int) (ls : Prs) (W : Wy) : Prop where
  cls : ∃ c, mc_ways.elem c = true ∧ (∀ μ, clsOf (.d T) μ = some (c, T)) ∧ ∀ p g o μ, 0 ≤ p ∧ p < n → 0 ≤ g ∧ g < n → d_ways c [T, .int p, .int g, oD o] μ = .ok (.new (Lint (W p g o))) μ
  fld : ∀ μ, foFld fc_land 2 (.d T) μ = some (.d (landD n ls))
  vw : ∀ μ sd, vw μ sd (.d T) = T
end WY
namespace WY
open PySem PySem.Spec L2 TL
/-! tables told by rows -/
structure Row where
  p : Int
  g : Int
  c : Option Int
  ws : List Int
def rowD (r : Row) : D := .tup [.int r.p, .int r.g, oD r.c, Lint r.ws]
def oK : Option Int → NestedKey
  | none => .none
  | some i => .num i
def key3 (p g : Int) (c : Option Int) : NestedKey := .tup [.num p, .num g, oK c]
def keyR (r : Row) : NestedKey := key3 r.p r.g r.c
theorem oK_inj {a b : Option Int} : oK a = oK b ↔ a = b := by cases a <;> cases b <;> simp [oK]
theorem key3_inj {p g p' g' : Int} {c c' : Option Int} : key3 p g c = key3 p' g' c' ↔ p = p' ∧ g = g' ∧ c = c' := by
  simp [key3, oK_inj]
@[simp] theorem dKey_3 {p g : Int} {c : Option Int} : dKey true (.tup [.int p, .int g, oD c]) = some (key3 p g c) := by
  cases c with
  | none => rfl
  | some i => rfl
def kvs (rs : List Row) : List (NestedKey × D) := rs.map fun r => (keyR r, Lint (sortD r.ws))
def toldD (n : Int) (ls : Prs) (rs : List Row) : D := .obj 2 [(2, landD n ls), (3, .dic true (kvs rs))]
def atR (rs : List Row) (p g : Int) (c : Option Int) : Option Row := rs.find? fun r => decide (r.p = p ∧ r.g = g ∧ r.c = c)
def toldW (rs : List Row) (p g : Int) (c : Option Int) : List Int := match atR rs p g c with
  | some r => sortD r.ws
  | none => []
theorem dlook_kvs {p g : Int} {c : Option Int} : ∀ {rs : List Row}, dlook (key3 p g c) (kvs rs) = (atR rs p g c).map fun r => Lint (sortD r.ws)
  | [] => rfl
  | r :: rs => by
    have ih := dlook_kvs (p := p) (g := g) (c := c) (rs := rs)
    show dlook (key3 p g c) ((keyR r, Lint (sortD r.ws)) :: kvs rs) = _
    rw [dlook]
    unfold atR keyR
    rw [List.find?_cons]
    by_cases h : r.p = p ∧ r.g = g ∧ r.c = c
    · rw [if_pos (key3_inj.mpr h), decide_eq_true h]
      rfl
    · rw [if_neg (fun z => h (key3_inj.mp z)), decide_eq_false h]
      exact ih
section
variable {n : Int} {ls : Prs} {rs : List Row} {μ : Mu} {sd : SD} {cs : List Nat} {f m : Nat}
@[simp] theorem clsOf_told : clsOf (.d (toldD n ls rs)) μ = some (2, toldD n ls rs) := rfl
@[simp] theorem vw_told : vw μ sd (.d (toldD n ls rs)) = toldD n ls rs := rfl
@[simp] theorem foFld_told : foFld cs f (.d (toldD n ls rs)) μ = foFld cs f (.d (.obj 2 [(2, landD n ls), (3, .dic true (kvs rs))])) μ := rfl
theorem belK_kvs : belowK m (kvs rs) = true := by
  unfold kvs
  induction rs with
  | nil => simp
  | cons r rs ih => simp [ih]
@[simp] theorem bel_told : below m (toldD n ls rs) = true := by simp [toldD, belK_kvs]
theorem e_told_ways {p g : Int} {c : Option Int} : F_Told_ways [toldD n ls rs, .int p, .int g, oD c] μ = .ok (.new (Lint (toldW rs p g c))) μ := by
  have h := dlook_kvs (p := p) (g := g) (c := c) (rs := rs)
  unfold toldW
  cases q : atR rs p g c with
  | none =>
    rw [q] at h
    simp [F_Told_ways, runF_eq, h]
  | some r =>
    rw [q] at h
    simp [F_Told_ways, runF_eq, h]
end
/-- a row that fits the land -/
structure GoodR (n : Int) (ls : Prs) (r : Row) : Prop where
  p : 0 ≤ r.p ∧ r.p < n
  g : 0 ≤ r.g ∧ r.g < n
  ne : r.p ≠ r.g
  c : ∀ i, r.c = some i → i ∈ intoL ls r.p
  w : ∀ w ∈ r.ws, w ∈ outL ls r.p
  few : r.ws.length < 4000 ∧ (sortD r.ws).length < 64
theorem e_is_good {n : Int} {ls : Prs} {r : Row} {a : Nat} {fs : List (Nat × D)} {μ : Mu} (hl : ls.length < 1000) (h : GoodR n ls r) (ha : μ[a]? = some (.ins 2 fs)) (hf : fs.lookup 2 = some (landD n ls)) :
    F_Told_is_good [.ref a, .int r.p, .int r.g, oD r.c, Lint r.ws] μ = .ok (.d (.bl true)) μ := by
  obtain ⟨hp, hg, hne, hc, hw, hfew⟩ := h
  have h2 : fc_land.elem 2 = true := by decide
  have hb : ∀ x : Int, 0 ≤ x ∧ x < n → ∀ {b c d e f g : Option SV}, B1_Told_is_good [fz (.ref a), b, c, d, e, fI x, f, g] μ = .nx [fz (.ref a), b, c, d, e, fI x, f, g] μ := by
    intro x hx b c d e f g
    have q1 : ¬ x < 0 := by omega
    have q2 : ¬ n ≤ x := by omega
    simp [B1_Told_is_good, ha, hf, h2, q1, q2]
  have el : ∀ {b c d e g h : Option SV}, forF none (.n 5) B1_Told_is_good [.int r.p, .int r.g] [fz (.ref a), b, c, d, e, none, g, h] μ = .nx [fz (.ref a), b, c, d, e, fI r.g, g, h] μ := for_nx (hb r.p hp) (for_nx (hb r.g hg) forF_nil)
  have eo := fun μ => e_out_of (n := n) (ls := ls) (p := r.p) hl (μ := μ)
  have ei := fun μ => e_into (n := n) (ls := ls) (p := r.p) hl (μ := μ)
  have e3 : lcF none (.n 7) CT1_Told_is_good CE1_Told_is_good [fz (.ref a), fI r.p, fI r.g, fz (oD r.c), fz (Lint r.ws), fI r.g, fz (Lint (outL ls r.p)), none] (r.ws.map D.int) [] μ = .ok (.new (.lst [])) μ := by
    rw [lcF_fil (fun _ => false) D.int (by
      intro x hx
      refine ⟨[fz (.ref a), fI r.p, fI r.g, fz (oD r.c), fz (Lint r.ws), fI r.g, fz (Lint (outL ls r.p)), fI x], rfl, ?_, fun z => by cases z⟩
      simp [CT1_Told_is_good, hw x hx])]
    simp
  have hlen : r.ws.length ≤ 16777216 := by omega
  cases hc' : r.c with
  | none =>
    rw [hc'] at e3
    simp at e3
    simp [F_Told_is_good, runF_eq, el, hne, ha, hf, h2, d_out_of, eo, hlen, e3]
  | some i =>
    have hi := hc i hc'
    rw [hc'] at e3
    simp at e3
    simp [F_Told_is_good, runF_eq, el, hne, ha, hf, h2, d_out_of, d_into, eo, ei, hlen, e3, hi]
theorem told_loop {n : Int} {ls : Prs} {x y : Option SV} {μ : Mu} (hl : ls.length < 1000) : ∀ (rs es : List Row) (k : Nat) (d3 d4 d5 d6 d7 d8 : Option SV), (∀ r ∈ rs, GoodR n ls r) → ((es ++ rs).map keyR).Nodup → es.length + rs.length < 1000000 →
    ∃ d3' d4' d5' d6' d7' d8', forF none (.t [3, 4]) B1_Told_init ((rs.zipIdx k).map fun q => D.tup [.int (q.2 : Nat), rowD q.1]) [fz (.ref μ.length), x, y, d3, d4, d5, d6, d7, d8] (μ ++ [.ins 2 [(2, landD n ls), (3, .ref (μ.length + 1))], .box (.dic true (kvs es))]) =
      .nx [fz (.ref μ.length), x, y, d3', d4', d5', d6', d7', d8'] (μ ++ [.ins 2 [(2, landD n ls), (3, .ref (μ.length + 1))], .box (.dic true (kvs (es ++ rs)))])
  | [], es, k, d3, d4, d5, d6, d7, d8, _, _, _ => ⟨d3, d4, d5, d6, d7, d8, by rw [List.append_nil]; exact forF_nil⟩
  | r :: rs, es, k, d3, d4, d5, d6, d7, d8, hg, hk, hn => by
    have hr := hg r (by simp)
    have ha : (μ ++ [Nd.ins 2 [(2, landD n ls), (3, .ref (μ.length + 1))], .box (.dic true (kvs es))])[μ.length]? = some (.ins 2 [(2, landD n ls), (3, .ref (μ.length + 1))]) := by simp
    have hb : (μ ++ [Nd.ins 2 [(2, landD n ls), (3, .ref (μ.length + 1))], .box (.dic true (kvs es))])[μ.length + 1]? = some (.box (.dic true (kvs es))) := by simp
    have eg := e_is_good hl hr ha rfl
    have hno : dlook (key3 r.p r.g r.c) (kvs es) = none := by
      rw [dlook_kvs, Option.map_eq_none_iff]
      unfold atR
      rw [List.find?_eq_none]
      intro e he hz
      simp only [decide_eq_true_eq] at hz
      rw [List.map_append, List.nodup_append] at hk
      exact hk.2.2 (keyR e) (List.mem_map_of_mem he) (keyR r) (by simp) (key3_inj.mpr hz)
    have hle : (kvs es).length < 16777216 := by simp [kvs]; omega
    have hput : dput (key3 r.p r.g r.c) (Lint (sortD r.ws)) (kvs es) = kvs (es ++ [r]) := by
      unfold dput
      rw [hno]
      simp [kvs, keyR]
    have body : B1_Told_init [fz (.ref μ.length), x, y, fI k, fz (rowD r), d5, d6, d7, d8] (μ ++ [.ins 2 [(2, landD n ls), (3, .ref (μ.length + 1))], .box (.dic true (kvs es))]) =
        .nx [fz (.ref μ.length), x, y, fI k, fz (rowD r), fI r.p, fI r.g, fz (oD r.c), fz (Lint r.ws)] (μ ++ [.ins 2 [(2, landD n ls), (3, .ref (μ.length + 1))], .box (.dic true (kvs (es ++ [r])))]) := by
      have hfew := hr.few
      simp [B1_Told_init, rowD, ha, hb, hno, d_is_good, eg, hfew, hle, hput]
    obtain ⟨a, b, c, d, e, f, ih⟩ := told_loop (x := x) (y := y) (μ := μ) hl rs (es ++ [r]) (k + 1) (fI k) (fz (rowD r)) (fI r.p) (fI r.g) (fz (oD r.c)) (fz (Lint r.ws)) (fun z hz => hg z (by simp [hz])) (by simpa using hk) (by simp at hn ⊢; omega)
    have e2 : es ++ [r] ++ rs = es ++ r :: rs := by simp
    rw [e2] at ih
    exact ⟨a, b, c, d, e, f, for_nx body ih⟩
theorem e_Told {n : Int} {ls : Prs} {rs : List Row} {μ : Mu} (hl : ls.length < 1000) (hg : ∀ r ∈ rs, GoodR n ls r) (hk : (rs.map keyR).Nodup) (hn : rs.length < 1000000) : mkF 2 2 F_Told_init [] [landD n ls, .lst (rs.map rowD)] μ = .ok (.d (toldD n ls rs)) μ := by
  obtain ⟨a, b, c, d, e, f, h⟩ := told_loop (x := fz (landD n ls)) (y := fz (.lst (rs.map rowD))) (μ := μ) hl rs [] 0 none none none none none none hg (by simpa using hk) (by simpa using hn)
  have h0 : kvs [] = [] := rfl
  simp only [h0, List.nil_append] at h
  simp [mkF, F_Told_init, runF_eq, F_Table_init, enumD_map, h, cutE, resF, res1, belK_kvs, toldD]
  rw [if_neg (by omega)]
end WY
namespace WY
open PySem PySem.Spec L2 TL
/-! the land of k11 -/
theorem fm_single11 {α β : Type} {f : α → β} : ∀ {xs : List α}, (xs.flatMap fun x => [f x]) = xs.map f
  | [] => rfl
  | x :: xs => by rw [List.flatMap_cons, fm_single11 (xs := xs)]; rfl
def dPair (n d : Int) : Int × Int := (d % n, (d % n + 1 + d / 16 % (n - 1)) % n)
theorem dPair_ok {n d : Int} (hn : 2 ≤ n) : ¬ badL n (dPair n d) := by
  have h1 := mod_b d (n := n) (by omega)
  have h2 := mod_b (d / 16) (n := n - 1) (by omega)
  unfold badL dPair
  dsimp only
  by_cases h : d % n + 1 + d / 16 % (n - 1) < n
  · rw [mod_lo (x := d % n + 1 + d / 16 % (n - 1)) (by omega)]; omega
  · rw [mod_hi (x := d % n + 1 + d / 16 % (n - 1)) (by omega)]; omega
theorem at8 (k : Int) : ∃ n : Int, (2 ≤ n ∧ n ≤ 12) ∧ atI [D.int 2, .int 3, .int 4, .int 5, .int 6, .int 3, .int 4, .int 12] (k % 8) = some (.int n) := by
  have : k % 8 = 0 ∨ k % 8 = 1 ∨ k % 8 = 2 ∨ k % 8 = 3 ∨ k % 8 = 4 ∨ k % 8 = 5 ∨ k % 8 = 6 ∨ k % 8 = 7 := by omega
  rcases this with h | h | h | h | h | h | h | h <;> rw [h]
  · exact ⟨2, by omega, rfl⟩
  · exact ⟨3, by omega, rfl⟩
  · exact ⟨4, by omega, rfl⟩
  · exact ⟨5, by omega, rfl⟩
  · exact ⟨6, by omega, rfl⟩
  · exact ⟨3, by omega, rfl⟩
  · exact ⟨4, by omega, rfl⟩
  · exact ⟨12, by omega, rfl⟩
theorem land11 {ns : List Int} (hs : Scr ns) : ∃ n ls, Ld n ls ∧ 2 ≤ n ∧ ls.length ≤ 14 ∧ ∀ μ, F_land [Lint ns] μ = .ok (.d (.tup [.int n, Lprs ls])) μ := by
  have hd0 : ∀ μ, F_draw [Lint ns, .int 0] μ = .ok (.d (.int (draw ns 0))) μ := e_draw hs 0 (by omega)
  have hd1 : ∀ μ, F_draw [Lint ns, .int 1] μ = .ok (.d (.int (draw ns 1))) μ := e_draw hs 1 (by omega)
  have h0 := draw_lo ns 0
  have h1 := draw_lo ns 1
  have dv : ∀ x y : Int, 0 < y → y < 100000 → CDivW x y := fun x y h1 h2 => divW h1 (by omega)
  obtain ⟨n, hn, ea⟩ := at8 (draw ns 0)
  have hm := mod_b (draw ns 1) (n := 15) (by omega)
  generalize hmm : draw ns 1 % 15 = m at hm
  refine ⟨n, (irg 0 m.toNat).map fun k => dPair n (draw ns (200 + k.toNat)), ⟨by omega, by simp; omega, fun p hp => ?_⟩, hn.1, by simp; omega, fun μ => ?_⟩
  · obtain ⟨k, _, rfl⟩ := List.mem_map.mp hp
    exact dPair_ok (by omega)
  · obtain ⟨t, h⟩ := forF_coll (e := D.int) (tg := .n 3) (S := B1_land) (μ := μ) (fun (t : Option SV × Option SV × Option SV) (acc : Prs) => [fz (Lint ns), fI n, ow (Lprs acc), t.1, t.2.1, t.2.2]) (fun k : Int => [dPair n (draw ns (200 + k.toNat))]) 1000 (irg 0 m.toNat) (by
      intro k hk t acc hacc
      rw [mem_irg] at hk
      have hd := e_draw hs (200 + k.toNat) (by omega)
      have ek : ((200 + k.toNat : Nat) : Int) = 200 + k := by omega
      rw [ek] at hd
      have hn0 : 0 < n := by omega
      have hn1 : 1 < n := by omega
      refine ⟨[fz (Lint ns), fI n, ow (Lprs acc), fI k, t.2.1, t.2.2], rfl, (fI k, fI (draw ns (200 + k.toNat)), fI (draw ns (200 + k.toNat) % n)), .inl ?_⟩
      have hlen : acc.length < 16777216 := by omega
      simp [B1_land, hd, hn0, hn1, dv, hlen, dPair, TL.prD]) (none, none, none) [] (by rw [fm_single11]; simp; omega)
    rw [fm_single11, ← rngD_0] at h
    have r1 : Rg1 m := rg1_ok (by omega)
    have h' : forF none (.n 3) B1_land (rngD 0 m.toNat) [fz (Lint ns), fI n, ow (.lst []), none, none, none] μ = .nx [fz (Lint ns), fI n, ow (Lprs ((irg 0 m.toNat).map fun k => dPair n (draw ns (200 + k.toNat)))), t.1, t.2.1, t.2.2] μ := h
    simp [F_land, runF_eq, hd0, hd1, ea, hmm, r1, h']
end WY
namespace WY
open PySem PySem.Spec L2 TL
/-! a row drawn, a row spoiled, k11 -/
structure RowW (B : Nat) (r : Row) : Prop where
  c : ∀ i, r.c = some i → 0 ≤ i
  w : ∀ w ∈ r.ws, 0 ≤ w
  len : r.ws.length ≤ B
theorem RowW.up {B C : Nat} {r : Row} (h : RowW B r) (q : B ≤ C) : RowW C r := ⟨h.c, h.w, by have := h.len; omega⟩
theorem at_oD {l : List (Option Int)} {k : Int} (h : 0 ≤ k ∧ k.toNat < l.length) : ∃ c ∈ l, atI (l.map oD) k = some (oD c) := by
  obtain ⟨j, rfl⟩ := Int.eq_ofNat_of_zero_le h.1
  have hj : j < l.length := by simpa using h.2
  exact ⟨l[j], List.getElem_mem hj, at_map hj⟩
theorem e_row {n d o : Int} {ls : Prs} (hn : 2 ≤ n ∧ n ≤ 12) (hls : ls.length ≤ 14) (hd : 0 ≤ d) (ho : 0 ≤ o) (μ : Mu) : ∃ r, RowW 28 r ∧ F_row [.int n, Lprs ls, .int d, .int o] μ = .ok (.d (rowD r)) μ := by
  have hn0 : 0 < n := by omega
  have hn1 : 1 < n := by omega
  have dv : ∀ x y : Int, 0 < y → y < 1000000 → CDivW x y := fun x y h1 h2 => divW h1 (by omega)
  have z1 : ls.length ≤ 16777216 := by omega
  have z2 : (rngD 0 ls.length).length ≤ 16777216 := by rw [rngD_len]; omega
  have r1 : Rg1 (ls.length : Int) := rg1_nat (by omega)
  obtain ⟨p, hp⟩ : ∃ p, d % n = p := ⟨_, rfl⟩
  obtain ⟨g, hg⟩ : ∃ g, (p + 1 + d / 16 % (n - 1)) % n = g := ⟨_, rfl⟩
  have lc1 := fun {x7 x8 x9 : Option SV} => lcF_fil (tg := .n 10) (T := CT1_row) (A := CE1_row) (sd := [fI n, fz (Lprs ls), fI d, fI o, fI p, fI g, x7, x8, x9, none, none]) (μ := μ) (e := fun k : Nat => D.int k) (fun k => decide ((ls.getD k (0, 0)).2 = p)) (fun k : Nat => D.int k) (xs := List.range ls.length) (fun k hk => by
    have hk' := List.mem_range.mp hk
    have ea := at_map (f := TL.prD) hk'
    refine ⟨_, rfl, ?_, fun _ => ⟨.d (.int k), by simp [CE1_row], rfl⟩⟩
    simp [CT1_row, ea, TL.prD, hk'])
  have lc2 := fun {x6 x7 x8 x9 : Option SV} => lcF_fil (tg := .n 10) (T := CT2_row) (A := CE2_row) (sd := [fI n, fz (Lprs ls), fI d, fI o, fI p, fI g, x6, x7, x8, x9, none]) (μ := μ) (e := fun k : Nat => D.int k) (fun k => decide ((ls.getD k (0, 0)).1 = p)) (fun k : Nat => D.int k) (xs := List.range ls.length) (fun k hk => by
    have hk' := List.mem_range.mp hk
    have ea := at_map (f := TL.prD) hk'
    refine ⟨_, rfl, ?_, fun _ => ⟨.d (.int k), by simp [CE2_row], rfl⟩⟩
    simp [CT2_row, ea, TL.prD, hk'])
  have er : ((List.range ls.length).map fun k : Nat => D.int k) = rngD 0 ls.length := by rw [rngD_irg]; unfold irg; rw [List.map_map]; exact List.map_congr_left fun k _ => by simp
  have ei : (((List.range ls.length).filter fun k => decide ((ls.getD k (0, 0)).2 = p)).map fun k : Nat => D.int k) = (intoL ls p).map D.int := by unfold intoL; rw [List.map_map]; rfl
  have eo : (((List.range ls.length).filter fun k => decide ((ls.getD k (0, 0)).1 = p)).map fun k : Nat => D.int k) = (outL ls p).map D.int := by unfold outL; rw [List.map_map]; rfl
  rw [er, ei] at lc1
  rw [er, eo] at lc2
  have il : (intoL ls p).length ≤ 14 := by
    unfold intoL
    rw [List.length_map]
    have := List.length_filter_le (fun k => decide ((ls.getD k (0, 0)).2 = p)) (List.range ls.length)
    simp at this ⊢
    omega
  have ol : (outL ls p).length ≤ 14 := by
    unfold outL
    rw [List.length_map]
    have := List.length_filter_le (fun k => decide ((ls.getD k (0, 0)).1 = p)) (List.range ls.length)
    simp at this ⊢
    omega
  have ec : .non :: .non :: (intoL ls p).map D.int = (none :: none :: (intoL ls p).map some).map oD := by simp [Function.comp_def]
  obtain ⟨c, hc, eat⟩ := at_oD (l := none :: none :: (intoL ls p).map some) (k := d / 256 % (((intoL ls p).length : Int) + 2)) (by
    have := mod_b (d / 256) (n := ((intoL ls p).length : Int) + 2) (by omega)
    simp
    omega)
  rw [← ec] at eat
  have hc0 : ∀ i, c = some i → 0 ≤ i := by
    intro i hi
    subst hi
    simp at hc
    exact (mem_intoL.mp hc).1
  have oge : ∀ w ∈ outL ls p, 0 ≤ w := fun w hw => (mem_outL.mp hw).1
  generalize outL ls p = os at *
  generalize intoL ls p = is at *
  obtain ⟨fs, hfs⟩ : ∃ fs, os.filter (fun k => decide (o / 2 ^ k.toNat % 2 = 1)) = fs := ⟨_, rfl⟩
  have lc3 := fun {x6 x7 x9 : Option SV} => lcF_fil (tg := .n 10) (T := CT3_row) (A := CE3_row) (sd := [fI n, fz (Lprs ls), fI d, fI o, fI p, fI g, x6, x7, fz (Lint os), x9, none]) (μ := μ) (e := D.int) (fun k => decide (o / 2 ^ k.toNat % 2 = 1)) D.int (xs := os) (fun k hk => by
    have hk0 := oge k hk
    refine ⟨_, rfl, ?_, fun _ => ⟨.d (.int k), by simp [CE3_row], rfl⟩⟩
    simp [CT3_row, hk0, PyProof.Rows.bitAnd_m1])
  rw [hfs] at lc3
  have fl : fs.length ≤ 14 := by rw [← hfs]; exact Nat.le_trans (List.length_filter_le _ _) ol
  have fge : ∀ w ∈ fs, 0 ≤ w := fun w hw => by
    rw [← hfs] at hw
    exact oge w (List.mem_filter.mp hw).1
  have z3 : os.length ≤ 16777216 := by omega
  have z4 : is.length ≤ 16777216 := by omega
  have z5 : 2 + is.length ≤ 16777216 := by omega
  have b2 := mod_b (o / 262144) (n := 2) (by omega)
  obtain ⟨b, hb⟩ : ∃ b, o / 262144 % 2 = b := ⟨_, rfl⟩
  rw [hb] at b2
  have hb0 : 0 ≤ b := b2.1
  have tk : ∀ l : List Int, l.length ≤ 14 → (∀ w ∈ l, 0 ≤ w) → RowW 28 ⟨p, g, c, l ++ l.take b.toNat⟩ := fun l h1 h2 => ⟨hc0, fun w hw => by
    rcases List.mem_append.mp hw with z | z
    · exact h2 w z
    · exact h2 w (List.mem_of_mem_take z), by
    rw [List.length_append]
    have := List.length_take_le b.toNat l
    omega⟩
  have q1 : (1 : Int) < n := by omega
  have ez : ((is.length : Int) + 1 + 1) = (is.length : Int) + 2 := by omega
  have ez0 : (0 : Int) < (is.length : Int) + 2 := by omega
  by_cases hr : o / 65536 % 3 = 1
  · refine ⟨_, tk fs.reverse (by simpa using fl) (fun w hw => fge w (by simpa using hw)), ?_⟩
    have y1 : fs.length + min b.toNat fs.length ≤ 16777216 := by omega
    simp [F_row, runF_eq, hn0, q1, dv, hp, hg, r1, z1, z2, z3, z4, z5, lc1, lc2, lc3, ez, ez0, eat, hr, hb, hb0, rowD, y1]
  · refine ⟨_, tk fs fl fge, ?_⟩
    have y1 : fs.length + min b.toNat fs.length ≤ 16777216 := by omega
    simp [F_row, runF_eq, hn0, q1, dv, hp, hg, r1, z1, z2, z3, z4, z5, lc1, lc2, lc3, ez, ez0, eat, hr, hb, hb0, rowD, y1]
end WY
namespace WY
open PySem PySem.Spec L2 TL
/-! a row spoiled, the rows, k11 -/
@[simp] theorem okB_oD {m : Nat} {c : Option Int} : okB m (oD c) = true := by cases c <;> simp
@[simp] theorem okB_row {m : Nat} {r : Row} : okB (m + 2) (rowD r) = true := by
  show [D.int r.p, .int r.g, oD r.c, Lint r.ws].all (okB (m + 1)) = true
  simp
theorem at_rows {rs : List Row} {k : Nat} (h : k < rs.length) : atI (rs.map rowD) (k : Int) = some (rowD rs[k]) := at_map h
theorem e_spoiled {n d : Int} {ls : Prs} {r : Row} {rs : List Row} {B : Nat} {x : D} {L : Lk} {μ : Mu} (hn : 2 ≤ n ∧ n ≤ 12) (hls : ls.length ≤ 14) (hd : 0 ≤ d) (hr : RowW B r) (hB : B ≤ 1000) (hx : IsL μ x (rs.map rowD) L) (hne : rs ≠ []) (hw : ∀ r ∈ rs, RowW B r) (hl : rs.length ≤ 1000) :
    ∃ r', RowW (B + 1) r' ∧ F_spoiled [rowD r, x, .int n, Lprs ls, .int d] μ = .ok (.d (rowD r')) μ := by
  have dv : ∀ x y : Int, 0 < y → y < 1000000 → CDivW x y := fun x y h1 h2 => divW h1 (by omega)
  have z1 : ls.length ≤ 16777216 := by omega
  have z2 : rs.length ≤ 16777216 := by omega
  have hrl := hr.len
  have hc := hr.c
  have hww := hr.w
  have z3 : r.ws.length + 1 ≤ 16777216 := by omega
  have z4 : 1 + r.ws.length ≤ 16777216 := by omega
  have hv := fun {sd} => hx.vw (sd := sd)
  have h8 := mod_b d (n := 8) (by omega)
  have m2 := mod_b (d / 8) (n := 2) (by omega)
  obtain ⟨M, hM⟩ : ∃ M : Int, (if (1 : Int) < (ls.length : Int) then (ls.length : Int) else 1) = M := ⟨_, rfl⟩
  have mx : 0 < M := by rw [← hM]; split <;> omega
  have mm := mod_b (d / 8) mx
  have nl : 0 < (rs.length : Int) := by
    have : 0 < rs.length := List.length_pos_iff.mpr hne
    omega
  have mr := mod_b (d / 8) nl
  obtain ⟨k, hk⟩ := Int.eq_ofNat_of_zero_le mr.1
  have hkl : k < rs.length := by omega
  have ea := at_rows hkl
  have er : rowD r = .tup [.int r.p, .int r.g, oD r.c, Lint r.ws] := rfl
  have ek : rowD rs[k] = .tup [.int (rs[k]).p, .int (rs[k]).g, oD (rs[k]).c, Lint (rs[k]).ws] := rfl
  rw [ek] at ea
  have w0 : RowW (B + 1) ⟨n + d / 8 % 2, r.g, r.c, r.ws⟩ := ⟨hc, hww, by dsimp only; omega⟩
  have w1 : RowW (B + 1) ⟨r.p, -1, r.c, r.ws⟩ := ⟨hc, hww, by dsimp only; omega⟩
  have w2 : RowW (B + 1) ⟨r.p, r.p, r.c, r.ws⟩ := ⟨hc, hww, by dsimp only; omega⟩
  have w3 : RowW (B + 1) ⟨r.p, r.g, some (ls.length : Int), r.ws⟩ := ⟨fun i hi => by cases hi; omega, hww, by dsimp only; omega⟩
  have w4 : RowW (B + 1) ⟨r.p, r.g, r.c, r.ws ++ [(ls.length : Int) + d / 8 % 2]⟩ := ⟨hc, fun w hw => by
    rcases List.mem_append.mp hw with z | z
    · exact hww w z
    · rw [List.mem_singleton] at z; omega, by simp; omega⟩
  have w5 : RowW (B + 1) ⟨r.p, r.g, some (d / 8 % M), r.ws⟩ := ⟨fun i hi => by cases hi; exact mm.1, hww, by dsimp only; omega⟩
  have w6 : RowW (B + 1) ⟨r.p, r.g, r.c, (d / 8 % M) :: r.ws⟩ := ⟨hc, fun w hw => by
    rcases List.mem_cons.mp hw with z | z
    · rw [z]; exact mm.1
    · exact hww w z, by simp; omega⟩
  have w7 : RowW (B + 1) ⟨(rs[k]).p, (rs[k]).g, (rs[k]).c, []⟩ := ⟨(hw _ (List.getElem_mem hkl)).c, by simp, by simp⟩
  have : d % 8 = 0 ∨ d % 8 = 1 ∨ d % 8 = 2 ∨ d % 8 = 3 ∨ d % 8 = 4 ∨ d % 8 = 5 ∨ d % 8 = 6 ∨ d % 8 = 7 := by omega
  rw [er]
  rcases this with h | h | h | h | h | h | h | h
  · exact ⟨_, w0, by simp [F_spoiled, runF_eq, h, dv, rowD]⟩
  · exact ⟨_, w1, by simp [F_spoiled, runF_eq, h, dv, rowD]⟩
  · exact ⟨_, w2, by simp [F_spoiled, runF_eq, h, dv, rowD]⟩
  · exact ⟨_, w3, by simp [F_spoiled, runF_eq, h, dv, rowD, z1, oD]⟩
  · exact ⟨_, w4, by simp [F_spoiled, runF_eq, h, dv, rowD, z1, z3]⟩
  · exact ⟨_, w5, by simp [F_spoiled, runF_eq, h, dv, rowD, z1, hM, mx, oD]⟩
  · exact ⟨_, w6, by simp [F_spoiled, runF_eq, h, dv, rowD, z1, z4, hM, mx]⟩
  · have nl' : 0 < rs.length := by omega
    exact ⟨_, w7, by
      simp [F_spoiled, runF_eq, h, dv, rowD, hv, z2, nl, hk, ea]
      exact if_pos nl'⟩
section
variable {ns : List Int} {n : Int} {ls : Prs}
theorem rows1 (hs : Scr ns) (hn : 2 ≤ n ∧ n ≤ 12) (hls : ls.length ≤ 14) : ∀ (m k : Nat) (acc : List Row) (kn : List (NestedKey × D)) (t5 t6 t7 : Option SV), (∀ r ∈ acc, RowW 28 r) → acc.length ≤ k → kn.length ≤ k → k + m ≤ 100 →
    ∃ (acc' : List Row) (kn' : List (NestedKey × D)) (t5' t6' t7' : Option SV), forF none (.n 5) B1_rows (rngD k m) [fz (Lint ns), fI n, fz (Lprs ls), some (.fz (.ref 0)), ow (.dic true kn), t5, t6, t7] [.box (.lst (acc.map rowD))] = .nx [fz (Lint ns), fI n, fz (Lprs ls), some (.fz (.ref 0)), ow (.dic true kn'), t5', t6', t7'] [.box (.lst (acc'.map rowD))] ∧ (∀ r ∈ acc', RowW 28 r) ∧ acc'.length ≤ k + m
  | 0, k, acc, kn, t5, t6, t7, h1, h2, h3, h4 => ⟨acc, kn, t5, t6, t7, rng_nil, h1, by omega⟩
  | m + 1, k, acc, kn, t5, t6, t7, h1, h2, h3, h4 => by
    have e1 := e_draw hs (300 + 2 * k) (by omega) [.box (.lst (acc.map rowD))]
    have e2 := e_draw hs (301 + 2 * k) (by omega) [.box (.lst (acc.map rowD))]
    have q1 : ((300 + 2 * k : Nat) : Int) = 300 + 2 * (k : Int) := by omega
    have q2 : ((301 + 2 * k : Nat) : Int) = 301 + 2 * (k : Int) := by omega
    rw [q1] at e1
    rw [q2] at e2
    obtain ⟨r, hr, er⟩ := e_row hn hls (draw_lo ns (300 + 2 * k)) (draw_lo ns (301 + 2 * k)) [.box (.lst (acc.map rowD))]
    have cm : CMulX 2 (k : Int) := mulX (by omega) (by omega)
    have hal : acc.length < 16777216 := by omega
    have hkl : kn.length < 16777216 := by omega
    have hkd : (dput (key3 r.p r.g r.c) (.bl true) kn).length ≤ k + 1 := by
      unfold dput
      split
      · rw [dmap_len]; omega
      · simp; omega
    have ek : ((k + 1 : Nat) : Int) = (k : Int) + 1 := by omega
    cases hd : dlook (key3 r.p r.g r.c) kn with
    | some d =>
      obtain ⟨acc', kn', a, b, c, ih, j1, j2⟩ := rows1 hs hn hls m (k + 1) acc (dput (key3 r.p r.g r.c) (.bl true) kn) (fI k) (fz (rowD r)) t7 h1 (by omega) hkd (by omega)
      rw [ek] at ih
      refine ⟨acc', kn', a, b, c, rng_nx (sd0 := [fz (Lint ns), fI n, fz (Lprs ls), some (.fz (.ref 0)), ow (.dic true kn), fI k, t6, t7]) ?_ ih, j1, by omega⟩
      simp [B1_rows, cm, e1, e2, er]
      simp [rowD, hd, hkl]
    | none =>
      obtain ⟨acc', kn', a, b, c, ih, j1, j2⟩ := rows1 hs hn hls m (k + 1) (acc ++ [r]) (dput (key3 r.p r.g r.c) (.bl true) kn) (fI k) (fz (rowD r)) t7 (fun z hz => by
        rcases List.mem_append.mp hz with z2 | z2
        · exact h1 z z2
        · rw [List.mem_singleton] at z2; subst z2; exact hr) (by simp; omega) hkd (by omega)
      rw [ek] at ih
      refine ⟨acc', kn', a, b, c, rng_nx (sd0 := [fz (Lint ns), fI n, fz (Lprs ls), some (.fz (.ref 0)), ow (.dic true kn), fI k, t6, t7]) ?_ ih, j1, by omega⟩
      simp [B1_rows, cm, e1, e2, er]
      simp [rowD, hd, hkl, hal]
theorem rows2 (hs : Scr ns) (hn : 2 ≤ n ∧ n ≤ 12) (hls : ls.length ≤ 14) {t4 t6 : Option SV} : ∀ (m k : Nat) (acc : List Row) (t5 t7 : Option SV), (∀ r ∈ acc, RowW (28 + k) r) → acc.length ≤ 100 → k + m ≤ 100 →
    ∃ (acc' : List Row) (t5' t7' : Option SV), forF none (.n 5) B2_rows (rngD k m) [fz (Lint ns), fI n, fz (Lprs ls), some (.fz (.ref 0)), t4, t5, t6, t7] [.box (.lst (acc.map rowD))] = .nx [fz (Lint ns), fI n, fz (Lprs ls), some (.fz (.ref 0)), t4, t5', t6, t7'] [.box (.lst (acc'.map rowD))] ∧ (∀ r ∈ acc', RowW (28 + (k + m)) r) ∧ acc'.length ≤ 100
  | 0, k, acc, t5, t7, h1, h2, h3 => ⟨acc, t5, t7, rng_nil, h1, h2⟩
  | m + 1, k, acc, t5, t7, h1, h2, h3 => by
    have ek : ((k + 1 : Nat) : Int) = (k : Int) + 1 := by omega
    have ekm : k + (m + 1) = k + 1 + m := by omega
    by_cases h0 : acc = []
    · subst h0
      obtain ⟨acc', a, b, ih, j1, j2⟩ := rows2 hs hn hls (t4 := t4) (t6 := t6) m (k + 1) [] (fI k) t7 (by simp) (by simp) (by omega)
      rw [ek] at ih
      rw [ekm]
      refine ⟨acc', a, b, rng_nx (sd0 := [fz (Lint ns), fI n, fz (Lprs ls), some (.fz (.ref 0)), t4, fI k, t6, t7]) ?_ ih, j1, j2⟩
      simp [B2_rows]
    · have e1 := e_draw hs (400 + k) (by omega) [.box (.lst (acc.map rowD))]
      have e2 := e_draw hs (410 + k) (by omega) [.box (.lst (acc.map rowD))]
      have q1 : ((400 + k : Nat) : Int) = 400 + (k : Int) := by omega
      have q2 : ((410 + k : Nat) : Int) = 410 + (k : Int) := by omega
      rw [q1] at e1
      rw [q2] at e2
      have nl : 0 < acc.length := List.length_pos_iff.mpr h0
      have nl2 : 0 < (acc.length : Int) := by omega
      have mr := mod_b (draw ns (400 + k)) nl2
      obtain ⟨j, hj⟩ := Int.eq_ofNat_of_zero_le mr.1
      have hjl : j < acc.length := by omega
      have ea := at_rows hjl
      have hix : ixN acc.length (j : Int) = some j := by simp [ixN, hjl]
      obtain ⟨r', hr', er⟩ := e_spoiled (d := draw ns (410 + k)) (r := acc[j]) (μ := [.box (.lst (acc.map rowD))]) hn hls (draw_lo ns (410 + k)) (h1 _ (List.getElem_mem hjl)) (by omega) (IsL.ref (n := 0) rfl) h0 h1 (by omega)
      have es : (acc.map rowD).set j (rowD r') = (acc.set j r').map rowD := by rw [List.map_set]
      obtain ⟨acc', a, b, ih, j1, j2⟩ := rows2 hs hn hls (t4 := t4) (t6 := t6) m (k + 1) (acc.set j r') (fI k) (fI (j : Int)) (fun z hz => by
        rcases List.mem_or_eq_of_mem_set hz with z2 | z2
        · exact (h1 z z2).up (by omega)
        · subst z2; exact hr') (by simpa using h2) (by omega)
      rw [ek] at ih
      rw [ekm]
      refine ⟨acc', a, b, rng_nx (sd0 := [fz (Lint ns), fI n, fz (Lprs ls), some (.fz (.ref 0)), t4, fI k, t6, t7]) ?_ ih, j1, j2⟩
      have al : acc.length ≤ 16777216 := by omega
      simp [B2_rows, h0, al, e1, e2, nl, nl2, hj, ea, er, hix]
theorem e_rows (hs : Scr ns) (hn : 2 ≤ n ∧ n ≤ 12) (hls : ls.length ≤ 14) : ∃ rs : List Row, (∀ r ∈ rs, RowW 60 r) ∧ rs.length ≤ 100 ∧ F_rows [Lint ns, .int n, Lprs ls] [] = .ok (.d (.ref 0)) [.box (.lst (rs.map rowD))] := by
  have hd2 := e_draw hs 2 (by omega) 
  have hl := hs.1
  obtain ⟨m, hm⟩ : ∃ m, min 40 (ns.length - 3) = m := ⟨_, rfl⟩
  have hm40 : m ≤ 40 := by omega
  obtain ⟨rs1, kn, t5, t6, t7, l1, j1, j2⟩ := rows1 hs hn hls m 0 [] [] none none none (by simp) (by simp) (by simp) (by omega)
  have d4 := mod_b (draw ns 2) (n := 4) (by omega)
  obtain ⟨m2, hm2⟩ : ∃ m2, (draw ns 2 % 4 - 1).toNat = m2 := ⟨_, rfl⟩
  obtain ⟨rs, t5', t7', l2, i1, i2⟩ := rows2 hs hn hls (t4 := ow (.dic true kn)) (t6 := t6) m2 0 rs1 t5 t7 j1 (by omega) (by omega)
  refine ⟨rs, fun r hr => (i1 r hr).up (by omega), i2, ?_⟩
  have r1 : Rg1 (m : Int) := rg1_nat (by omega)
  have r2 : Rg1 (draw ns 2 % 4 - 1) := rg1_ok (by omega)
  have z1 : m ≤ 16777216 := by omega
  have hd2' : ∀ μ, F_draw [.lst (ns.map D.int), .int 2] μ = .ok (.d (.int (draw ns 2))) μ := hd2
  simp only [Int.natCast_zero, List.map_nil] at l1 l2
  simp [F_rows, runF_eq, hd2', hm, r1, l1, r2, hm2, l2]
end
end WY
namespace WY
open PySem PySem.Spec L2 TL
/-! the first bad row, k11: the law's own -/
def cB (ls : Prs) (r : Row) : Bool := match r.c with
  | none => true
  | some i => decide (i ∈ intoL ls r.p)
def gdB (n : Int) (ls : Prs) (r : Row) : Bool := decide ((0 ≤ r.p ∧ r.p < n) ∧ (0 ≤ r.g ∧ r.g < n) ∧ r.p ≠ r.g) && (cB ls r && r.ws.all fun w => decide (w ∈ outL ls r.p))
def sameB (r a : Row) : Bool := decide (a.p = r.p ∧ a.g = r.g ∧ a.c = r.c)
def badB (n : Int) (ls : Prs) (ah : List Row) (r : Row) : Bool := !gdB n ls r || ah.any (sameB r)
def fbG (n : Int) (ls : Prs) : List Row → List Row → Option Nat
  | _, [] => none
  | ah, r :: rs => if badB n ls ah r = true then some ah.length else fbG n ls (ah ++ [r]) rs
section
variable {n : Int} {ls : Prs} {μ : Mu}
theorem deq_oD {a b : Option Int} : deq (oD a) (oD b) = decide (a = b) := by cases a <;> cases b <;> simp
theorem e_is_bad {ah : List Row} {r : Row} {B : Nat} (hls : ls.length ≤ 14) (hr : RowW B r) (hB : B ≤ 1000) (ha : ah.length ≤ 100) : F_is_bad [rowD r, .lst (ah.map rowD), .int n, Lprs ls] μ = .ok (.d (.bl (badB n ls ah r))) μ := by
  have er : rowD r = .tup [.int r.p, .int r.g, oD r.c, Lint r.ws] := rfl
  have z1 : ls.length ≤ 16777216 := by omega
  have z2 : r.ws.length ≤ 16777216 := by have := hr.len; omega
  have z3 : ah.length ≤ 16777216 := by omega
  obtain ⟨m, hm⟩ : ∃ m, (if r.g < r.p then r.g else r.p) = m := ⟨_, rfl⟩
  obtain ⟨M, hM⟩ : ∃ M, (if r.p < r.g then r.g else r.p) = M := ⟨_, rfl⟩
  have hc0 := hr.c
  have hw0 := hr.w
  have lane : ∀ i : Int, 0 ≤ i → i.toNat < ls.length → ∃ q, atI (ls.map TL.prD) i = some (TL.prD q) ∧ ls.getD i.toNat (0, 0) = q := fun i h0 h1 => by
    obtain ⟨k, rfl⟩ := Int.eq_ofNat_of_zero_le h0
    have hk : k < ls.length := by simpa using h1
    refine ⟨ls[k], at_map (f := TL.prD) hk, by simp [hk]⟩
  have lc1 := fun {x0 x1 x5 x6 x7 x9 : Option SV} => lcF_fil (tg := .n 8) (T := CT1_is_bad) (A := CE1_is_bad) (sd := [x0, x1, fI n, fz (Lprs ls), fI r.p, x5, x6, x7, none, x9]) (μ := μ) (e := D.int) (fun w => decide (w ∉ outL ls r.p)) D.int (xs := r.ws) (fun w hw => by
    have h0 := hw0 w hw
    refine ⟨_, rfl, ?_, fun _ => ⟨.d (.int w), by simp [CE1_is_bad], rfl⟩⟩
    have mo := mem_outL (ls := ls) (p := r.p) (x := w)
    by_cases q : w.toNat < ls.length
    · have q2 : ¬ (ls.length : Int) ≤ w := by omega
      obtain ⟨lq, el, hlq⟩ := lane w h0 q
      rw [hlq] at mo
      by_cases q3 : lq.1 = r.p
      · have : w ∈ outL ls r.p := mo.mpr ⟨h0, q, q3⟩
        simp [CT1_is_bad, z1, q2, el, TL.prD, q3, this]
      · have : w ∉ outL ls r.p := fun z => q3 (mo.mp z).2.2
        simp [CT1_is_bad, z1, q2, el, TL.prD, q3, this]
    · have q2 : (ls.length : Int) ≤ w := by omega
      have : w ∉ outL ls r.p := fun z => q (mo.mp z).2.1
      simp [CT1_is_bad, z1, q2, this])
  have lc2 := fun {x1 x2 x3 x4 x5 x6 x7 x8 : Option SV} (cc : D) (hcc : cc = oD r.c) => lcF_fil (tg := .n 9) (T := CT2_is_bad) (A := CE2_is_bad) (sd := [fz (.tup [.int r.p, .int r.g, cc, Lint r.ws]), x1, x2, x3, x4, x5, x6, x7, x8, none]) (μ := μ) (e := rowD) (sameB r) rowD (xs := ah) (fun a _ => by
    have ea : rowD a = .tup [.int a.p, .int a.g, oD a.c, Lint a.ws] := rfl
    refine ⟨_, rfl, ?_, fun _ => ⟨.d (rowD a), by simp [CE2_is_bad], rfl⟩⟩
    subst hcc
    simp [CT2_is_bad, ea, sameB, deq_oD])
  have e1 : (decide (r.ws.filter (fun w => decide (w ∉ outL ls r.p)) = [])) = r.ws.all fun w => decide (w ∈ outL ls r.p) := by
    rw [Bool.eq_iff_iff]
    simp [List.filter_eq_nil_iff]
  have e2 : (decide (ah.filter (sameB r) = [])) = !ah.any (sameB r) := by
    rw [Bool.eq_iff_iff]
    simp [List.filter_eq_nil_iff]
  generalize hF1 : r.ws.filter (fun w => decide (w ∉ outL ls r.p)) = F1 at lc1 e1
  generalize hF2 : ah.filter (sameB r) = F2 at lc2 e2
  have hp1 : (m < 0 ∨ n ≤ M ∨ r.p = r.g) ↔ ¬ ((0 ≤ r.p ∧ r.p < n) ∧ (0 ≤ r.g ∧ r.g < n) ∧ r.p ≠ r.g) := by
    rw [← hm, ← hM]
    split <;> split <;> omega
  unfold badB gdB
  by_cases q1 : (0 ≤ r.p ∧ r.p < n) ∧ (0 ≤ r.g ∧ r.g < n) ∧ r.p ≠ r.g
  · have n1 : ¬ (m < 0 ∨ n ≤ M ∨ r.p = r.g) := fun z => hp1.mp z q1
    have n2 : ¬ m < 0 := fun z => n1 (.inl z)
    have n3 : ¬ n ≤ M := fun z => n1 (.inr (.inl z))
    have n4 : ¬ r.p = r.g := fun z => n1 (.inr (.inr z))
    rw [decide_eq_true q1, ← e1]
    have tail : ∀ {x8 x9 : Option SV}, True := fun {_ _} => trivial
    have fin : cB ls r = true → F_is_bad [rowD r, .lst (ah.map rowD), .int n, Lprs ls] μ = .ok (.d (.bl (!decide (F1 = []) || ah.any (sameB r)))) μ := by
      intro hcB
      have e2' : ah.any (sameB r) = !decide (F2 = []) := by rw [e2]; simp
      rw [e2']
      unfold cB at hcB
      cases hcc : r.c with
      | none =>
        rw [hcc] at hcB
        by_cases y1 : F1 = []
        · simp [F_is_bad, runF_eq, er, hm, hM, n2, n3, n4, hcc, z2, lc1, y1, z3]
          rw [lc2 .non (by rw [hcc]; rfl)]
          simp
        · simp [F_is_bad, runF_eq, er, hm, hM, n2, n3, n4, hcc, z2, lc1, y1]
      | some i =>
        rw [hcc] at hcB
        have hi := mem_intoL.mp (of_decide_eq_true hcB)
        have q2 : ¬ (ls.length : Int) ≤ i := by omega
        obtain ⟨lq, el, hlq⟩ := lane i hi.1 hi.2.1
        have hlp := hi.2.2
        rw [hlq] at hlp
        by_cases y1 : F1 = []
        · simp [F_is_bad, runF_eq, er, hm, hM, n2, n3, n4, hcc, z1, q2, el, TL.prD, hlp, z2, lc1, y1, z3]
          rw [lc2 (.int i) (by rw [hcc]; rfl)]
          simp
        · simp [F_is_bad, runF_eq, er, hm, hM, n2, n3, n4, hcc, z1, q2, el, TL.prD, hlp, z2, lc1, y1]
    cases hcB : cB ls r with
    | true =>
      rw [fin hcB]
      simp
    | false =>
      unfold cB at hcB
      cases hcc : r.c with
      | none => rw [hcc] at hcB; cases hcB
      | some i =>
        rw [hcc] at hcB
        have hi := of_decide_eq_false hcB
        rw [mem_intoL] at hi
        have h0 := hc0 i hcc
        by_cases q : i.toNat < ls.length
        · have q2 : ¬ (ls.length : Int) ≤ i := by omega
          obtain ⟨lq, el, hlq⟩ := lane i h0 q
          rw [hlq] at hi
          have q3 : ¬ lq.2 = r.p := fun z => hi ⟨h0, q, z⟩
          simp [F_is_bad, runF_eq, er, hm, hM, n2, n3, n4, hcc, z1, q2, el, TL.prD, q3]
        · have q2 : (ls.length : Int) ≤ i := by omega
          simp [F_is_bad, runF_eq, er, hm, hM, n2, n3, n4, hcc, z1, q2]
  · rw [decide_eq_false q1]
    have n1 := hp1.mpr q1
    by_cases n2 : m < 0
    · simp [F_is_bad, runF_eq, er, hm, hM, n2]
    · by_cases n3 : n ≤ M
      · simp [F_is_bad, runF_eq, er, hm, hM, n2, n3]
      · have n4 : r.p = r.g := by
          rcases n1 with z | z | z
          · exact absurd z n2
          · exact absurd z n3
          · exact z
        simp [F_is_bad, runF_eq, er, hm, hM, n2, n3, n4]
theorem fb_loop {x : D} {L : Lk} {rs : List Row} (hx : IsL μ x (rs.map rowD) L) (hls : ls.length ≤ 14) {B : Nat} (hB : B ≤ 1000) (hw : ∀ r ∈ rs, RowW B r) (hl : rs.length ≤ 100) : ∀ (rest ah : List Row) (t3 : Option SV), ah ++ rest = rs →
    (fbG n ls ah rest = none ∧ ∃ t3', forF none (.n 3) B1_first_bad (rngD ah.length rest.length) [fz x, fI n, fz (Lprs ls), t3] μ = .nx [fz x, fI n, fz (Lprs ls), t3'] μ) ∨
    ∃ k : Nat, fbG n ls ah rest = some k ∧ forF none (.n 3) B1_first_bad (rngD ah.length rest.length) [fz x, fI n, fz (Lprs ls), t3] μ = .rt (.d (.int k)) μ
  | [], ah, t3, e => .inl ⟨rfl, t3, rng_nil⟩
  | r :: rest, ah, t3, e => by
    have hv := fun {sd} => hx.vw (sd := sd)
    have hk : ah.length < rs.length := by rw [← e]; simp
    have ea := at_rows hk
    have eg : rs[ah.length] = r := by
      have : rs[ah.length]? = some r := by rw [← e]; simp
      rw [List.getElem?_eq_getElem hk] at this
      exact Option.some.inj this
    rw [eg] at ea
    have hr : RowW B r := hw r (by rw [← e]; simp)
    have et : (rs.map rowD).take ah.length = ah.map rowD := by rw [← e, List.map_append, List.take_left' (by simp)]
    have hah : ah.length ≤ 100 := by omega
    have eb := e_is_bad (n := n) (μ := μ) (ah := ah) hls hr hB hah
    have z3 : (rs.map rowD).length ≤ 16777216 := by simp; omega
    have ek : ((ah.length : Nat) : Int) + 1 = ((ah ++ [r]).length : Nat) := by simp
    unfold fbG
    by_cases hb : badB n ls ah r = true
    · rw [if_pos hb]
      refine .inr ⟨ah.length, rfl, ?_⟩
      rw [hb] at eb
      refine rng_rt (sd0 := [fz x, fI n, fz (Lprs ls), fI ah.length]) ?_
      simp [B1_first_bad, hv, ea, et, eb]
    · rw [if_neg hb]
      have hb' : badB n ls ah r = false := by simpa using hb
      rw [hb'] at eb
      have step : B1_first_bad [fz x, fI n, fz (Lprs ls), fI ah.length] μ = .nx [fz x, fI n, fz (Lprs ls), fI ah.length] μ := by
        simp [B1_first_bad, hv, ea, et, eb]
      rcases fb_loop hx hls hB hw hl rest (ah ++ [r]) (fI ah.length) (by rw [← e]; simp) with ⟨h1, t3', h2⟩ | ⟨k, h1, h2⟩
      · refine .inl ⟨h1, t3', ?_⟩
        rw [← ek] at h2
        exact rng_nx step h2
      · refine .inr ⟨k, h1, ?_⟩
        rw [← ek] at h2
        exact rng_nx step h2
def oN (o : Option Nat) : D := match o with
  | none => .non
  | some k => .int k
theorem e_first_bad {x : D} {L : Lk} {rs : List Row} (hx : IsL μ x (rs.map rowD) L) (hls : ls.length ≤ 14) {B : Nat} (hB : B ≤ 1000) (hw : ∀ r ∈ rs, RowW B r) (hl : rs.length ≤ 100) : F_first_bad [x, .int n, Lprs ls] μ = .ok (.d (oN (fbG n ls [] rs))) μ := by
  have hv := fun {sd} => hx.vw (sd := sd)
  have r1 : Rg1 (rs.length : Int) := rg1_nat (by omega)
  have z3 : rs.length ≤ 16777216 := by omega
  rcases fb_loop (n := n) hx hls hB hw hl rs [] none rfl with ⟨h1, t3', h2⟩ | ⟨k, h1, h2⟩
  · rw [h1]
    simp only [List.length_nil, Int.natCast_zero] at h2
    simp [F_first_bad, runF_eq, hv, r1, z3, h2, oN]
  · rw [h1]
    simp only [List.length_nil, Int.natCast_zero] at h2
    simp [F_first_bad, runF_eq, hv, r1, z3, h2, oN]
end
end WY
namespace WY
open PySem PySem.Spec L2 TL
theorem lcF_filL {α : Type} {L : Lk} {tg : Tg} {T : FT} {A : FE} {sd : SD} {μ : Mu} {e : α → D} (t : α → Bool) (f : α → D) (hl : lkOk L μ) : ∀ {xs : List α} {acc : List D},
    (∀ x ∈ xs, ∃ sd', tg.bf (e x) sd = some sd' ∧ T sd' μ = .ok (t x) μ ∧ (t x = true → ∃ r, A sd' μ = .ok r μ ∧ r.tree = some (f x))) →
    lcF L tg T A sd (xs.map e) acc μ = .ok (.new (.lst (acc ++ (xs.filter t).map f))) μ
  | [], acc, _ => by simp [lcF, hl]
  | x :: xs, acc, h => by
    obtain ⟨sd', h1, h2, h3⟩ := h x (by simp)
    have ih := fun {acc : List D} => lcF_filL t f hl (xs := xs) (acc := acc) fun y hy => h y (by simp [hy])
    rw [List.map_cons, lcF, if_pos hl, h1]
    dsimp only
    rw [h2]
    cases q : t x with
    | false =>
      dsimp only
      simp [ih, q]
    | true =>
      obtain ⟨r, h4, h5⟩ := h3 q
      simp [h4, h5, ih, q]
/-! Told, good or bad, of rows whose lists may stand in the store; k11 -/
inductive HR (μ : Mu) : List Row → List D → Prop
  | nil : HR μ [] []
  | cons (r : Row) (rs : List Row) (x : D) (ds : List D) (L : Lk) : IsL μ x (r.ws.map D.int) L → HR μ rs ds → HR μ (r :: rs) (.tup [.int r.p, .int r.g, oD r.c, x] :: ds)
theorem HR.app {μ : Mu} {rs : List Row} {ds : List D} (h : HR μ rs ds) {t : Mu} : HR (μ ++ t) rs ds := by
  induction h with
  | nil => exact .nil
  | cons r rs x ds L hx _ ih => exact .cons r rs x ds L hx.app ih
theorem HR.len {μ : Mu} {rs : List Row} {ds : List D} (h : HR μ rs ds) : ds.length = rs.length := by
  induction h with
  | nil => rfl
  | cons r rs x ds L hx _ ih => simp [ih]
section
variable {n : Int} {ls : Prs}
theorem e_good11 {r : Row} {B a : Nat} {fs : List (Nat × D)} {μ : Mu} {x : D} {L : Lk} (hls : ls.length ≤ 14) (hr : RowW B r) (hB : B ≤ 1000) (hx : IsL μ x (r.ws.map D.int) L) (ha : μ[a]? = some (.ins 2 fs)) (hf : fs.lookup 2 = some (landD n ls)) :
    F_Told_is_good [.ref a, .int r.p, .int r.g, oD r.c, x] μ = .ok (.d (.bl (gdB n ls r))) μ := by
  have h2 : fc_land.elem 2 = true := by decide
  have hl : ls.length < 1000 := by omega
  have hv := fun {sd} => hx.vw (sd := sd)
  have hi := hx.it
  have z2 : r.ws.length ≤ 16777216 := by have := hr.len; omega
  have hb : ∀ z : Int, ∀ {b c d e f g : Option SV}, B1_Told_is_good [fz (.ref a), b, c, d, e, fI z, f, g] μ = if 0 ≤ z ∧ z < n then .nx [fz (.ref a), b, c, d, e, fI z, f, g] μ else .rt (.d (.bl false)) μ := by
    intro z b c d e f g
    by_cases q1 : z < 0
    · rw [if_neg (by omega)]
      simp [B1_Told_is_good, q1]
    · by_cases q2 : n ≤ z
      · rw [if_neg (by omega)]
        simp [B1_Told_is_good, ha, hf, h2, q1, q2]
      · rw [if_pos (by omega)]
        simp [B1_Told_is_good, ha, hf, h2, q1, q2]
  have el : ∀ {b c d e g h : Option SV}, forF none (.n 5) B1_Told_is_good [.int r.p, .int r.g] [fz (.ref a), b, c, d, e, none, g, h] μ = if (0 ≤ r.p ∧ r.p < n) ∧ (0 ≤ r.g ∧ r.g < n) then .nx [fz (.ref a), b, c, d, e, fI r.g, g, h] μ else .rt (.d (.bl false)) μ := by
    intro b c d e g h
    have b1 := hb r.p (b := b) (c := c) (d := d) (e := e) (f := g) (g := h)
    have b2 := hb r.g (b := b) (c := c) (d := d) (e := e) (f := g) (g := h)
    by_cases q1 : 0 ≤ r.p ∧ r.p < n
    · rw [if_pos q1] at b1
      by_cases q2 : 0 ≤ r.g ∧ r.g < n
      · rw [if_pos q2] at b2
        rw [if_pos ⟨q1, q2⟩]
        exact for_nx b1 (for_nx b2 forF_nil)
      · rw [if_neg q2] at b2
        rw [if_neg fun z => q2 z.2]
        exact for_nx b1 (for_rt b2)
    · rw [if_neg q1] at b1
      rw [if_neg fun z => q1 z.1]
      exact for_rt b1
  have eo := fun μ => e_out_of (n := n) (ls := ls) (p := r.p) hl (μ := μ)
  have ei := fun μ => e_into (n := n) (ls := ls) (p := r.p) hl (μ := μ)
  have e3 := fun {x3 : D} => lcF_filL (L := L) (tg := .n 7) (T := CT1_Told_is_good) (A := CE1_Told_is_good) (sd := [fz (.ref a), fI r.p, fI r.g, fz x3, fz x, fI r.g, fz (Lint (outL ls r.p)), none]) (μ := μ) (e := D.int) (fun w => decide (w ∉ outL ls r.p)) D.int hx.lk (xs := r.ws) (acc := []) (fun w hw => by
    refine ⟨[fz (.ref a), fI r.p, fI r.g, fz x3, fz x, fI r.g, fz (Lint (outL ls r.p)), fI w], rfl, ?_, fun _ => ⟨.d (.int w), by simp [CE1_Told_is_good], rfl⟩⟩
    simp [CT1_Told_is_good])
  have e1 : (decide (r.ws.filter (fun w => decide (w ∉ outL ls r.p)) = [])) = r.ws.all fun w => decide (w ∈ outL ls r.p) := by
    rw [Bool.eq_iff_iff]
    simp [List.filter_eq_nil_iff]
  generalize hF1 : r.ws.filter (fun w => decide (w ∉ outL ls r.p)) = F1 at e3 e1
  rw [List.nil_append] at e3
  unfold gdB
  rw [← e1]
  by_cases q1 : (0 ≤ r.p ∧ r.p < n) ∧ (0 ≤ r.g ∧ r.g < n)
  · simp only [if_pos q1] at el
    by_cases q2 : r.p = r.g
    · have q3 : ¬ ((0 ≤ r.p ∧ r.p < n) ∧ (0 ≤ r.g ∧ r.g < n) ∧ r.p ≠ r.g) := fun z => z.2.2 q2
      rw [decide_eq_false q3]
      simp only [q2] at el
      simp [F_Told_is_good, runF_eq, el, q2]
    · have q3 : ((0 ≤ r.p ∧ r.p < n) ∧ (0 ≤ r.g ∧ r.g < n) ∧ r.p ≠ r.g) := ⟨q1.1, q1.2, q2⟩
      rw [decide_eq_true q3]
      unfold cB
      cases hc : r.c with
      | none =>
        have e3' := e3 (x3 := .non)
        simp [F_Told_is_good, runF_eq, el, q2, ha, hf, h2, d_out_of, eo, z2, hi, e3']
      | some i =>
        have e3' := e3 (x3 := .int i)
        by_cases q4 : i ∈ intoL ls r.p
        · simp [F_Told_is_good, runF_eq, el, q2, ha, hf, h2, d_out_of, d_into, eo, ei, z2, hi, e3', q4]
        · simp [F_Told_is_good, runF_eq, el, q2, ha, hf, h2, d_out_of, d_into, eo, ei, q4]
  · simp only [if_neg q1] at el
    have q3 : ¬ ((0 ≤ r.p ∧ r.p < n) ∧ (0 ≤ r.g ∧ r.g < n) ∧ r.p ≠ r.g) := fun z => q1 ⟨z.1, z.2.1⟩
    rw [decide_eq_false q3]
    simp [F_Told_is_good, runF_eq, el]
theorem sortD_len : ∀ {l : List Int}, (sortD l).length ≤ l.length
  | [] => by simp [sortD]
  | x :: r => by
    have := sortD_len (l := r)
    rw [sortD, List.length_cons]
    have : (insD x (sortD r)).length ≤ (sortD r).length + 1 := by
      have : ∀ l : List Int, (insD x l).length ≤ l.length + 1 := fun l => by
        induction l with
        | nil => simp [insD]
        | cons a l ih =>
          simp only [insD]
          split
          · simp
          · split
            · simp
            · simpa using ih
      exact this _
    omega
theorem any_dlook {r : Row} : ∀ {ah : List Row}, ah.any (sameB r) = (dlook (key3 r.p r.g r.c) (kvs ah)).isSome
  | [] => rfl
  | a :: ah => by
    show (sameB r a || ah.any (sameB r)) = (dlook (key3 r.p r.g r.c) ((keyR a, Lint (sortD a.ws)) :: kvs ah)).isSome
    rw [dlook, any_dlook (ah := ah)]
    unfold sameB keyR
    by_cases h : a.p = r.p ∧ a.g = r.g ∧ a.c = r.c
    · rw [if_pos (key3_inj.mpr h), decide_eq_true h]
      rfl
    · rw [if_neg (fun z => h (key3_inj.mp z)), decide_eq_false h]
      rfl
theorem told11 {μ : Mu} {x y : Option SV} {L : Lk} (hls : ls.length ≤ 14) (hlk : lkOk L μ) : ∀ (rest ah : List Row) (ds : List D) (d3 d4 d5 d6 d7 d8 : Option SV), HR μ rest ds → (∀ r ∈ rest, RowW 60 r) → ah.length + rest.length ≤ 1000 → (∀ l : Lk, l = L → ∀ t, lkOk l (μ ++ t)) →
    (fbG n ls ah rest = none ∧ ∃ d3' d4' d5' d6' d7' d8', forF L (.t [3, 4]) B1_Told_init ((ds.zipIdx ah.length).map fun q => D.tup [.int (q.2 : Nat), q.1]) [fz (.ref μ.length), x, y, d3, d4, d5, d6, d7, d8] (μ ++ [.ins 2 [(2, landD n ls), (3, .ref (μ.length + 1))], .box (.dic true (kvs ah))]) =
      .nx [fz (.ref μ.length), x, y, d3', d4', d5', d6', d7', d8'] (μ ++ [.ins 2 [(2, landD n ls), (3, .ref (μ.length + 1))], .box (.dic true (kvs (ah ++ rest)))])) ∨
    ∃ (k : Nat) (sd : SD) (kv : List (NestedKey × D)), fbG n ls ah rest = some k ∧ forF L (.t [3, 4]) B1_Told_init ((ds.zipIdx ah.length).map fun q => D.tup [.int (q.2 : Nat), q.1]) [fz (.ref μ.length), x, y, d3, d4, d5, d6, d7, d8] (μ ++ [.ins 2 [(2, landD n ls), (3, .ref (μ.length + 1))], .box (.dic true (kvs ah))]) =
      .ex 24 [(30, .int k)] sd (μ ++ [.ins 2 [(2, landD n ls), (3, .ref (μ.length + 1))], .box (.dic true kv)])
  | [], ah, _, d3, d4, d5, d6, d7, d8, .nil, _, _, hap => .inl ⟨rfl, d3, d4, d5, d6, d7, d8, by rw [List.append_nil]; exact forL_nil (hap L rfl _)⟩
  | r :: rest, ah, _, d3, d4, d5, d6, d7, d8, .cons _ _ z ds Lz hz hds, hw, hn, hap => by
    have hr := hw r (by simp)
    have hsl := sortD_len (l := r.ws)
    have ha : (μ ++ [Nd.ins 2 [(2, landD n ls), (3, .ref (μ.length + 1))], .box (.dic true (kvs ah))])[μ.length]? = some (.ins 2 [(2, landD n ls), (3, .ref (μ.length + 1))]) := by simp
    have hb : (μ ++ [Nd.ins 2 [(2, landD n ls), (3, .ref (μ.length + 1))], .box (.dic true (kvs ah))])[μ.length + 1]? = some (.box (.dic true (kvs ah))) := by simp
    have hz2 := hz.app (t := [Nd.ins 2 [(2, landD n ls), (3, .ref (μ.length + 1))], .box (.dic true (kvs ah))])
    have hv := fun {sd} => hz2.vw (sd := sd)
    have eg := e_good11 (n := n) hls hr (by omega) hz2 ha rfl
    have hany := any_dlook (r := r) (ah := ah)
    have hle : (kvs ah).length < 16777216 := by simp [kvs]; simp at hn; omega
    have hrl := hr.len
    have hfew : r.ws.length < 4000 ∧ (sortD r.ws).length < 64 := by omega
    have hpre : forF L (.t [3, 4]) B1_Told_init ((((.tup [.int r.p, .int r.g, oD r.c, z]) :: ds).zipIdx ah.length).map fun q => D.tup [.int (q.2 : Nat), q.1]) [fz (.ref μ.length), x, y, d3, d4, d5, d6, d7, d8] (μ ++ [.ins 2 [(2, landD n ls), (3, .ref (μ.length + 1))], .box (.dic true (kvs ah))]) =
        forK L (.t [3, 4]) B1_Told_init ((ds.zipIdx (ah.length + 1)).map fun q => D.tup [.int (q.2 : Nat), q.1]) (B1_Told_init [fz (.ref μ.length), x, y, fI ah.length, fz (.tup [.int r.p, .int r.g, oD r.c, z]), d5, d6, d7, d8] (μ ++ [.ins 2 [(2, landD n ls), (3, .ref (μ.length + 1))], .box (.dic true (kvs ah))])) := by
      rw [List.zipIdx_cons, List.map_cons, forL_cons (hap L rfl _) (by rfl)]
      rfl
    rw [hpre]
    unfold fbG badB
    rw [hany]
    by_cases hd : (dlook (key3 r.p r.g r.c) (kvs ah)).isSome = true
    · rw [hd, Bool.or_true, if_pos rfl]
      refine .inr ⟨ah.length, [fz (.ref μ.length), x, y, fI ah.length, fz (.tup [.int r.p, .int r.g, oD r.c, z]), fI r.p, fI r.g, fz (oD r.c), fz z], kvs ah, rfl, ?_⟩
      have body : B1_Told_init [fz (.ref μ.length), x, y, fI ah.length, fz (.tup [.int r.p, .int r.g, oD r.c, z]), d5, d6, d7, d8] (μ ++ [.ins 2 [(2, landD n ls), (3, .ref (μ.length + 1))], .box (.dic true (kvs ah))]) = .ex 24 [(30, .int ah.length)] [fz (.ref μ.length), x, y, fI ah.length, fz (.tup [.int r.p, .int r.g, oD r.c, z]), fI r.p, fI r.g, fz (oD r.c), fz z] (μ ++ [.ins 2 [(2, landD n ls), (3, .ref (μ.length + 1))], .box (.dic true (kvs ah))]) := by
        simp [B1_Told_init, ha, hb, hd]
      rw [body, forK_ex]
    · have hd' : (dlook (key3 r.p r.g r.c) (kvs ah)).isSome = false := by simpa using hd
      rw [hd', Bool.or_false]
      have hno : dlook (key3 r.p r.g r.c) (kvs ah) = none := by simpa using hd'
      cases hg : gdB n ls r with
      | false =>
        rw [hg] at eg
        refine .inr ⟨ah.length, [fz (.ref μ.length), x, y, fI ah.length, fz (.tup [.int r.p, .int r.g, oD r.c, z]), fI r.p, fI r.g, fz (oD r.c), fz z], kvs ah, rfl, ?_⟩
        have body : B1_Told_init [fz (.ref μ.length), x, y, fI ah.length, fz (.tup [.int r.p, .int r.g, oD r.c, z]), d5, d6, d7, d8] (μ ++ [.ins 2 [(2, landD n ls), (3, .ref (μ.length + 1))], .box (.dic true (kvs ah))]) = .ex 24 [(30, .int ah.length)] [fz (.ref μ.length), x, y, fI ah.length, fz (.tup [.int r.p, .int r.g, oD r.c, z]), fI r.p, fI r.g, fz (oD r.c), fz z] (μ ++ [.ins 2 [(2, landD n ls), (3, .ref (μ.length + 1))], .box (.dic true (kvs ah))]) := by
          simp [B1_Told_init, ha, hb, hno, d_is_good, eg]
        rw [body, forK_ex]
      | true =>
        rw [hg] at eg
        have hput : dput (key3 r.p r.g r.c) (Lint (sortD r.ws)) (kvs ah) = kvs (ah ++ [r]) := by
          unfold dput
          rw [hno]
          simp [kvs, keyR]
        have body : B1_Told_init [fz (.ref μ.length), x, y, fI ah.length, fz (.tup [.int r.p, .int r.g, oD r.c, z]), d5, d6, d7, d8] (μ ++ [.ins 2 [(2, landD n ls), (3, .ref (μ.length + 1))], .box (.dic true (kvs ah))]) = .nx [fz (.ref μ.length), x, y, fI ah.length, fz (.tup [.int r.p, .int r.g, oD r.c, z]), fI r.p, fI r.g, fz (oD r.c), fz z] (μ ++ [.ins 2 [(2, landD n ls), (3, .ref (μ.length + 1))], .box (.dic true (kvs (ah ++ [r])))]) := by
          simp [B1_Told_init, ha, hb, hno, d_is_good, eg, hle, hput, hv, hfew]
        rw [body, forK_nx]
        have e2 : ah ++ [r] ++ rest = ah ++ r :: rest := by simp
        have el : (ah ++ [r]).length = ah.length + 1 := by simp
        have ih := told11 (x := x) (y := y) (μ := μ) (L := L) hls hlk rest (ah ++ [r]) ds (fI ah.length) (fz (.tup [.int r.p, .int r.g, oD r.c, z])) (fI r.p) (fI r.g) (fz (oD r.c)) (fz z) hds (fun w hw2 => hw w (by simp [hw2])) (by simp at hn ⊢; omega) hap
        rw [e2, el] at ih
        simpa using ih
theorem e_Told11 {μ : Mu} {x : D} {L : Lk} {rs : List Row} {ds : List D} (hls : ls.length ≤ 14) (hx : IsL μ x ds L) (hds : HR μ rs ds) (hw : ∀ r ∈ rs, RowW 60 r) (hl : rs.length ≤ 1000) :
    mkF 2 2 F_Told_init [] [landD n ls, x] μ = match fbG n ls [] rs with
      | some k => .ex 24 [(30, .int (k : Int))] μ
      | none => .ok (.d (toldD n ls rs)) μ := by
  have happ : ∀ l : Lk, l = L → ∀ t, lkOk l (μ ++ t) := fun l hl t => by subst hl; exact (hx.app (t := t)).lk
  have hi := fun t => (hx.app (t := t)).it
  have he := fun {p μ'} => hx.en (p := p) (μ' := μ')
  have hv := fun {sd t} => (hx.app (t := t)).vw (sd := sd)
  have h0 : kvs [] = [] := rfl
  have en : enumD ds = (ds.zipIdx 0).map fun q => D.tup [.int (q.2 : Nat), q.1] := rfl
  have z1 : ds.length ≤ 16777216 := by rw [hds.len]; omega
  rcases told11 (n := n) (x := fz (landD n ls)) (y := fz x) hls hx.lk rs [] ds none none none none none none hds hw (by simpa using hl) happ with ⟨h1, a, b, c, d, e, f, h⟩ | ⟨k, sd, kv, h1, h⟩
  · rw [h1]
    simp only [h0, List.nil_append, List.length_nil] at h
    simp [mkF, F_Told_init, runF_eq, F_Table_init, hi, he, en, h, cutE, resF, res1, belK_kvs, toldD]
    rw [if_neg (by omega)]
  · rw [h1]
    simp only [h0, List.nil_append, List.length_nil] at h
    refine mkF_ex (t := [.ins 2 [(2, landD n ls), (3, .ref (μ.length + 1))], .box (.dic true kv)]) ?_ (by simp)
    simp [F_Told_init, runF_eq, F_Table_init, hi, he, en, h]
theorem e_refused {μ : Mu} {x : D} {L : Lk} {rs : List Row} {ds : List D} (hls : ls.length ≤ 14) (hx : IsL μ x ds L) (hds : HR μ rs ds) (hw : ∀ r ∈ rs, RowW 60 r) (hl : rs.length ≤ 1000) :
    F_refused [landD n ls, x] μ = .ok (.d (oN (fbG n ls [] rs))) μ := by
  have h := e_Told11 (n := n) hls hx hds hw hl
  have k1 : em_YardError 24 = some true := rfl
  have k2 : isx_NoEntry 24 = some true := rfl
  have k3 : isxOr isx_NoRoad isx_NoMove 24 = some false := rfl
  cases e : fbG n ls [] rs with
  | none =>
    rw [e] at h
    simp [F_refused, runF_eq, h, oN]
  | some k =>
    rw [e] at h
    simp [F_refused, runF_eq, h, oN, tryAK_ex k1, k2, k3]
end
end WY
namespace WY
open PySem PySem.Spec L2 TL
/-! what a told table tells, k11 -/
theorem tab_told {n : Int} {ls : Prs} {rs : List Row} : IsTab (toldD n ls rs) n ls (toldW rs) := ⟨⟨2, rfl, fun _ => rfl, fun p g o μ _ _ => e_told_ways⟩, fun _ => rfl, fun _ _ => rfl⟩
def plainD (n : Int) (ls : Prs) : D := .obj 1 [(2, landD n ls)]
@[simp] theorem vw_plain {n : Int} {ls : Prs} {μ : Mu} {sd : SD} : vw μ sd (.d (plainD n ls)) = plainD n ls := rfl
theorem e_plain {n : Int} {ls : Prs} {μ : Mu} : mkF 1 1 F_Table_init [] [landD n ls] μ = .ok (.d (plainD n ls)) μ := by
  refine mkF_ok ?_ (by simp)
  simp [F_Table_init, runF_eq]
theorem tab_plain {n : Int} {ls : Prs} : IsTab (plainD n ls) n ls (toldW []) := ⟨⟨1, rfl, fun _ => rfl, fun p g o μ _ _ => by
  show F_Table_ways _ μ = .ok (.new (Lint [])) μ
  simp [F_Table_ways, runF_eq]⟩, fun _ => rfl, fun _ _ => rfl⟩
def cm11 (ls : Prs) (p : Int) : List (Option Int) := none :: (intoL ls p).map some
theorem cm11_D {ls : Prs} {p : Int} : .non :: (intoL ls p).map D.int = (cm11 ls p).map oD := by simp [cm11, Function.comp_def]
section
variable {n : Int} {ls : Prs} {μ : Mu} {T : D} {rs : List Row}
theorem due11 {L : Lk} (hlk : lkOk L μ) {x0 x1 x2 x3 : Option SV} {t9 t10 : Option SV} : ∀ (rest ah : List Row) (t5 t6 t7 t8 : Option SV), fbG n ls ah rest = none → (∀ r ∈ rest, RowW 60 r) → ah.length + rest.length ≤ 1000 →
    ∃ t5' t6' t7' t8', forF L (.t [5, 6, 7, 8]) B1_right (rest.map rowD) [x0, x1, x2, x3, ow (.dic true (kvs ah)), t5, t6, t7, t8, t9, t10] μ = .nx [x0, x1, x2, x3, ow (.dic true (kvs (ah ++ rest))), t5', t6', t7', t8', t9, t10] μ
  | [], ah, t5, t6, t7, t8, _, _, _ => ⟨t5, t6, t7, t8, by rw [List.append_nil]; exact forL_nil hlk⟩
  | r :: rest, ah, t5, t6, t7, t8, hf, hw, hn => by
    unfold fbG at hf
    split at hf
    · cases hf
    · next hb =>
      have hb' : badB n ls ah r = false := by simpa using hb
      unfold badB at hb'
      rw [Bool.or_eq_false_iff, any_dlook] at hb'
      have hno : dlook (key3 r.p r.g r.c) (kvs ah) = none := by simpa using hb'.2
      have hr := hw r (by simp)
      have hsl := sortD_len (l := r.ws)
      have hrl := hr.len
      have hfew : r.ws.length < 4000 ∧ (sortD r.ws).length < 64 := by omega
      have hle : (kvs ah).length < 16777216 := by simp [kvs]; simp at hn; omega
      have hput : dput (key3 r.p r.g r.c) (Lint (sortD r.ws)) (kvs ah) = kvs (ah ++ [r]) := by
        unfold dput
        rw [hno]
        simp [kvs, keyR]
      have body : B1_right [x0, x1, x2, x3, ow (.dic true (kvs ah)), fI r.p, fI r.g, fz (oD r.c), fz (Lint r.ws), t9, t10] μ = .nx [x0, x1, x2, x3, ow (.dic true (kvs (ah ++ [r]))), fI r.p, fI r.g, fz (oD r.c), fz (Lint r.ws), t9, t10] μ := by
        simp [B1_right, hfew, hle, hput]
      have e2 : ah ++ [r] ++ rest = ah ++ r :: rest := by simp
      obtain ⟨a, b, c, d, ih⟩ := due11 hlk (x0 := x0) (x1 := x1) (x2 := x2) (x3 := x3) (t9 := t9) (t10 := t10) rest (ah ++ [r]) (fI r.p) (fI r.g) (fz (oD r.c)) (fz (Lint r.ws)) hf (fun z hz => hw z (by simp [hz])) (by simp at hn ⊢; omega)
      rw [e2] at ih
      refine ⟨a, b, c, d, ?_⟩
      rw [List.map_cons, forL_cons hlk (sd' := [x0, x1, x2, x3, ow (.dic true (kvs ah)), fI r.p, fI r.g, fz (oD r.c), fz (Lint r.ws), t9, t10]) (by rfl), body, forK_nx]
      exact ih
theorem toldW_len (hw : ∀ r ∈ rs, RowW 60 r) (p g : Int) (c : Option Int) : (toldW rs p g c).length ≤ 60 := by
  unfold toldW
  split
  · next r e =>
    have hm : r ∈ rs := List.mem_of_find?_eq_some e
    have := (hw r hm).len
    have := sortD_len (l := r.ws)
    omega
  · simp
theorem cm_loop11 (hT : IsTab T n ls (toldW rs)) (hw : ∀ r ∈ rs, RowW 60 r) {p g : Int} (hp : 0 ≤ p ∧ p < n) (hg : 0 ≤ g ∧ g < n) {x1 x2 x3 x8 x10 : Option SV} : ∀ (cs : List (Option Int)) (t7 t9 : Option SV), ∃ t7' t9', forF none (.n 7) B2_right (cs.map oD) [fz T, x1, x2, x3, fz (.dic true (kvs rs)), fI p, fI g, t7, x8, t9, x10] μ = .nx [fz T, x1, x2, x3, fz (.dic true (kvs rs)), fI p, fI g, t7', x8, t9', x10] μ
  | [], t7, t9 => ⟨t7, t9, forF_nil⟩
  | c :: cs, t7, t9 => by
    obtain ⟨a, b, ih⟩ := cm_loop11 hT hw hp hg (x1 := x1) (x2 := x2) (x3 := x3) (x8 := x8) (x10 := x10) cs (fz (oD c)) (ow (.lst ((toldW rs p g c).map D.int ++ [.int 0])))
    obtain ⟨⟨cl, hc, hcl, hwy⟩, hf, hv⟩ := id hT
    have hc' := hc
    simp at hc'
    have ew := hwy p g c μ hp hg
    have hl := toldW_len hw p g c
    have hl2 : (toldW rs p g c).length < 16777216 := by omega
    have hdl := dlook_kvs (p := p) (g := g) (c := c) (rs := rs)
    refine ⟨a, b, for_nx (sd0 := [fz T, x1, x2, x3, fz (.dic true (kvs rs)), fI p, fI g, fz (oD c), x8, t9, x10]) ?_ ih⟩
    cases q : atR rs p g c with
    | none =>
      rw [q] at hdl
      have e0 : toldW rs p g c = [] := by unfold toldW; rw [q]
      rw [e0] at ew hl2 ⊢
      simp [B2_right, hcl, hc', ew, hdl]
    | some r =>
      rw [q] at hdl
      have e0 : toldW rs p g c = sortD r.ws := by unfold toldW; rw [q]
      rw [e0] at ew hl2 ⊢
      simp at hdl
      generalize sortD r.ws = wl at *
      simp [B2_right, hcl, hc', ew, hdl, hl2]
theorem g_loop11 (hT : IsTab T n ls (toldW rs)) (hw : ∀ r ∈ rs, RowW 60 r) (hls : ls.length ≤ 14) {p : Int} (hp : 0 ≤ p ∧ p < n) {x1 x2 x8 x10 : Option SV} : ∀ (m : Nat) (g : Int) (t6 t7 t9 : Option SV), 0 ≤ g → g + m ≤ n → ∃ t6' t7' t9', forF none (.n 6) B3_right (rngD g m) [fz T, x1, x2, fz (Lprs ls), fz (.dic true (kvs rs)), fI p, t6, t7, x8, t9, x10] μ = .nx [fz T, x1, x2, fz (Lprs ls), fz (.dic true (kvs rs)), fI p, t6', t7', x8, t9', x10] μ
  | 0, g, t6, t7, t9, _, _ => ⟨t6, t7, t9, rng_nil⟩
  | m + 1, g, t6, t7, t9, h0, h1 => by
    obtain ⟨a, b, hcl⟩ := cm_loop11 (μ := μ) hT hw hp (g := g) (by omega) (x1 := x1) (x2 := x2) (x3 := fz (Lprs ls)) (x8 := x8) (x10 := x10) (cm11 ls p) t7 t9
    obtain ⟨c, d, e, ih⟩ := g_loop11 hT hw hls hp (x1 := x1) (x2 := x2) (x8 := x8) (x10 := x10) m (g + 1) (fI g) a b (by omega) (by omega)
    refine ⟨c, d, e, rng_nx (sd0 := [fz T, x1, x2, fz (Lprs ls), fz (.dic true (kvs rs)), fI p, fI g, t7, x8, t9, x10]) ?_ ih⟩
    have z1 : ls.length ≤ 16777216 := by omega
    have z2 : (rngD 0 ls.length).length ≤ 16777216 := by rw [rngD_len]; omega
    have r1 : Rg1 (ls.length : Int) := rg1_nat (by omega)
    have lc1 := lcF_fil (tg := .n 10) (T := CT1_right) (A := CE1_right) (sd := [fz T, x1, x2, fz (Lprs ls), fz (.dic true (kvs rs)), fI p, fI g, t7, x8, t9, none]) (μ := μ) (e := fun k : Nat => D.int k) (fun k => decide ((ls.getD k (0, 0)).2 = p)) (fun k : Nat => D.int k) (xs := List.range ls.length) (fun k hk => by
      have hk' := List.mem_range.mp hk
      have ea := at_map (f := TL.prD) hk'
      refine ⟨_, rfl, ?_, fun _ => ⟨.d (.int k), by simp [CE1_right], rfl⟩⟩
      simp [CT1_right, ea, TL.prD, hk'])
    have er : ((List.range ls.length).map fun k : Nat => D.int k) = rngD 0 ls.length := by rw [rngD_irg]; unfold irg; rw [List.map_map]; exact List.map_congr_left fun k _ => by simp
    have ei : (((List.range ls.length).filter fun k => decide ((ls.getD k (0, 0)).2 = p)).map fun k : Nat => D.int k) = (intoL ls p).map D.int := by unfold intoL; rw [List.map_map]; rfl
    rw [er, ei] at lc1
    have il : (intoL ls p).length ≤ 14 := by
      unfold intoL
      rw [List.length_map]
      have := List.length_filter_le (fun k => decide ((ls.getD k (0, 0)).2 = p)) (List.range ls.length)
      simp at this ⊢
      omega
    have z3 : 1 + (intoL ls p).length ≤ 16777216 := by omega
    rw [← cm11_D] at hcl
    simp [B3_right, z1, z2, z3, r1, lc1, hcl]
theorem p_loop11 (hT : IsTab T n ls (toldW rs)) (hn : n ≤ 12) (hw : ∀ r ∈ rs, RowW 60 r) (hls : ls.length ≤ 14) {x1 x8 x10 : Option SV} : ∀ (m : Nat) (p : Int) (t5 t6 t7 t9 : Option SV), 0 ≤ p → p + m ≤ n → ∃ t5' t6' t7' t9', forF none (.n 5) B4_right (rngD p m) [fz T, x1, fI n, fz (Lprs ls), fz (.dic true (kvs rs)), t5, t6, t7, x8, t9, x10] μ = .nx [fz T, x1, fI n, fz (Lprs ls), fz (.dic true (kvs rs)), t5', t6', t7', x8, t9', x10] μ
  | 0, p, t5, t6, t7, t9, _, _ => ⟨t5, t6, t7, t9, rng_nil⟩
  | m + 1, p, t5, t6, t7, t9, h0, h1 => by
    obtain ⟨a, b, c, hg⟩ := g_loop11 (μ := μ) hT hw hls (p := p) (by omega) (x1 := x1) (x2 := fI n) (x8 := x8) (x10 := x10) n.toNat 0 t6 t7 t9 (by omega) (by omega)
    obtain ⟨d, e, f, g, ih⟩ := p_loop11 hT hn hw hls (x1 := x1) (x8 := x8) (x10 := x10) m (p + 1) (fI p) a b c (by omega) (by omega)
    have r1 : Rg1 n := rg1_ok (by omega)
    refine ⟨d, e, f, g, rng_nx (sd0 := [fz T, x1, fI n, fz (Lprs ls), fz (.dic true (kvs rs)), fI p, t6, t7, x8, t9, x10]) ?_ ih⟩
    simp [B4_right, r1, hg]
theorem e_right {x : D} {L : Lk} (hx : IsL μ x (rs.map rowD) L) (hT : IsTab T n ls (toldW rs)) (hn : 1 ≤ n ∧ n ≤ 12) (hw : ∀ r ∈ rs, RowW 60 r) (hl : rs.length ≤ 100) (hls : ls.length ≤ 14) (hf : fbG n ls [] rs = none) : F_right [T, x, .int n, Lprs ls] μ = .ok (.d (.bl true)) μ := by
  have hi := hx.it
  obtain ⟨a, b, c, d, h1⟩ := due11 (n := n) (ls := ls) hx.lk (x0 := fz T) (x1 := fz x) (x2 := fI n) (x3 := fz (Lprs ls)) (t9 := none) (t10 := none) rs [] none none none none hf hw (by simp; omega)
  obtain ⟨e, f, g, h, h2⟩ := p_loop11 (μ := μ) hT hn.2 hw hls (x1 := fz x) (x8 := d) (x10 := none) n.toNat 0 a b c none (by omega) (by omega)
  have r1 : Rg1 n := rg1_ok (by omega)
  have h0 : kvs [] = [] := rfl
  rw [h0, List.nil_append] at h1
  simp [F_right, runF_eq, hi, h1, r1, h2]
end
end WY
namespace WY
open PySem PySem.Spec L2 TL
def hdD : Nat → List Row → List D
  | _, [] => []
  | k, r :: rs => .tup [.int r.p, .int r.g, oD r.c, .ref k] :: hdD (k + 1) rs
def bxL (rs : List Row) : Mu := rs.map fun r => Nd.box (Lint r.ws)
def bxL2 (rs : List Row) : Mu := rs.map fun r => Nd.box (.lst (r.ws.map D.int ++ [.int 0]))
theorem hdD_len : ∀ (k : Nat) (rs : List Row), (hdD k rs).length = rs.length
  | _, [] => rfl
  | k, r :: rs => by simp [hdD, hdD_len (k + 1) rs]
theorem comp11 {L : Lk} {x0 x1 x2 x3 x4 x5 x6 x7 : Option SV} : ∀ (rs : List Row) (acc : List D) (μ : Mu), (∀ t, lkOk L (μ ++ t)) → (∀ r ∈ rs, RowW 60 r) →
    lcF L (.n 8) fYes CE1_law [x0, x1, x2, x3, x4, x5, x6, x7, none] (rs.map rowD) acc μ = .ok (.new (.lst (acc ++ hdD μ.length rs))) (μ ++ bxL rs)
  | [], acc, μ, hl, _ => by
    have := hl []
    rw [List.append_nil] at this
    simp [lcF, this, hdD, bxL]
  | r :: rs, acc, μ, hl, hw => by
    have h0 := hl []
    rw [List.append_nil] at h0
    have hrl := (hw r (by simp)).len
    have z1 : r.ws.length ≤ 16777216 := by omega
    have er : rowD r = .tup [.int r.p, .int r.g, oD r.c, Lint r.ws] := rfl
    have body : CE1_law [x0, x1, x2, x3, x4, x5, x6, x7, fz (rowD r)] μ = .ok (.d (.tup [.int r.p, .int r.g, oD r.c, .ref μ.length])) (μ ++ [.box (Lint r.ws)]) := by
      rw [er]
      simp [CE1_law, z1]
    have ih := comp11 (L := L) (x0 := x0) (x1 := x1) (x2 := x2) (x3 := x3) (x4 := x4) (x5 := x5) (x6 := x6) (x7 := x7) rs (acc ++ [.tup [.int r.p, .int r.g, oD r.c, .ref μ.length]]) (μ ++ [.box (Lint r.ws)]) (fun t => by rw [List.append_assoc]; exact hl _) fun z hz => hw z (by simp [hz])
    rw [List.map_cons, lcF, if_pos h0]
    have hb : (Tg.n 8).bf (rowD r) [x0, x1, x2, x3, x4, x5, x6, x7, none] = some [x0, x1, x2, x3, x4, x5, x6, x7, fz (rowD r)] := rfl
    rw [hb]
    dsimp only
    simp [body, ih, hdD, bxL]
theorem hd_HR : ∀ (rs : List Row) (pre post : Mu), HR (pre ++ bxL rs ++ post) rs (hdD pre.length rs)
  | [], _, _ => .nil
  | r :: rs, pre, post => by
    have ih := hd_HR rs (pre ++ [.box (Lint r.ws)]) post
    have e : pre ++ [Nd.box (Lint r.ws)] ++ bxL rs ++ post = pre ++ bxL (r :: rs) ++ post := by simp [bxL]
    rw [e, List.length_append] at ih
    refine .cons r rs (.ref pre.length) _ _ (IsL.ref ?_) ih
    simp [bxL]
theorem see_HR {μ : Mu} : ∀ {rs : List Row} {ds : List D}, HR μ rs ds → ds.map (seeD 2 μ) = rs.map rowD
  | _, _, .nil => rfl
  | _, _, .cons r rs x ds L hx h => by
    have ih := see_HR h
    have e1 : seeD 1 μ (oD r.c) = oD r.c := by cases r.c <;> rfl
    have e2 : seeD 1 μ x = Lint r.ws := by
      cases hx with
      | fz => simp
      | ref hm => rw [seeD_ref hm]; simp
    rw [List.map_cons, List.map_cons, ih]
    simp [e1, e2, rowD]
theorem see_rows {μ : Mu} {rs : List Row} : (rs.map rowD).map (seeD 2 μ) = rs.map rowD := by
  rw [List.map_map]
  refine List.map_congr_left fun r _ => ?_
  have e1 : seeD 1 μ (oD r.c) = oD r.c := by cases r.c <;> rfl
  simp [rowD, e1]
theorem app11 {L : Lk} {h : Nat} {post : Mu} (hlk : ∀ ν : Mu, ν.length = h → lkOk L (ν ++ post)) {x0 x1 x2 x3 x4 x5 x6 x7 : Option SV} : ∀ (rs : List Row) (pre : Mu) (t8 : Option SV), pre.length + rs.length = h → (∀ r ∈ rs, RowW 60 r) →
    ∃ t8', forF L (.n 8) B1_law (hdD pre.length rs) [x0, x1, x2, x3, x4, x5, x6, x7, t8] (pre ++ bxL rs ++ post) = .nx [x0, x1, x2, x3, x4, x5, x6, x7, t8'] (pre ++ bxL2 rs ++ post)
  | [], pre, t8, hh, _ => ⟨t8, by simpa [hdD, bxL, bxL2] using forL_nil (hlk pre (by simpa using hh))⟩
  | r :: rs, pre, t8, hh, hw => by
    have hrl := (hw r (by simp)).len
    have z1 : r.ws.length < 16777216 := by omega
    have h0 : lkOk L (pre ++ bxL (r :: rs) ++ post) := hlk _ (by simp [bxL] at hh ⊢; omega)
    obtain ⟨t, ih⟩ := app11 hlk (x0 := x0) (x1 := x1) (x2 := x2) (x3 := x3) (x4 := x4) (x5 := x5) (x6 := x6) (x7 := x7) rs (pre ++ [.box (.lst (r.ws.map D.int ++ [.int 0]))]) (fz (.tup [.int r.p, .int r.g, oD r.c, .ref pre.length])) (by simp at hh ⊢; omega) fun z hz => hw z (by simp [hz])
    have e1 : pre ++ bxL (r :: rs) ++ post = pre ++ (Nd.box (.lst (r.ws.map D.int)) :: (bxL rs ++ post)) := by simp [bxL, Lint]
    have e2 : pre ++ [Nd.box (.lst (r.ws.map D.int ++ [.int 0]))] ++ bxL rs ++ post = pre ++ (Nd.box (.lst (r.ws.map D.int ++ [.int 0])) :: (bxL rs ++ post)) := by simp
    have e3 : pre ++ [Nd.box (.lst (r.ws.map D.int ++ [.int 0]))] ++ bxL2 rs ++ post = pre ++ bxL2 (r :: rs) ++ post := by simp [bxL2]
    rw [e2, e3, List.length_append] at ih
    refine ⟨t, ?_⟩
    rw [e1] at h0 ⊢
    have body : B1_law [x0, x1, x2, x3, x4, x5, x6, x7, fz (.tup [.int r.p, .int r.g, oD r.c, .ref pre.length])] (pre ++ (Nd.box (.lst (r.ws.map D.int)) :: (bxL rs ++ post))) = .nx [x0, x1, x2, x3, x4, x5, x6, x7, fz (.tup [.int r.p, .int r.g, oD r.c, .ref pre.length])] (pre ++ (Nd.box (.lst (r.ws.map D.int ++ [.int 0])) :: (bxL rs ++ post))) := by
      simp [B1_law, z1]
    rw [hdD, forL_cons h0 (sd' := [x0, x1, x2, x3, x4, x5, x6, x7, fz (.tup [.int r.p, .int r.g, oD r.c, .ref pre.length])]) (by rfl), body, forK_nx]
    exact ih
theorem law_holds : HoldsF F_law := fun ns hl hb => by
  have hs : Scr ns := ⟨hl, hb⟩
  obtain ⟨n, ls, hL, hn2, hls, eland⟩ := land11 hs
  have hn := hL.hn
  obtain ⟨rs, hw, hrl, erows⟩ := e_rows hs ⟨hn2, hn.2⟩ hls
  have eL := fun μ => hL.make (IsL.fz (μ := μ) (ls.map TL.prD))
  have z0 : rs.length ≤ 16777216 := by omega
  -- what is handed in
  have lc := comp11 (L := some (0, rs.map rowD)) (x0 := fz (Lint ns)) (x1 := fI n) (x2 := fz (Lprs ls)) (x3 := some (.fz (.ref 0))) (x4 := fz (landD n ls)) (x5 := none) (x6 := none) (x7 := none) rs [] [.box (.lst (rs.map rowD))] (fun t => rfl) hw
  rw [List.nil_append] at lc
  obtain ⟨μ2, h2⟩ : ∃ μ2, [Nd.box (.lst (rs.map rowD))] ++ bxL rs = μ2 := ⟨_, rfl⟩
  obtain ⟨hds, hhd⟩ : ∃ hds, hdD 1 rs = hds := ⟨_, rfl⟩
  have e1 : hdD ([Nd.box (.lst (rs.map rowD))] : Mu).length rs = hds := hhd
  rw [h2, e1] at lc
  obtain ⟨μ3, h3⟩ : ∃ μ3, μ2 ++ [Nd.box (.lst hds)] = μ3 := ⟨_, rfl⟩
  obtain ⟨h, hh⟩ : ∃ h, μ2.length = h := ⟨_, rfl⟩
  have hh1 : h = 1 + rs.length := by rw [← hh, ← h2]; simp [bxL]; omega
  have v0 : μ3[0]? = some (.box (.lst (rs.map rowD))) := by rw [← h3, ← h2]; simp
  have vh : μ3[h]? = some (.box (.lst hds)) := by rw [← h3, ← hh]; simp
  have hR : HR μ3 rs hds := by
    have := hd_HR rs [Nd.box (.lst (rs.map rowD))] [Nd.box (.lst hds)]
    rw [h2, h3] at this
    rw [← hhd]
    exact this
  have ebad := e_first_bad (n := n) (IsL.ref v0) hls (B := 60) (by omega) hw hrl
  have eref := e_refused (n := n) hls (IsL.ref vh) hR hw (by omega)
  have etold := e_Told11 (n := n) hls (IsL.ref vh) hR hw (by omega)
  have s1 : hds.map (seeD 2 μ3) = rs.map rowD := see_HR hR
  have s2 : (rs.map rowD).map (seeD 2 μ3) = rs.map rowD := see_rows
  have hdl : hds.length ≤ 16777216 := by rw [← hhd, hdD_len]; omega
  have okr : ∀ m, (rs.map rowD).all (okB (m + 2)) = true := fun m => by simp
  have dq : deqL (rs.map rowD) (rs.map rowD) = true := deqL_self (n := 2) (by simp)
  have ok9 := okr 9
  cases hfb : fbG n ls [] rs with
  | some k =>
    rw [hfb] at ebad eref
    simp only [oN] at ebad eref
    refine ⟨μ3, ?_⟩
    simp [F_law, runF_eq, eland, erows, eL, z0, lc, h3, hh, ebad, eref, v0, vh, s1, s2, ok9, dq]
  | none =>
    rw [hfb] at ebad eref etold
    simp only [oN] at ebad eref etold
    obtain ⟨t8, lp⟩ := app11 (L := some (h, hds)) (h := h) (post := [Nd.box (.lst hds)]) (fun ν hν => by subst hν; simp [lkOk]) (x0 := fz (Lint ns)) (x1 := fI n) (x2 := fz (Lprs ls)) (x3 := some (.fz (.ref 0))) (x4 := fz (landD n ls)) (x5 := some (.fz (.ref h))) (x6 := fz .non) (x7 := fz (toldD n ls rs)) rs [Nd.box (.lst (rs.map rowD))] none (by simp; omega) hw
    rw [e1, h2, h3] at lp
    obtain ⟨μ4, h4⟩ : ∃ μ4, [Nd.box (.lst (rs.map rowD))] ++ bxL2 rs ++ [Nd.box (.lst hds)] = μ4 := ⟨_, rfl⟩
    rw [h4] at lp
    have wh : μ4[h]? = some (.box (.lst hds)) := by
      rw [← h4, hh1]
      rw [List.getElem?_append_right (by simp [bxL2]; omega)]
      have : 1 + rs.length - ([Nd.box (.lst (rs.map rowD))] ++ bxL2 rs).length = 0 := by simp [bxL2]; omega
      rw [this]
      rfl
    have w0 : μ4[0]? = some (.box (.lst (rs.map rowD))) := by rw [← h4]; simp
    obtain ⟨μ5, h5⟩ : ∃ μ5, μ4.set h (.box (.lst [])) = μ5 := ⟨_, rfl⟩
    have y0 : μ5[0]? = some (.box (.lst (rs.map rowD))) := by
      rw [← h5, List.getElem?_set_ne (by omega)]
      exact w0
    have er1 := e_right (n := n) (ls := ls) (IsL.ref y0) tab_told hn hw hrl hls hfb
    have er2 := e_right (n := n) (ls := ls) (rs := []) (T := plainD n ls) (IsL.fz (μ := μ5) []) tab_plain hn (by simp) (by simp) hls rfl
    have epl := e_plain (n := n) (ls := ls) (μ := μ5)
    have dl : deqL (ls.map TL.prD) (ls.map TL.prD) = true := deqL_self (n := 2) (by simp)
    have z1 : ls.length ≤ 16777216 := by omega
    refine ⟨μ5, ?_⟩
    simp [F_law, runF_eq, eland, erows, eL, z0, lc, h3, hh, ebad, eref, v0, vh, s1, s2, ok9, dq, etold, lp, wh, h5, er1, er2, epl, dl, z1]
end WY
open PySem PySem.W PyProof.Rows in
set_option maxRecDepth 100000 in
set_option maxHeartbeats 0 in
theorem PySem.Challenge.cw_wormyard_k11_told_tables_holds : PySem.Challenge.rw_wormyard_k11_told_tables.Holds := by
  w_on; o_law; k_head; (case hw => w_witness2)
  k_fill
  refine WY.walk (TL.holds_of WY.law_holds) (l := PySem.Challenge.rw_wormyard_k11_told_tables) rfl rfl (fun w h Y => PySem.W.kIn_of Y) ?F
  case F =>
    intro w mg fa h KX G hmg
    refine' WY.all_mk KX G hmg ?aC_Table ?aC_Told ?aC_Land ?aC_YardError ?aC_NoPlaces ?aC_TooMany ?aC_NoRoad ?aC_NoEntry ?aC_NoMove ?pg_Table ?hd_Table ?po_Table ?sa_Table ?pg_Told ?hd_Told ?po_Told ?sa_Told ?pg_Land ?hd_Land ?po_Land ?sa_Land ?a_NoRoad_init ?l_NoRoad_init ?cd_is_NoRoad_init ?k_NoRoad_init ?i_NoRoad_init ?a_TooMany_init ?l_TooMany_init ?cd_is_TooMany_init ?k_TooMany_init ?i_TooMany_init ?a_Land_init ?l_Land_init ?cd_is_Land_init ?k_Land_init ?i_Land_init ?a_Table_init ?l_Table_init ?cd_is_Table_init ?k_Table_init ?i_Table_init ?a_NoEntry_init ?l_NoEntry_init ?cd_is_NoEntry_init ?k_NoEntry_init ?i_NoEntry_init ?a_Land_into ?l_Land_into ?cd_is_Land_into ?k_Land_into ?i_Land_into ?a_Land_out_of ?l_Land_out_of ?cd_is_Land_out_of ?k_Land_out_of ?i_Land_out_of ?a_Told_is_good ?l_Told_is_good ?cd_is_Told_is_good ?k_Told_is_good ?i_Told_is_good ?a_Told_init ?l_Told_init ?cd_is_Told_init ?k_Told_init ?i_Told_init ?a_is_bad ?l_is_bad ?cd_is_is_bad ?k_is_bad ?a_first_bad ?l_first_bad ?cd_is_first_bad ?k_first_bad ?a_draw ?l_draw ?cd_is_draw ?k_draw ?a_land ?l_land ?cd_is_land ?k_land ?a_refused ?l_refused ?cd_is_refused ?k_refused ?a_Table_ways ?l_Table_ways ?cd_is_Table_ways ?k_Table_ways ?i_Table_ways ?a_Told_ways ?l_Told_ways ?cd_is_Told_ways ?k_Told_ways ?i_Told_ways ?a_right ?l_right ?cd_is_right ?k_right ?a_row ?l_row ?cd_is_row ?k_row ?a_spoiled ?l_spoiled ?cd_is_spoiled ?k_spoiled ?a_rows ?l_rows ?cd_is_rows ?k_rows ?a_law ?l_law ?cd_is_law ?k_law ?z_enumerate ?z_isinstance ?z_len ?z_list ?z_max ?z_min ?z_range ?z_set ?z_sorted ?z_tuple ?n_Told_known ?n_Table_land ?n_Told_land ?n_Land_lanes ?n_Land_places ?mk_Land ?kc_Land ?mk_Table ?kc_Table ?mk_Told ?kc_Told ?xe_NoPlaces ?kc_NoPlaces ?xs_NoPlaces ?xy_NoPlaces ?xs_YardError ?xy_YardError ?ic_YardError ?sb_YardError_YardError ?sb_NoPlaces_YardError ?sb_TooMany_YardError ?sb_NoRoad_YardError ?sb_NoEntry_YardError ?sb_NoMove_YardError ?xl_NoEntry ?sa_NoEntry ?kc_NoEntry ?xs_NoEntry ?xy_NoEntry ?xt_NoEntry ?no_NoEntry_row ?xl_NoRoad ?sa_NoRoad ?kc_NoRoad ?xs_NoRoad ?xy_NoRoad ?xt_NoRoad ?no_NoRoad_lane ?xl_TooMany ?sa_TooMany ?kc_TooMany ?xs_TooMany ?xy_TooMany ?xt_TooMany ?no_TooMany_many ?hg_NoEntry ?gg_NoEntry ?hd_NoEntry ?oc_get ?oc_tk ?hg_YardError ?gg_YardError ?hd_YardError ?ha_YardError ?hm_YardError ?hg_NoPlaces ?gg_NoPlaces ?hd_NoPlaces ?ha_NoPlaces ?hm_NoPlaces ?hg_TooMany ?gg_TooMany ?hd_TooMany ?ha_TooMany ?hm_TooMany ?hg_NoRoad ?gg_NoRoad ?hd_NoRoad ?ha_NoRoad ?hm_NoRoad ?ha_NoEntry ?hm_NoEntry ?hg_NoMove ?gg_NoMove ?xs_NoMove ?hd_NoMove ?ha_NoMove ?hm_NoMove ?ic_NoEntry ?ss_NoEntry ?sb_YardError_NoEntry ?sb_NoPlaces_NoEntry ?sb_TooMany_NoEntry ?sb_NoRoad_NoEntry ?sb_NoEntry_NoEntry ?sb_NoMove_NoEntry ?xy_NoMove ?ic_NoMove ?ss_NoMove ?sb_YardError_NoMove ?sb_NoPlaces_NoMove ?sb_TooMany_NoMove ?sb_NoRoad_NoMove ?sb_NoEntry_NoMove ?sb_NoMove_NoMove ?ic_NoRoad ?ss_NoRoad ?sb_YardError_NoRoad ?sb_NoPlaces_NoRoad ?sb_TooMany_NoRoad ?sb_NoRoad_NoRoad ?sb_NoEntry_NoRoad ?sb_NoMove_NoRoad ?rd_Table ?gt_Table ?cv_Table_init (TL.holds_of WY.law_holds)
    (case aC_Table => k_is)
    (case aC_Told => k_is)
    (case aC_Land => k_is)
    (case aC_YardError => k_is)
    (case aC_NoPlaces => k_is)
    (case aC_TooMany => k_is)
    (case aC_NoRoad => k_is)
    (case aC_NoEntry => k_is)
    (case aC_NoMove => k_is)
    (case pg_Table => k_is)
    (case hd_Table => k_is)
    (case po_Table => k_is)
    (case sa_Table => k_is)
    (case pg_Told => k_is)
    (case hd_Told => k_is)
    (case po_Told => k_is)
    (case sa_Told => k_is)
    (case pg_Land => k_is)
    (case hd_Land => k_is)
    (case po_Land => k_is)
    (case sa_Land => k_is)
    (case a_NoRoad_init => k_is)
    (case l_NoRoad_init => k_is)
    (case cd_is_NoRoad_init => k_is)
    (case k_NoRoad_init => k_is)
    (case i_NoRoad_init => k_is)
    (case a_TooMany_init => k_is)
    (case l_TooMany_init => k_is)
    (case cd_is_TooMany_init => k_is)
    (case k_TooMany_init => k_is)
    (case i_TooMany_init => k_is)
    (case a_Land_init => k_is)
    (case l_Land_init => k_is)
    (case cd_is_Land_init => k_is)
    (case k_Land_init => k_is)
    (case i_Land_init => k_is)
    (case a_Table_init => k_is)
    (case l_Table_init => k_is)
    (case cd_is_Table_init => k_is)
    (case k_Table_init => k_is)
    (case i_Table_init => k_is)
    (case a_NoEntry_init => k_is)
    (case l_NoEntry_init => k_is)
    (case cd_is_NoEntry_init => k_is)
    (case k_NoEntry_init => k_is)
    (case i_NoEntry_init => k_is)
    (case a_Land_into => k_is)
    (case l_Land_into => k_is)
    (case cd_is_Land_into => k_is)
    (case k_Land_into => k_is)
    (case i_Land_into => k_is)
    (case a_Land_out_of => k_is)
    (case l_Land_out_of => k_is)
    (case cd_is_Land_out_of => k_is)
    (case k_Land_out_of => k_is)
    (case i_Land_out_of => k_is)
    (case a_Told_is_good => k_is)
    (case l_Told_is_good => k_is)
    (case cd_is_Told_is_good => k_is)
    (case k_Told_is_good => k_is)
    (case i_Told_is_good => k_is)
    (case a_Told_init => k_is)
    (case l_Told_init => k_is)
    (case cd_is_Told_init => k_is)
    (case k_Told_init => k_is)
    (case i_Told_init => k_is)
    (case a_is_bad => k_is)
    (case l_is_bad => k_is)
    (case cd_is_is_bad => k_is)
    (case k_is_bad => k_is)
    (case a_first_bad => k_is)
    (case l_first_bad => k_is)
    (case cd_is_first_bad => k_is)
    (case k_first_bad => k_is)
    (case a_draw => k_is)
    (case l_draw => k_is)
    (case cd_is_draw => k_is)
    (case k_draw => k_is)
    (case a_land => k_is)
    (case l_land => k_is)
    (case cd_is_land => k_is)
    (case k_land => k_is)
    (case a_refused => k_is)
    (case l_refused => k_is)
    (case cd_is_refused => k_is)
    (case k_refused => k_is)
    (case a_Table_ways => k_is)
    (case l_Table_ways => k_is)
    (case cd_is_Table_ways => k_is)
    (case k_Table_ways => k_is)
    (case i_Table_ways => k_is)
    (case a_Told_ways => k_is)
    (case l_Told_ways => k_is)
    (case cd_is_Told_ways => k_is)
    (case k_Told_ways => k_is)
    (case i_Told_ways => k_is)
    (case a_right => k_is)
    (case l_right => k_is)
    (case cd_is_right => k_is)
    (case k_right => k_is)
    (case a_row => k_is)
    (case l_row => k_is)
    (case cd_is_row => k_is)
    (case k_row => k_is)
    (case a_spoiled => k_is)
    (case l_spoiled => k_is)
    (case cd_is_spoiled => k_is)
    (case k_spoiled => k_is)
    (case a_rows => k_is)
    (case l_rows => k_is)
    (case cd_is_rows => k_is)
    (case k_rows => k_is)
    (case a_law => k_is)
    (case l_law => k_is)
    (case cd_is_law => k_is)
    (case k_law => k_is)
    (case z_enumerate => k_is)
    (case z_isinstance => k_is)
    (case z_len => k_is)
    (case z_list => k_is)
    (case z_max => k_is)
    (case z_min => k_is)
    (case z_range => k_is)
    (case z_set => k_is)
    (case z_sorted => k_is)
    (case z_tuple => k_is)
    (case n_Told_known => k_is)
    (case n_Table_land => k_is)
    (case n_Told_land => k_is)
    (case n_Land_lanes => k_is)
    (case n_Land_places => k_is)
    (case mk_Land => k_is)
    (case kc_Land => k_is)
    (case mk_Table => k_is)
    (case kc_Table => k_is)
    (case mk_Told => k_is)
    (case kc_Told => k_is)
    (case xe_NoPlaces => k_exc)
    (case kc_NoPlaces => k_is)
    (case xs_NoPlaces => k_is)
    (case xy_NoPlaces => k_is)
    (case xs_YardError => k_is)
    (case xy_YardError => k_is)
    (case ic_YardError => k_is)
    (case sb_YardError_YardError => k_is)
    (case sb_NoPlaces_YardError => k_is)
    (case sb_TooMany_YardError => k_is)
    (case sb_NoRoad_YardError => k_is)
    (case sb_NoEntry_YardError => k_is)
    (case sb_NoMove_YardError => k_is)
    (case xl_NoEntry => k_is)
    (case sa_NoEntry => k_is)
    (case kc_NoEntry => k_is)
    (case xs_NoEntry => k_is)
    (case xy_NoEntry => k_is)
    (case xt_NoEntry => k_is)
    (case no_NoEntry_row => k_is)
    (case xl_NoRoad => k_is)
    (case sa_NoRoad => k_is)
    (case kc_NoRoad => k_is)
    (case xs_NoRoad => k_is)
    (case xy_NoRoad => k_is)
    (case xt_NoRoad => k_is)
    (case no_NoRoad_lane => k_is)
    (case xl_TooMany => k_is)
    (case sa_TooMany => k_is)
    (case kc_TooMany => k_is)
    (case xs_TooMany => k_is)
    (case xy_TooMany => k_is)
    (case xt_TooMany => k_is)
    (case no_TooMany_many => k_is)
    (case hg_NoEntry => k_is)
    (case gg_NoEntry => k_is)
    (case hd_NoEntry => k_is)
    (case oc_get => k_is)
    (case oc_tk => k_is)
    (case hg_YardError => k_is)
    (case gg_YardError => k_is)
    (case hd_YardError => k_is)
    (case ha_YardError => k_is)
    (case hm_YardError => k_is)
    (case hg_NoPlaces => k_is)
    (case gg_NoPlaces => k_is)
    (case hd_NoPlaces => k_is)
    (case ha_NoPlaces => k_is)
    (case hm_NoPlaces => k_is)
    (case hg_TooMany => k_is)
    (case gg_TooMany => k_is)
    (case hd_TooMany => k_is)
    (case ha_TooMany => k_is)
    (case hm_TooMany => k_is)
    (case hg_NoRoad => k_is)
    (case gg_NoRoad => k_is)
    (case hd_NoRoad => k_is)
    (case ha_NoRoad => k_is)
    (case hm_NoRoad => k_is)
    (case ha_NoEntry => k_is)
    (case hm_NoEntry => k_is)
    (case hg_NoMove => k_is)
    (case gg_NoMove => k_is)
    (case xs_NoMove => k_is)
    (case hd_NoMove => k_is)
    (case ha_NoMove => k_is)
    (case hm_NoMove => k_is)
    (case ic_NoEntry => k_is)
    (case ss_NoEntry => k_is)
    (case sb_YardError_NoEntry => k_is)
    (case sb_NoPlaces_NoEntry => k_is)
    (case sb_TooMany_NoEntry => k_is)
    (case sb_NoRoad_NoEntry => k_is)
    (case sb_NoEntry_NoEntry => k_is)
    (case sb_NoMove_NoEntry => k_is)
    (case xy_NoMove => k_is)
    (case ic_NoMove => k_is)
    (case ss_NoMove => k_is)
    (case sb_YardError_NoMove => k_is)
    (case sb_NoPlaces_NoMove => k_is)
    (case sb_TooMany_NoMove => k_is)
    (case sb_NoRoad_NoMove => k_is)
    (case sb_NoEntry_NoMove => k_is)
    (case sb_NoMove_NoMove => k_is)
    (case ic_NoRoad => k_is)
    (case ss_NoRoad => k_is)
    (case sb_YardError_NoRoad => k_is)
    (case sb_NoPlaces_NoRoad => k_is)
    (case sb_TooMany_NoRoad => k_is)
    (case sb_NoRoad_NoRoad => k_is)
    (case sb_NoEntry_NoRoad => k_is)
    (case sb_NoMove_NoRoad => k_is)
    (case rd_Table => k_is)
    (case gt_Table => k_is)
    (case cv_Table_init => k_is)
