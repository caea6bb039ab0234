import PyProof.Rows.All
import PySem.Str
import HandS.ForMost
import HandS.IsInst
import HandS.TupAny
import HandS.Walk
import HandS.Zip
import HandS.Deep
import HandS.SetKeys
import HandS.Set
import HandS.SetFor
import KE.SortData
import HandS.Star
import HandS.Ends
import HandS.HeadEnd
import HandS.HeadHook2
import PySem.Challenge.RW_rowsort_k20_forms_of_any_value
import HandS.Head0
import HandS.Head1
import HandS.Head2
section
set_option Elab.async false
set_option maxRecDepth 100000
set_option autoImplicit false
/-! Pv0: values, objects, the small language and its evaluator. -/
namespace Pv
open PySem

inductive PV where
  | non | bl (b : Bool) | int (i : Int) | str (s : Str) | tup (xs : List PV) | rol (xs : List PV) | ref (p : Nat) | fn (f : Str) | ty (n : String)
  deriving Inhabited

inductive PO where
  | lst (xs : List PV) | dct (kvs : List (L2.Key × PV)) | set (xs : List PV)
  deriving Inhabited

abbrev PH := List PO
abbrev PEnv := List (Option PV)

inductive Cn where
  | non | bl (b : Bool) | int (i : Int) | str (s : Str)
inductive Bo where
  | add | sub | mul | fdiv | mod | pow
  deriving DecidableEq
inductive Co where
  | eq | ne | lt | le | gt | ge | isin | notin | isN | notN
  deriving DecidableEq
/-- built-in functions and types, called with one argument -/
inductive B1 where
  | len | all | any | abs | int | set | sorted | tuple | list | dict | repr
  deriving DecidableEq
/-! ### data -/
def SZ : Nat := 16777216

def PV.flatD : PV → Option PyData
  | .non => some .none | .bl b => some (.bool b) | .int i => some (.int i) | .str s => some (.str s)
  | _ => none
def PH.ls (h : PH) (p : Nat) : Option (List PV) := match h[p]? with | some (.lst xs) => some xs | _ => none

/-- data, lists too, nested to a depth -/
def toD : Nat → PH → PV → Option PyData
  | 0, _, x => x.flatD
  | n + 1, h, .ref p => match h.ls p with
    | some xs => (xs.mapM (toD n h)).map .list
    | none => none
  | n + 1, h, .tup xs => (xs.mapM (toD n h)).map .tuple
  | _ + 1, _, x => x.flatD
def DD : Nat := 24

mutual
def PV.bd (n : Nat) : PV → Bool
  | .ref p => decide (p < n)
  | .tup xs => PV.bds n xs
  | .rol xs => PV.bds n xs
  | _ => true
def PV.bds (n : Nat) : List PV → Bool
  | [] => true
  | x :: xs => PV.bd n x && PV.bds n xs
end
def PO.bd (n : Nat) : PO → Bool
  | .lst xs => PV.bds n xs
  | .dct kvs => PV.bds n (kvs.map (·.2))
  | .set xs => PV.bds n xs

def keyV : PV → Option L2.Key
  | .int i => some (.inl i)
  | .str s => some (.inr s)
  | _ => none
/-- things that == tells at once -/
def PV.flat : PV → Bool
  | .non => true | .bl _ => true | .int _ => true | .str _ => true | _ => false
def PV.eqF : PV → PV → Bool
  | .non, .non => true
  | .bl a, .bl b => a == b
  | .bl a, .int j => (if a then 1 else 0) == j
  | .int i, .bl b => i == (if b then 1 else 0)
  | .int i, .int j => i == j
  | .str x, .str y => x == y
  | _, _ => false

def eqPV (h : PH) (x y : PV) : Option Bool :=
  if x.flat && y.flat then some (PV.eqF x y) else match toD DD h x, toD DD h y with
    | some d, some e => if d.canLay0 && e.canLay0 then some (PyData.eqv d e) else none
    | _, _ => none
def getK (kvs : List (L2.Key × PV)) (k : L2.Key) : Option PV := (kvs.find? fun kv => decide (kv.1 = k)).map (·.2)
def putK (kvs : List (L2.Key × PV)) (k : L2.Key) (v : PV) : List (L2.Key × PV) :=
  if kvs.any fun kv => decide (kv.1 = k) then kvs.map fun kv => if kv.1 = k then (kv.1, v) else kv else kvs ++ [(k, v)]

def inPV (h : PH) (x y : PV) : Option Bool := match y with
  | .str z => match x with
    | .str s => match s.cps.toList with
      | [c] => some (decide (c ∈ z.cps.toList))
      | _ => none
    | _ => none
  | .tup ys => if x.flat && ys.all PV.flat then some (ys.any fun y => PV.eqF y x) else none
  | .ref p => match h[p]? with
    | some (.lst ys) => if x.flat && ys.all PV.flat then some (ys.any fun y => PV.eqF y x) else none
    | some (.dct kvs) => match keyV x with
      | some k => some (getK kvs k).isSome
      | none => none
    | _ => none
  | _ => none

def cmpPV (o : Co) (h : PH) (x y : PV) : Option Bool := match o with
  | .eq => eqPV h x y
  | .ne => (eqPV h x y).map not
  | .isin => inPV h x y
  | .notin => (inPV h x y).map not
  | .lt => match x, y with | .int i, .int j => some (decide (i < j)) | .str s, .str t => some (decide (s.cps.toList < t.cps.toList)) | _, _ => none
  | .le => match x, y with | .int i, .int j => some (decide (i ≤ j)) | .str s, .str t => some (!decide (t.cps.toList < s.cps.toList)) | _, _ => none
  | .gt => match x, y with | .int i, .int j => some (decide (j < i)) | _, _ => none
  | .ge => match x, y with | .int i, .int j => some (decide (j ≤ i)) | _, _ => none
  | .isN => match y with | .non => (match x with | .non => some true | .ty _ => none | _ => some false) | _ => none
  | .notN => match y with | .non => (match x with | .non => some false | .ty _ => none | _ => some true) | _ => none

def newO (v : PO) (h : PH) : PV × PH := (.ref h.length, h ++ [v])

def binPV (o : Bo) (h : PH) (x y : PV) : Option (PV × PH) := match o, x, y with
  | .add, .int i, .int j => some (.int (i + j), h)
  | .sub, .int i, .int j => some (.int (i - j), h)
  | .mul, .int i, .int j => if (-(2 ^ 64) < i ∧ i < 2 ^ 64) ∨ (-(2 ^ 64) < j ∧ j < 2 ^ 64) then some (.int (i * j), h) else none
  | .fdiv, .int i, .int j => if 0 < j ∧ j < 1073741824 then some (.int (i / j), h) else none
  | .mod, .int i, .int j => if 0 < j then some (.int (i % j), h) else none
  | .pow, .int i, .int j => if 0 ≤ j ∧ j ≤ 1000 ∧ i.natAbs < 2 ^ 64 then some (.int (i ^ j.toNat), h) else none
  | .add, .str a, .str b => if a.length + b.length ≤ SZ then some (.str (a ++ b), h) else none
  | .add, .tup xs, .tup ys => if xs.length + ys.length ≤ SZ then some (.tup (xs ++ ys), h) else none
  | .add, .ref p, .ref q => match h[p]?, h[q]? with
    | some (.lst xs), some (.lst ys) => if xs.length + ys.length ≤ SZ then some (newO (.lst (xs ++ ys)) h) else none
    | _, _ => none
  | _, _, _ => none

def ixOf (n : Nat) (i : Int) : Option Nat := L2.ixN n i
def ixPV (h : PH) (x i : PV) : Option PV := match x, i with
  | .tup xs, .int i => (ixOf xs.length i).bind fun j => xs[j]?
  | .rol xs, .int i => (ixOf xs.length i).bind fun j => xs[j]?
  | .str s, .int i => if s.length ≤ SZ then (ixOf s.cps.toList.length i).bind fun j => (s.cps.toList[j]?).map fun c => .str ⟨#[c]⟩ else none
  | .ref p, y => match h[p]? with
    | some (.lst xs) => (match y with | .int i => (ixOf xs.length i).bind fun j => xs[j]? | _ => none)
    | some (.dct kvs) => (keyV y).bind fun k => getK kvs k
    | _ => none
  | _, _ => none
def cutP {α : Type} (xs : List α) (lo hi : Option Int) : List α := (xs.drop (HT.sIx xs.length 0 lo)).take (HT.sIx xs.length xs.length hi - HT.sIx xs.length 0 lo)
def slPV (h : PH) (x : PV) (lo hi : Option Int) : Option (PV × PH) := match x with
  | .tup xs => some (.tup (cutP xs lo hi), h)
  | .str s => if s.length ≤ SZ then some (.str ⟨(cutP s.cps.toList lo hi).toArray⟩, h) else none
  | .rol xs => some (newO (.lst (cutP xs lo hi)) h)
  | .ref p => match h.ls p with
    | some xs => some (newO (.lst (cutP xs lo hi)) h)
    | none => none
  | _ => none

/-- truth -/
def truPV (h : PH) : PV → Option Bool
  | .non => some false
  | .bl b => some b
  | .int i => some (i != 0)
  | .str s => if s.length ≤ SZ then some (!s.cps.toList.isEmpty) else none
  | .tup xs => some (!xs.isEmpty)
  | .ref p => match h[p]? with
    | some (.lst xs) => some (!xs.isEmpty)
    | some (.dct kvs) => some (!kvs.isEmpty)
    | _ => none
  | _ => none

def tyPV (h : PH) : PV → Option String
  | .non => some "NoneType" | .bl _ => some "bool" | .int _ => some "int" | .str _ => some "str" | .tup _ => some "tuple"
  | .ref p => match h[p]? with | some (.lst _) => some "list" | some (.dct _) => some "dict" | _ => none
  | _ => none
/-- isinstance of built-in types -/
def isiTy (t u : String) : Bool := t == u || (t == "bool" && u == "int")
def isiPV (h : PH) (x : PV) (u : String) : Option Bool :=
  if u == "int" || u == "bool" || u == "str" || u == "tuple" then (tyPV h x).map fun t => isiTy t u else none

def strsOf : List PV → Option (List Str)
  | [] => some []
  | .str s :: xs => (strsOf xs).map (s :: ·)
  | _ :: _ => none
def intsOf : List PV → Option (List Int)
  | [] => some []
  | .int s :: xs => (intsOf xs).map (s :: ·)
  | _ :: _ => none
def blsOf : List PV → Option (List Bool)
  | [] => some []
  | .bl s :: xs => (blsOf xs).map (s :: ·)
  | _ :: _ => none
def pairsOf : List PV → Option (List (L2.Key × PV))
  | [] => some []
  | .tup [k, v] :: xs => match keyV k, pairsOf xs with
    | some k, some r => some ((k, v) :: r)
    | _, _ => none
  | _ :: _ => none
/-- the items of a list or a tuple -/
def seqOf (h : PH) : PV → Option (List PV)
  | .tup xs => some xs
  | .ref p => h.ls p
  | _ => none
/-- insertion of a text into an ascending list of unlike ones -/
def insS (x : Str) : List Str → List Str
  | [] => [x]
  | y :: ys => if x = y then y :: ys else if x.cps.toList < y.cps.toList then x :: y :: ys else y :: insS x ys
def setS (xs : List Str) : List Str := xs.foldr insS []
def ddS : List Str → List Str
  | [] => []
  | x :: xs => let r := ddS xs; if x ∈ r then r else x :: r

def mrg (kvs more : List (L2.Key × PV)) : List (L2.Key × PV) := more.foldl (fun acc kv => putK acc kv.1 kv.2) kvs

def PV.isObj : PV → Bool
  | .ref _ => true | .tup _ => true | _ => false
def reprPV (h : PH) (x : PV) : Option Str := match toD DD h x with
  | some d => if x.isObj && (d.showable && decide (d.shown.length ≤ SZ)) then some d.shown else none
  | none => none

def lenPV (h : PH) : PV → Option Nat
  | .tup xs => some xs.length
  | .rol xs => some xs.length
  | .str s => if s.length ≤ SZ then some s.length else none
  | .ref p => h.ls p |>.map List.length
  | _ => none

def b1PV (b : B1) (h : PH) (x : PV) : Option (PV × PH) := match b with
  | .len => (lenPV h x).map fun (n : Nat) => (PV.int (n : Int), h)
  | .all => match x with | .ref p => ((h.ls p).bind blsOf).map fun bs => (.bl (bs.all id), h) | _ => none
  | .any => match x with | .ref p => ((h.ls p).bind blsOf).map fun bs => (.bl (bs.any id), h) | _ => none
  | .abs => match x with | .int i => some (.int (if i < 0 then -i else i), h) | _ => none
  | .int => match x with | .int i => some (.int i, h) | .bl b => some (.int (if b then 1 else 0), h) | _ => none
  | .tuple => match x with
    | .tup xs => some (.tup xs, h)
    | .ref p => (h.ls p).map fun xs => (.tup xs, h)
    | _ => none
  | .list => (seqOf h x).map fun xs => newO (.lst xs) h
  | .dict => match x with
    | .ref p => ((h.ls p).bind pairsOf).map fun ps => newO (.dct (mrg [] ps)) h
    | _ => none
  | .repr => (reprPV h x).map fun s => (.str s, h)
  | .set => none
  | .sorted => none

def splitPV (x : PV) (h : PH) : Option (PV × PH) := match x with
  | .str s => if s.length + 2 ≤ SZ then some (newO (.lst ((Txt.words s).map .str)) h) else none
  | _ => none

def setI (h : PH) (x i v : PV) : Option PH := match x with
  | .ref p => match h[p]? with
    | some (.lst xs) => (match i with | .int k => (ixOf xs.length k).map fun j => h.set p (.lst (xs.set j v)) | _ => none)
    | some (.dct kvs) => (keyV i).bind fun k => if kvs.length < SZ then some (h.set p (.dct (putK kvs k v))) else none
    | _ => none
  | _ => none

end Pv

end
section
set_option Elab.async false
set_option maxRecDepth 100000
set_option maxHeartbeats 4000000
set_option autoImplicit false
set_option linter.all false
/-! Pv1: how values and objects of the small language stand in the abstract heap. -/
namespace Pv
open PySem L2

/-- the ground: the written part, where the own defs stand -/
structure Gd where
  K : PySem.W.Frag
  fa : Str → Option Addr

/-- a list that is only read -/
def RoL (K : PySem.W.Frag) (H : Hp) (a : Addr) (xs : List V) : Prop :=
  (∃ o, H a = some (.frz o (.lst xs))) ∨
    ∃ (o : Obj) (its : Array Value) (n : Nat), K.lookup a = some o ∧ o.cls = .type "list" ∧ o.dict = none ∧ o.data = .seq its n ∧ its.size ≤ sizeLine ∧ Vals xs its.toList
theorem RoL.sq {K : PySem.W.Frag} {H : Hp} {a : Addr} {xs : List V} (r : RoL K H a xs) : SqL K H a xs := by
  rcases r with ⟨o, e⟩ | r
  · exact .inl (.inr ⟨o, e⟩)
  · exact .inr r

mutual
def VR (g : Gd) (m : List Addr) (H : Hp) : PV → V → Prop
  | .non, v => v = .non
  | .bl b, v => v = .bl b
  | .int i, v => v = .int i
  | .str s, v => v = .str s
  | .ty n, v => v = .ty n
  | .fn f, v => ∃ a, g.fa f = some a ∧ v = .ref a
  | .ref p, v => ∃ a, m[p]? = some a ∧ v = .ref a
  | .tup xs, v => ∃ a vs, v = .ref a ∧ SqT g.K H a vs ∧ VRs g m H xs vs
  | .rol xs, v => ∃ a vs, v = .ref a ∧ RoL g.K H a vs ∧ VRs g m H xs vs
def VRs (g : Gd) (m : List Addr) (H : Hp) : List PV → List V → Prop
  | [], vs => vs = []
  | x :: xs, vs => ∃ v vs', vs = v :: vs' ∧ VR g m H x v ∧ VRs g m H xs vs'
end

def KR (g : Gd) (m : List Addr) (H : Hp) : List (Key × PV) → List (Key × V) → Prop
  | [], ks => ks = []
  | x :: xs, ks => ∃ v r, ks = (x.1, v) :: r ∧ VR g m H x.2 v ∧ KR g m H xs r

def OR (g : Gd) (m : List Addr) (H : Hp) : PO → Addr → Prop
  | .lst xs, a => ∃ vs, H a = some (.lst vs) ∧ VRs g m H xs vs
  | .dct kvs, a => ∃ ks, H a = some (.dK ks) ∧ KR g m H kvs ks
  | .set _, _ => False

structure HR (g : Gd) (m : List Addr) (h : PH) (H : Hp) : Prop where
  len : m.length = h.length
  nd : m.Nodup
  ob : ∀ (p : Nat) (o : PO) (a : Addr), h[p]? = some o → m[p]? = some a → OR g m H o a

structure Ext (m : List Addr) (H : Hp) (m' : List Addr) (H' : Hp) : Prop where
  pre : ∃ r, m' = m ++ r
  fr : ∀ a o, H a = some o → a ∉ m → H' a = some o
  nw : ∀ a, a ∈ m' → a ∉ m → H a = none

section
variable {g : Gd} {m m' m1 m2 : List Addr} {h h' h1 h2 : PH} {H H' H1 H2 : Hp}

theorem Ext.refl : Ext m H m H := ⟨⟨[], by simp⟩, fun _ _ e _ => e, fun _ a b => absurd a b⟩

theorem HR.at (r : HR g m h H) {p : Nat} {o : PO} (e : h[p]? = some o) : ∃ a, m[p]? = some a ∧ OR g m H o a := by
  have hp : p < h.length := (List.getElem?_eq_some_iff.mp e).1
  have hm : p < m.length := by rw [r.len]; exact hp
  exact ⟨m[p], by simp [hm], r.ob p o m[p] e (by simp [hm])⟩

theorem OR.trk {o : PO} {a : Addr} (r : OR g m H o a) : ∃ ho, H a = some ho ∧ (∀ ys, ho ≠ .tup ys) ∧ ∀ ob u, ho ≠ .frz ob u := by
  cases o with
  | lst xs =>
    obtain ⟨vs, e, _⟩ := r
    exact ⟨_, e, fun _ z => (nomatch z), fun _ _ z => (nomatch z)⟩
  | dct kvs =>
    obtain ⟨ks, e, _⟩ := r
    exact ⟨_, e, fun _ z => (nomatch z), fun _ _ z => (nomatch z)⟩
  | set _ => exact r.elim

theorem HR.mem (r : HR g m h H) {a : Addr} (ha : a ∈ m) : ∃ ho, H a = some ho ∧ (∀ ys, ho ≠ .tup ys) ∧ ∀ ob u, ho ≠ .frz ob u := by
  obtain ⟨p, hp, e⟩ := List.getElem_of_mem ha
  have hh : p < h.length := by rw [← r.len]; exact hp
  exact (r.ob p h[p] a (by simp [hh]) (by rw [← e]; simp [hp])).trk
theorem HR.free (r : HR g m h H) {a : Addr} (hn : H a = none) : a ∉ m := fun ha => by
  obtain ⟨ho, e, _⟩ := r.mem ha
  rw [hn] at e; cases e

/-- tuples stay -/
theorem Ext.tup (x : Ext m H m' H') (r : HR g m h H) {a : Addr} {vs : List V} (s : SqT g.K H a vs) : SqT g.K H' a vs := by
  rcases s with z | z
  · have na : a ∉ m := fun hm => by
      obtain ⟨ho, e, n1, n2⟩ := r.mem hm
      rcases z with z | ⟨o, z⟩
      · rw [e] at z; cases z; exact n1 vs rfl
      · rw [e] at z; cases z; exact n2 o _ rfl
    rcases z with z | ⟨o, z⟩
    · exact .inl (.inl (x.fr a _ z na))
    · exact .inl (.inr ⟨o, x.fr a _ z na⟩)
  · exact .inr z
theorem Ext.rol (x : Ext m H m' H') (r : HR g m h H) {a : Addr} {vs : List V} (s : RoL g.K H a vs) : RoL g.K H' a vs := by
  rcases s with ⟨o, z⟩ | z
  · refine .inl ⟨o, x.fr a _ z fun hm => ?_⟩
    obtain ⟨ho, e, n1, n2⟩ := r.mem hm
    rw [e] at z; cases z; exact n2 o _ rfl
  · exact .inr z

/-- two heaps of which the later keeps the tuples, two maps of which the later is longer -/
structure Kp (g : Gd) (m : List Addr) (H : Hp) (m' : List Addr) (H' : Hp) : Prop where
  pre : ∃ r, m' = m ++ r
  tup : ∀ a vs, SqT g.K H a vs → SqT g.K H' a vs
  rol : ∀ a vs, RoL g.K H a vs → RoL g.K H' a vs
theorem Ext.kp (x : Ext m H m' H') (r : HR g m h H) : Kp g m H m' H' := ⟨x.pre, fun _ _ s => x.tup r s, fun _ _ s => x.rol r s⟩
theorem Kp.refl : Kp g m H m H := ⟨⟨[], by simp⟩, fun _ _ s => s, fun _ _ s => s⟩
theorem Kp.get (k : Kp g m H m' H') {p : Nat} {a : Addr} (e : m[p]? = some a) : m'[p]? = some a := by
  obtain ⟨r, rfl⟩ := k.pre
  have hp : p < m.length := (List.getElem?_eq_some_iff.mp e).1
  rw [List.getElem?_append_left hp]; exact e

mutual
theorem VR.mono (k : Kp g m H m' H') : ∀ (x : PV) (v : V), VR g m H x v → VR g m' H' x v
  | .non, _, r => r
  | .bl _, _, r => r
  | .int _, _, r => r
  | .str _, _, r => r
  | .ty _, _, r => r
  | .fn _, _, r => r
  | .ref p, v, r => by
    obtain ⟨a, e, rfl⟩ := r
    exact ⟨a, k.get e, rfl⟩
  | .tup xs, v, r => by
    obtain ⟨a, vs, rfl, s, q⟩ := r
    exact ⟨a, vs, rfl, k.tup a vs s, VRs.mono k xs vs q⟩
  | .rol xs, v, r => by
    obtain ⟨a, vs, rfl, s, q⟩ := r
    exact ⟨a, vs, rfl, k.rol a vs s, VRs.mono k xs vs q⟩
theorem VRs.mono (k : Kp g m H m' H') : ∀ (xs : List PV) (vs : List V), VRs g m H xs vs → VRs g m' H' xs vs
  | [], _, r => r
  | x :: xs, vs, r => by
    obtain ⟨v, vs', rfl, a, b⟩ := r
    exact ⟨v, vs', rfl, VR.mono k x v a, VRs.mono k xs vs' b⟩
end
theorem KR.mono (k : Kp g m H m' H') : ∀ (xs : List (Key × PV)) (vs : List (Key × V)), KR g m H xs vs → KR g m' H' xs vs
  | [], _, r => r
  | x :: xs, vs, r => by
    obtain ⟨v, vs', rfl, a, b⟩ := r
    exact ⟨v, vs', rfl, VR.mono k _ v a, KR.mono k xs vs' b⟩

/-- where an object that is not written stays -/
theorem OR.mono (k : Kp g m H m' H') {o : PO} {a : Addr} (r : OR g m H o a) (e : H' a = H a) : OR g m' H' o a := by
  cases o with
  | lst xs => obtain ⟨vs, q, v⟩ := r; exact ⟨vs, by rw [e]; exact q, VRs.mono k _ _ v⟩
  | dct kvs => obtain ⟨ks, q, v⟩ := r; exact ⟨ks, by rw [e]; exact q, KR.mono k _ _ v⟩
  | set _ => exact r

theorem Ext.trans (x : Ext m H m1 H1) (y : Ext m1 H1 m2 H2) (no : ∀ a, a ∈ m → a ∈ m1) : Ext m H m2 H2 := by
  refine ⟨?_, fun a o e na => ?_, fun a ha na => ?_⟩
  · obtain ⟨r, rfl⟩ := x.pre
    obtain ⟨r', rfl⟩ := y.pre
    exact ⟨r ++ r', by simp⟩
  · have e1 := x.fr a o e na
    refine y.fr a o e1 fun h1 => ?_
    have := x.nw a h1 na
    rw [this] at e; cases e
  · by_cases h1 : a ∈ m1
    · exact x.nw a h1 na
    · have q := y.nw a ha h1
      cases e : H a with
      | none => rfl
      | some o => have := x.fr a o e na; rw [q] at this; cases this
theorem Ext.sub (x : Ext m H m1 H1) : ∀ a, a ∈ m → a ∈ m1 := by
  obtain ⟨r, rfl⟩ := x.pre
  exact fun a ha => List.mem_append_left _ ha
theorem Ext.then (x : Ext m H m1 H1) (y : Ext m1 H1 m2 H2) : Ext m H m2 H2 := x.trans y x.sub

/-- a new object -/
theorem HR.new {o : PO} {ho : HO} {a : Addr} (r : HR g m h H) (hn : H a = none)
    (mk : ∀ k : Kp g m H (m ++ [a]) (upd H a ho), OR g (m ++ [a]) (upd H a ho) o a) :
    HR g (m ++ [a]) (h ++ [o]) (upd H a ho) ∧ Ext m H (m ++ [a]) (upd H a ho) := by
  have na : a ∉ m := r.free hn
  have ex : Ext m H (m ++ [a]) (upd H a ho) := by
    refine ⟨⟨[a], rfl⟩, fun b ob e _ => ?_, fun b hb nb => ?_⟩
    · rw [upd_ne (ne_of_none e hn)]; exact e
    · rcases List.mem_append.mp hb with z | z
      · exact absurd z nb
      · rw [List.mem_singleton.mp z]; exact hn
  have kp := ex.kp r
  refine ⟨⟨by simp [r.len], ?_, fun p ob b e eb => ?_⟩, ex⟩
  · refine List.nodup_append.mpr ⟨r.nd, by simp, fun x hx y hy => ?_⟩
    rw [List.mem_singleton.mp hy]
    rintro rfl
    exact na hx
  · by_cases hp : p < h.length
    · rw [List.getElem?_append_left hp] at e
      rw [List.getElem?_append_left (by rw [r.len]; exact hp)] at eb
      have hb : b ∈ m := List.mem_of_getElem? eb
      exact (r.ob p ob b e eb).mono kp (upd_ne (fun z => na (z ▸ hb)))
    · have hp' : h.length ≤ p := Nat.le_of_not_lt hp
      rw [List.getElem?_append_right hp'] at e
      rw [List.getElem?_append_right (by rw [r.len]; exact hp'), r.len] at eb
      have z : p - h.length = 0 := by
        have := (List.getElem?_eq_some_iff.mp e).1
        simpa using this
      rw [z] at e eb
      have e1 : o = ob := by simpa using e
      have e2 : a = b := by simpa using eb
      subst e1; subst e2
      exact mk kp

/-- a mutable object changed -/
theorem HR.put {o o' : PO} {ho : HO} {a : Addr} {p : Nat} (r : HR g m h H) (hp : m[p]? = some a) (hq : h[p]? = some o')
    (mk : ∀ k : Kp g m H m (upd H a ho), OR g m (upd H a ho) o a) :
    HR g m (h.set p o) (upd H a ho) ∧ Ext m H m (upd H a ho) := by
  have ex : Ext m H m (upd H a ho) := by
    refine ⟨⟨[], by simp⟩, fun b ob e nb => ?_, fun b hb nb => absurd hb nb⟩
    rw [upd_ne]; exact e
    rintro rfl
    exact nb (List.mem_of_getElem? hp)
  have kp := ex.kp r
  refine ⟨⟨by simp [r.len], r.nd, fun q ob b e eb => ?_⟩, ex⟩
  by_cases hpq : q = p
  · subst hpq
    have hl : q < h.length := (List.getElem?_eq_some_iff.mp hq).1
    rw [List.getElem?_set_self hl] at e
    have e1 : o = ob := Option.some.inj e
    rw [hp] at eb
    have e2 : a = b := Option.some.inj eb
    subst e1; subst e2
    exact mk kp
  · rw [List.getElem?_set_ne (Ne.symm hpq)] at e
    refine (r.ob q ob b e eb).mono kp (upd_ne fun z => hpq ?_)
    subst z
    exact nodup_ix' r.nd eb hp
where
  nodup_ix' {l : List Addr} (nd : l.Nodup) {i j : Nat} {x : Addr} (a : l[i]? = some x) (b : l[j]? = some x) : i = j := by
    obtain ⟨h1, e1⟩ := List.getElem?_eq_some_iff.mp a
    obtain ⟨h2, e2⟩ := List.getElem?_eq_some_iff.mp b
    exact (List.getElem_inj nd).mp (e1.trans e2.symm)

/-- a new tuple, not one of the objects -/
theorem HR.tup {ys : List V} {a : Addr} (r : HR g m h H) (hn : H a = none) : HR g m h (upd H a (.tup ys)) ∧ Ext m H m (upd H a (.tup ys)) := by
  have na : a ∉ m := r.free hn
  have ex : Ext m H m (upd H a (.tup ys)) := by
    refine ⟨⟨[], by simp⟩, fun b ob e _ => ?_, fun b hb nb => absurd hb nb⟩
    rw [upd_ne (ne_of_none e hn)]; exact e
  have kp := ex.kp r
  exact ⟨⟨r.len, r.nd, fun q ob b e eb => (r.ob q ob b e eb).mono kp (upd_ne fun z => na (z ▸ List.mem_of_getElem? eb))⟩, ex⟩
end
end Pv

end
section
set_option Elab.async false
set_option maxRecDepth 100000
set_option maxHeartbeats 4000000
set_option autoImplicit false
set_option linter.all false
/-! Pv2: the operations, by values. -/
namespace Pv
open PySem L2

/-- what follows with the value v and the objects h' -/
def Kt (g : Gd) (m : List Addr) (H : Hp) (h' : PH) (v : PV) (Q : VK) : Prop :=
  ∀ (v' : V) (m' : List Addr) (H' : Hp), Ext m H m' H' → HR g m' h' H' → VR g m' H' v v' → Q v' H'

section
variable {g : Gd} {m m' m1 : List Addr} {h h' h1 : PH} {H H' H1 : Hp} {v : PV} {Q : VK}
theorem Kt.here (k : Kt g m H h v Q) (r : HR g m h H) {v' : V} (rv : VR g m H v v') : Q v' H := k v' m H .refl r rv
theorem Kt.ext (k : Kt g m H h' v Q) (x : Ext m H m1 H1) : Kt g m1 H1 h' v Q := fun v' m' H' y r rv => k v' m' H' (x.then y) r rv
theorem Kt.tup {xs : List PV} {vs : List V} {p : Addr} (k : Kt g m H h (.tup xs) Q) (r : HR g m h H) (rv : VRs g m H xs vs) (hn : H p = none) : Q (.ref p) (upd H p (.tup vs)) := by
  obtain ⟨r1, x1⟩ := r.tup (ys := vs) hn
  exact k _ m _ x1 r1 ⟨p, vs, rfl, .inl (.inl upd_same), VRs.mono (x1.kp r) xs vs rv⟩
theorem Kt.lst {xs : List PV} {vs : List V} {p : Addr} (k : Kt g m H (h ++ [.lst xs]) (.ref h.length) Q) (r : HR g m h H) (rv : VRs g m H xs vs) (hn : H p = none) : Q (.ref p) (upd H p (.lst vs)) := by
  obtain ⟨r1, x1⟩ := r.new (o := .lst xs) (ho := .lst vs) hn fun kp => ⟨vs, upd_same, VRs.mono kp xs vs rv⟩
  exact k _ _ _ x1 r1 ⟨p, by rw [← r.len]; simp, rfl⟩
theorem Kt.dct {xs : List (Key × PV)} {vs : List (Key × V)} {p : Addr} (k : Kt g m H (h ++ [.dct xs]) (.ref h.length) Q) (r : HR g m h H) (rv : KR g m H xs vs) (hn : H p = none) : Q (.ref p) (upd H p (.dK vs)) := by
  obtain ⟨r1, x1⟩ := r.new (o := .dct xs) (ho := .dK vs) hn fun kp => ⟨vs, upd_same, KR.mono kp xs vs rv⟩
  exact k _ _ _ x1 r1 ⟨p, by rw [← r.len]; simp, rfl⟩

theorem VRs.len : ∀ {xs : List PV} {vs : List V}, VRs g m H xs vs → vs.length = xs.length
  | [], _, r => by cases r; rfl
  | _ :: _, _, r => by
    obtain ⟨v, vs', rfl, _, b⟩ := r
    rw [List.length_cons, List.length_cons, VRs.len b]
theorem VRs.get : ∀ {xs : List PV} {vs : List V} {i : Nat} {x : PV}, VRs g m H xs vs → xs[i]? = some x → ∃ v, vs[i]? = some v ∧ VR g m H x v
  | [], _, _, _, _, e => by simp at e
  | y :: ys, _, 0, x, r, e => by
    obtain ⟨v, vs', rfl, a, b⟩ := r
    have e' : y = x := by simpa using e
    subst e'
    exact ⟨v, by simp, a⟩
  | y :: ys, _, i + 1, x, r, e => by
    obtain ⟨v, vs', rfl, a, b⟩ := r
    obtain ⟨w, e1, e2⟩ := VRs.get (i := i) (x := x) b (by simpa using e)
    exact ⟨w, by simpa using e1, e2⟩
theorem VRs.none {xs : List PV} {vs : List V} {i : Nat} (r : VRs g m H xs vs) (e : xs[i]? = none) : vs[i]? = none := by
  have := r.len
  rw [List.getElem?_eq_none_iff] at e ⊢
  omega
theorem VRs.app : ∀ {xs ys : List PV} {vs ws : List V}, VRs g m H xs vs → VRs g m H ys ws → VRs g m H (xs ++ ys) (vs ++ ws)
  | [], _, _, _, r, s => by cases r; exact s
  | _ :: _, _, _, _, r, s => by
    obtain ⟨v, vs', rfl, a, b⟩ := r
    exact ⟨v, _, rfl, a, VRs.app b s⟩
theorem VRs.take : ∀ (n : Nat) {xs : List PV} {vs : List V}, VRs g m H xs vs → VRs g m H (xs.take n) (vs.take n)
  | 0, xs, vs, _ => by simp [VRs]
  | _ + 1, [], _, r => by cases r; rfl
  | n + 1, _ :: _, _, r => by
    obtain ⟨v, vs', rfl, a, b⟩ := r
    exact ⟨v, _, rfl, a, VRs.take n b⟩
theorem VRs.drop : ∀ (n : Nat) {xs : List PV} {vs : List V}, VRs g m H xs vs → VRs g m H (xs.drop n) (vs.drop n)
  | 0, xs, vs, r => by simpa using r
  | _ + 1, [], _, r => by cases r; rfl
  | n + 1, _ :: _, _, r => by
    obtain ⟨v, vs', rfl, a, b⟩ := r
    exact VRs.drop n b
theorem VRs.set : ∀ (n : Nat) {xs : List PV} {vs : List V} {x : PV} {v : V}, VRs g m H xs vs → VR g m H x v → VRs g m H (xs.set n x) (vs.set n v)
  | _, [], _, _, _, r, _ => by cases r; rfl
  | 0, _ :: _, _, _, _, r, s => by
    obtain ⟨v, vs', rfl, a, b⟩ := r
    exact ⟨_, _, rfl, s, b⟩
  | n + 1, _ :: _, _, _, _, r, s => by
    obtain ⟨v, vs', rfl, a, b⟩ := r
    exact ⟨_, _, rfl, a, VRs.set n b s⟩
theorem VRs.cut {xs : List PV} {vs : List V} (r : VRs g m H xs vs) (lo hi : Option Int) : VRs g m H (cutP xs lo hi) (cutV vs lo hi) := by
  unfold cutP cutV
  rw [r.len]
  exact VRs.take _ (VRs.drop _ r)
theorem HR.ls (r : HR g m h H) {p : Nat} {xs : List PV} (e : PH.ls h p = some xs) : ∃ a vs, m[p]? = some a ∧ H a = some (.lst vs) ∧ VRs g m H xs vs ∧ h[p]? = some (.lst xs) := by
  unfold PH.ls at e
  split at e
  · rename_i ys q
    cases e
    obtain ⟨a, ha, o⟩ := r.at q
    obtain ⟨vs, e1, e2⟩ := o
    exact ⟨a, vs, ha, e1, e2, q⟩
  · cases e
theorem HR.lst (r : HR g m h H) {p : Nat} {xs : List PV} (e : h[p]? = some (.lst xs)) : ∃ a vs, m[p]? = some a ∧ H a = some (.lst vs) ∧ VRs g m H xs vs := by
  obtain ⟨a, ha, o⟩ := r.at e
  obtain ⟨vs, e1, e2⟩ := o
  exact ⟨a, vs, ha, e1, e2⟩
theorem HR.dct (r : HR g m h H) {p : Nat} {xs : List (Key × PV)} (e : h[p]? = some (.dct xs)) : ∃ a vs, m[p]? = some a ∧ H a = some (.dK vs) ∧ KR g m H xs vs := by
  obtain ⟨a, ha, o⟩ := r.at e
  obtain ⟨vs, e1, e2⟩ := o
  exact ⟨a, vs, ha, e1, e2⟩
theorem VR.ref_eq {p : Nat} {v : V} {a : Addr} (r : VR g m H (.ref p) v) (e : m[p]? = some a) : v = .ref a := by
  obtain ⟨b, e1, rfl⟩ := r
  rw [e] at e1; cases e1; rfl

theorem KR.val : ∀ {xs : List (Key × PV)} {vs : List (Key × V)} {k : Key}, KR g m H xs vs → (∀ x, getK xs k = some x → ∃ v, valV vs k = some v ∧ VR g m H x v) ∧ (getK xs k = none → valV vs k = none)
  | [], _, k, r => by
    cases r
    exact ⟨fun x e => by simp [getK] at e, fun _ => rfl⟩
  | (j, y) :: xs, _, k, r => by
    obtain ⟨v, vs', rfl, a, b⟩ := r
    by_cases hj : j = k
    · subst hj
      refine ⟨fun x e => ⟨v, by simp [valV], ?_⟩, fun e => by simp [getK] at e⟩
      have : y = x := by simpa [getK] using e
      subst this
      exact a
    · have e1 : getK ((j, y) :: xs) k = getK xs k := by simp [getK, hj]
      have e2 : valV ((j, v) :: vs') k = valV vs' k := by simp [valV, hj]
      show (∀ x, getK ((j, y) :: xs) k = some x → ∃ w, valV ((j, v) :: vs') k = some w ∧ VR g m H x w) ∧ _
      rw [e1, e2]
      exact KR.val b
theorem KR.len : ∀ {xs : List (Key × PV)} {vs : List (Key × V)}, KR g m H xs vs → vs.length = xs.length
  | [], _, r => by cases r; rfl
  | _ :: _, _, r => by
    obtain ⟨v, vs', rfl, _, b⟩ := r
    rw [List.length_cons, List.length_cons, KR.len b]
theorem KR.any : ∀ {xs : List (Key × PV)} {vs : List (Key × V)} {k : Key}, KR g m H xs vs → (vs.any fun kv => decide (kv.1 = k)) = (xs.any fun kv => decide (kv.1 = k))
  | [], _, _, r => by cases r; rfl
  | x :: xs, _, k, r => by
    obtain ⟨v, vs', rfl, _, b⟩ := r
    rw [List.any_cons, List.any_cons, KR.any b]
theorem KR.app : ∀ {xs ys : List (Key × PV)} {vs ws : List (Key × V)}, KR g m H xs vs → KR g m H ys ws → KR g m H (xs ++ ys) (vs ++ ws)
  | [], _, _, _, r, s => by cases r; exact s
  | _ :: _, _, _, _, r, s => by
    obtain ⟨v, vs', rfl, a, b⟩ := r
    exact ⟨v, _, rfl, a, KR.app b s⟩
theorem KR.map {k : Key} {y : PV} {w : V} (ry : VR g m H y w) : ∀ {xs : List (Key × PV)} {vs : List (Key × V)}, KR g m H xs vs →
    KR g m H (xs.map fun kv => if kv.1 = k then (kv.1, y) else kv) (vs.map fun kv => if kv.1 = k then (kv.1, w) else kv)
  | [], _, r => by cases r; rfl
  | (j, x) :: xs, _, r => by
    obtain ⟨v, vs', rfl, a, b⟩ := r
    rw [List.map_cons, List.map_cons]
    by_cases hj : j = k
    · simp only [hj, if_true]
      exact ⟨w, _, rfl, ry, KR.map ry b⟩
    · simp only [hj, if_false]
      exact ⟨v, _, rfl, a, KR.map ry b⟩
theorem KR.put {xs : List (Key × PV)} {vs : List (Key × V)} (r : KR g m H xs vs) (k : Key) {y : PV} {w : V} (ry : VR g m H y w) : KR g m H (putK xs k y) (L2.putK vs k w) := by
  unfold putK L2.putK
  rw [r.any]
  split
  · exact KR.map ry r
  · exact KR.app r ⟨w, [], rfl, ry, rfl⟩
theorem KR.mrg : ∀ {ys xs : List (Key × PV)} {ws vs : List (Key × V)}, KR g m H xs vs → KR g m H ys ws → KR g m H (mrg xs ys) (mergeK vs ws)
  | [], xs, _, vs, r, s => by cases s; exact r
  | (k, y) :: ys, xs, _, vs, r, s => by
    obtain ⟨w, ws', rfl, a, b⟩ := s
    exact KR.mrg (ys := ys) (xs := putK xs k y) (vs := L2.putK vs k w) (KR.put r k a) b
theorem keyV_rel {x : PV} {k : Key} {v : V} (e : keyV x = some k) (r : VR g m H x v) : v = kV k := by
  cases x with
  | int i => cases e; exact r
  | str s => cases e; exact r
  | _ => cases e

/-! ### data -/
theorem mapM_cons_some {α β : Type} {f : α → Option β} {x : α} {xs : List α} {ys : List β} (e : (x :: xs).mapM f = some ys) : ∃ y r, ys = y :: r ∧ f x = some y ∧ xs.mapM f = some r := by
  rw [List.mapM_cons] at e
  cases h1 : f x with
  | none => rw [h1] at e; cases e
  | some y =>
    cases h2 : xs.mapM f with
    | none => rw [h1, h2] at e; cases e
    | some r =>
      rw [h1, h2] at e
      cases e
      exact ⟨y, r, rfl, rfl, rfl⟩
theorem flatD_dp {x : PV} {v : V} {d : PyData} (e : x.flatD = some d) (r : VR g m H x v) : Dp g.K H v d := by
  cases x with
  | non => cases e; cases r; exact .non
  | bl b => cases e; cases r; exact .bl b
  | int b => cases e; cases r; exact .int b
  | str b => cases e; cases r; exact .str b
  | _ => cases e
theorem flatD_depth {x : PV} {d : PyData} (e : x.flatD = some d) : d.depth = 0 := by
  cases x with
  | non => cases e; rfl
  | bl b => cases e; rfl
  | int b => cases e; rfl
  | str b => cases e; rfl
  | _ => cases e
theorem toD_depth : ∀ (n : Nat) (x : PV) (d : PyData), toD n h x = some d → d.depth ≤ n := by
  intro n
  induction n with
  | zero => intro x d e; rw [flatD_depth (by simpa [toD] using e)]; exact Nat.le_refl _
  | succ n ih =>
    have all : ∀ (xs : List PV) (ds : List PyData), xs.mapM (toD n h) = some ds → PyData.depthAll ds ≤ n := by
      intro xs
      induction xs with
      | nil => intro ds e; cases e; exact Nat.zero_le _
      | cons x xs ihx =>
        intro ds e
        obtain ⟨y, r', rfl, e1, e2⟩ := mapM_cons_some e
        have a1 := ih x y e1
        have a2 := ihx r' e2
        rw [PyData.depthAll]
        omega
    intro x d e
    cases x with
    | ref p =>
      cases h1 : PH.ls h p with
      | none => simp [toD, h1] at e
      | some xs =>
        have e' : (xs.mapM (toD n h)).map PyData.list = some d := by simpa [toD, h1] using e
        obtain ⟨ds, e2, rfl⟩ := Option.map_eq_some_iff.mp e'
        rw [PyData.depth]
        have := all xs ds e2
        omega
    | tup xs =>
      have e' : (xs.mapM (toD n h)).map PyData.tuple = some d := by simpa [toD] using e
      obtain ⟨ds, e2, rfl⟩ := Option.map_eq_some_iff.mp e'
      rw [PyData.depth]
      have := all xs ds e2
      omega
    | _ => rw [flatD_depth (x := _) (by simpa [toD] using e)]; exact Nat.zero_le _
theorem toD_dp (r : HR g m h H) : ∀ (n : Nat) (x : PV) (v : V) (d : PyData), toD n h x = some d → VR g m H x v → Dp g.K H v d := by
  intro n
  induction n with
  | zero => intro x v d e rx; exact flatD_dp (x := x) (by simpa [toD] using e) rx
  | succ n ih =>
    have all : ∀ (xs : List PV) (vs : List V) (ds : List PyData), xs.mapM (toD n h) = some ds → VRs g m H xs vs → DpAll g.K H vs ds := by
      intro xs
      induction xs with
      | nil => intro vs ds e rs; cases rs; cases e; exact .nil
      | cons x xs ihx =>
        intro vs ds e rs
        obtain ⟨v, vs', rfl, a, b⟩ := rs
        obtain ⟨y, r', rfl, e1, e2⟩ := mapM_cons_some e
        exact .cons (ih x v y e1 a) (ihx vs' r' e2 b)
    intro x v d e rx
    cases x with
    | ref p =>
      cases h1 : PH.ls h p with
      | none => simp [toD, h1] at e
      | some xs =>
        have e' : (xs.mapM (toD n h)).map PyData.list = some d := by simpa [toD, h1] using e
        obtain ⟨ds, e2, rfl⟩ := Option.map_eq_some_iff.mp e'
        obtain ⟨a, vs, ea, eh, rv, _⟩ := r.ls h1
        rw [rx.ref_eq ea]
        exact .lst (.of eh) (all xs vs ds e2 rv)
    | tup xs =>
      have e' : (xs.mapM (toD n h)).map PyData.tuple = some d := by simpa [toD] using e
      obtain ⟨ds, e2, rfl⟩ := Option.map_eq_some_iff.mp e'
      obtain ⟨a, vs, rfl, s, q⟩ := rx
      exact .tup s (all xs vs ds e2 q)
    | _ => exact flatD_dp (by simpa [toD] using e) rx
end
end Pv

end
section
set_option Elab.async false
set_option maxRecDepth 100000
set_option maxHeartbeats 4000000
set_option autoImplicit false
set_option linter.all false
/-! Pv3: the operations, by values: the model's side. -/
namespace Pv
open PySem L2

structure Okv (g : Gd) (X : Cx) : Prop where
  K : X.K = g.K
  calm : X.calm = true
  un : X.A.units + 100 < cLine
  gd : X.A.guards = some []

/-- a rule of two values -/
def Op2 (g : Gd) (X : Cx) (f : Value → Value → Sem Value) (pf : PH → PV → PV → Option (PV × PH)) : Prop :=
  ∀ (pins : List (Addr × Obj)) (s : Shared) (σ : St) (H : Hp) (m : List Addr) (h : PH) (x y : PV) (a b : V) (u w : Value) (v : PV) (h' : PH) (Q : VK),
    Inv X pins σ H s → RelV a u → RelV b w → HR g m h H → VR g m H x a → VR g m H y b → pf h x y = some (v, h') → Kt g m H h' v Q → wpAny (model X.prog X.w) X.A (f u w) (EP X pins σ Q) X.xe s

theorem SZ_eq : SZ = sizeLine := by rw [sizeLine_eq]; rfl

section
variable {g : Gd} {X : Cx}

theorem Op2.of {f : Value → Value → Sem Value} {pf : PH → PV → PV → Option (PV × PH)}
    (hh : ∀ (H : Hp) (m : List Addr) (h : PH) (x y : PV) (a b : V) (v : PV) (h' : PH) (Q : VK), HR g m h H → VR g m H x a → VR g m H y b → pf h x y = some (v, h') → Kt g m H h' v Q →
      ∃ r, OpR X f r ∧ r a b H Q) : Op2 g X f pf := by
  intro pins s σ H m h x y a b u w v h' Q I ru rw' hr rx ry e k
  obtain ⟨r, o, q⟩ := hh H m h x y a b v h' Q hr rx ry e k
  exact o pins s σ H a b u w Q I ru rw' q

theorem add_ok (o : Okv g X) : Op2 g X (binaryOp .Add) (binPV .add) := .of fun H m h x y a b v h' Q hr rx ry e k => by
  cases x with
  | int i =>
    cases y with
    | int j =>
      cases e
      exact ⟨_, op_add, i, j, rx, ry, k.here hr rfl⟩
    | _ => cases e
  | str i =>
    cases y with
    | str j =>
      have e' : (if i.length + j.length ≤ SZ then some (PV.str (i ++ j), h) else none) = some (v, h') := e
      split at e'
      · rename_i hz
        cases e'
        exact ⟨_, op_add_str, i, j, rx, ry, by rw [← SZ_eq]; exact hz, k.here hr rfl⟩
      · cases e'
    | _ => cases e
  | tup xs =>
    cases y with
    | tup ys =>
      have e' : (if xs.length + ys.length ≤ SZ then some (PV.tup (xs ++ ys), h) else none) = some (v, h') := e
      split at e'
      · rename_i hz
        cases e'
        obtain ⟨p, vs, rfl, s1, r1⟩ := rx
        obtain ⟨q, ws, rfl, s2, r2⟩ := ry
        rw [← o.K] at s1 s2
        refine ⟨_, op_catA, p, q, vs, ws, rfl, rfl, s1, s2, by rw [r1.len, r2.len, ← SZ_eq]; exact hz, fun z => ?_, fun _ z => ?_, fun _ _ t ht => ?_⟩
        · subst z
          have : xs = [] := by have := r1.len; exact List.eq_nil_of_length_eq_zero this.symm
          subst this
          exact k.here hr ⟨q, ws, rfl, by rw [← o.K]; exact s2, r2⟩
        · subst z
          have : ys = [] := by have := r2.len; exact List.eq_nil_of_length_eq_zero this.symm
          subst this
          rw [List.append_nil] at k
          exact k.here hr ⟨p, vs, rfl, by rw [← o.K]; exact s1, r1⟩
        · exact k.tup hr (r1.app r2) ht
      · cases e'
    | _ => cases e
  | ref p =>
    cases y with
    | ref q =>
      have e' : (match h[p]?, h[q]? with
        | some (.lst xs), some (.lst ys) => if xs.length + ys.length ≤ SZ then some (newO (.lst (xs ++ ys)) h) else none
        | _, _ => none) = some (v, h') := e
      split at e'
      · rename_i xs ys e1 e2
        split at e'
        · rename_i hz
          cases e'
          obtain ⟨a', vs, m1, h1, r1⟩ := hr.lst e1
          obtain ⟨b', ws, m2, h2, r2⟩ := hr.lst e2
          rw [rx.ref_eq m1, ry.ref_eq m2]
          exact ⟨_, op_cat, a', b', vs, ws, rfl, rfl, h1, h2, by rw [r1.len, r2.len, ← SZ_eq]; exact hz, fun t ht => k.lst hr (r1.app r2) ht⟩
        · cases e'
      · cases e'
    | _ => cases e
  | _ => cases y <;> cases e

theorem sub_ok : Op2 g X (binaryOp .Sub) (binPV .sub) := .of fun H m h x y a b v h' Q hr rx ry e k => by
  cases x with
  | int i =>
    cases y with
    | int j => cases e; exact ⟨_, op_sub, i, j, rx, ry, k.here hr rfl⟩
    | _ => cases e
  | _ => cases y <;> cases e
theorem mul_ok : Op2 g X (binaryOp .Mult) (binPV .mul) := .of fun H m h x y a b v h' Q hr rx ry e k => by
  cases x with
  | int i =>
    cases y with
    | int j =>
      have e' : (if (-(2 ^ 64) < i ∧ i < 2 ^ 64) ∨ (-(2 ^ 64) < j ∧ j < 2 ^ 64) then some (PV.int (i * j), h) else none) = some (v, h') := e
      split at e'
      · rename_i c
        cases e'
        exact ⟨_, op_mul, i, j, rx, ry, c, k.here hr rfl⟩
      · cases e'
    | _ => cases e
  | _ => cases y <;> cases e
theorem fdiv_ok : Op2 g X (binaryOp .FloorDiv) (binPV .fdiv) := .of fun H m h x y a b v h' Q hr rx ry e k => by
  cases x with
  | int i =>
    cases y with
    | int j =>
      have e' : (if 0 < j ∧ j < 1073741824 then some (PV.int (i / j), h) else none) = some (v, h') := e
      split at e'
      · rename_i c
        cases e'
        exact ⟨_, op_fdiv, i, j, rx, ry, c, k.here hr rfl⟩
      · cases e'
    | _ => cases e
  | _ => cases y <;> cases e
theorem mod_ok : Op2 g X (binaryOp .Mod) (binPV .mod) := .of fun H m h x y a b v h' Q hr rx ry e k => by
  cases x with
  | int i =>
    cases y with
    | int j =>
      have e' : (if 0 < j then some (PV.int (i % j), h) else none) = some (v, h') := e
      split at e'
      · rename_i c
        cases e'
        exact ⟨_, op_mod, i, j, rx, ry, c, k.here hr rfl⟩
      · cases e'
    | _ => cases e
  | _ => cases y <;> cases e
theorem pow_ok : Op2 g X (binaryOp .Pow) (binPV .pow) := .of fun H m h x y a b v h' Q hr rx ry e k => by
  cases x with
  | int i =>
    cases y with
    | int j =>
      have e' : (if 0 ≤ j ∧ j ≤ 1000 ∧ i.natAbs < 2 ^ 64 then some (PV.int (i ^ j.toNat), h) else none) = some (v, h') := e
      split at e'
      · rename_i c
        cases e'
        exact ⟨_, op_pow, i, j, rx, ry, ⟨c.1, by omega, c.2.2⟩, k.here hr rfl⟩
      · cases e'
    | _ => cases e
  | _ => cases y <;> cases e

def opOf : Bo → Operator
  | .add => .Add | .sub => .Sub | .mul => .Mult | .fdiv => .FloorDiv | .mod => .Mod | .pow => .Pow
theorem bin_ok (o : Okv g X) : ∀ b : Bo, Op2 g X (binaryOp (opOf b)) (binPV b)
  | .add => add_ok o
  | .sub => sub_ok
  | .mul => mul_ok
  | .fdiv => fdiv_ok
  | .mod => mod_ok
  | .pow => pow_ok

/-! ### comparisons -/
def copOf : Co → CmpOp
  | .eq => .Eq | .ne => .NotEq | .lt => .Lt | .le => .LtE | .gt => .Gt | .ge => .GtE | .isin => .In | .notin => .NotIn | .isN => .Is | .notN => .IsNot
def cmpF (c : Co) (h : PH) (x y : PV) : Option (PV × PH) := (cmpPV c h x y).map fun k => (.bl k, h)

theorem eqF_ok {x y : PV} {a b : V} {m : List Addr} {H : Hp} (fx : x.flat = true) (fy : y.flat = true) (rx : VR g m H x a) (ry : VR g m H y b) :
    (scal a b = true ∧ PV.eqF x y = decide (a = b)) ∨ (∃ d e, Dp g.K H a d ∧ Dp g.K H b e ∧ d.canLay0 = true ∧ e.canLay0 = true ∧ d.depth = 0 ∧ e.depth = 0 ∧ PyData.eqv d e = PV.eqF x y) := by
  cases x with
  | non =>
    cases rx
    cases y with
    | non => cases ry; exact .inl ⟨rfl, by simp [PV.eqF]⟩
    | bl _ => cases ry; exact .inl ⟨rfl, by simp [PV.eqF]⟩
    | int _ => cases ry; exact .inl ⟨rfl, by simp [PV.eqF]⟩
    | str _ => cases ry; exact .inl ⟨rfl, by simp [PV.eqF]⟩
    | _ => cases fy
  | bl i =>
    cases rx
    cases y with
    | non => cases ry; exact .inl ⟨rfl, by simp [PV.eqF]⟩
    | bl j => cases ry; exact .inl ⟨rfl, by cases i <;> cases j <;> rfl⟩
    | int j => cases ry; exact .inr ⟨_, _, .bl i, .int j, rfl, rfl, rfl, rfl, by simp [PV.eqF, PyData.eqv]⟩
    | str _ => cases ry; exact .inl ⟨rfl, by simp [PV.eqF]⟩
    | _ => cases fy
  | int i =>
    cases rx
    cases y with
    | non => cases ry; exact .inl ⟨rfl, by simp [PV.eqF]⟩
    | bl j => cases ry; exact .inr ⟨_, _, .int i, .bl j, rfl, rfl, rfl, rfl, by simp [PV.eqF, PyData.eqv]⟩
    | int _ => cases ry; exact .inl ⟨rfl, by simp [PV.eqF]; rfl⟩
    | str _ => cases ry; exact .inl ⟨rfl, by simp [PV.eqF]⟩
    | _ => cases fy
  | str i =>
    cases rx
    cases y with
    | non => cases ry; exact .inl ⟨rfl, by simp [PV.eqF]⟩
    | bl j => cases ry; exact .inl ⟨rfl, by simp [PV.eqF]⟩
    | int _ => cases ry; exact .inl ⟨rfl, by simp [PV.eqF]⟩
    | str _ => cases ry; exact .inl ⟨rfl, by simp [PV.eqF]; rfl⟩
    | _ => cases fy
  | _ => cases fx

theorem eqPV_ok {x y : PV} {a b : V} {m : List Addr} {h : PH} {H : Hp} {k : Bool} (hr : HR g m h H) (rx : VR g m H x a) (ry : VR g m H y b) (e : eqPV h x y = some k) :
    (scal a b = true ∧ k = decide (a = b)) ∨ (∃ d e, Dp g.K H a d ∧ Dp g.K H b e ∧ SeqAt.shaped d = true ∧ SeqAt.shaped e = true ∧ PyData.eqv d e = k) := by
  have sh : ∀ {d : PyData}, d.canLay0 = true → d.depth ≤ 64 → SeqAt.shaped d = true := fun {d} h1 h2 => by
    unfold SeqAt.shaped
    rw [h1, decide_eq_true h2] <;> rfl
  unfold eqPV at e
  split at e
  · rename_i c
    rw [Bool.and_eq_true] at c
    cases e
    rcases eqF_ok c.1 c.2 rx ry with ⟨h1, h2⟩ | ⟨d, e', h1, h2, h3, h4, h5, h6, h7⟩
    · exact .inl ⟨h1, h2⟩
    · exact .inr ⟨d, e', h1, h2, sh h3 (by omega), sh h4 (by omega), h7⟩
  · split at e
    · rename_i d e' h1 h2
      split at e
      · rename_i c
        rw [Bool.and_eq_true] at c
        cases e
        refine .inr ⟨d, e', toD_dp hr DD x a d h1 rx, toD_dp hr DD y b e' h2 ry, sh c.1 ?_, sh c.2 ?_, rfl⟩
        · exact Nat.le_trans (toD_depth DD x d h1) (by decide)
        · exact Nat.le_trans (toD_depth DD y e' h2) (by decide)
      · cases e
    · cases e

theorem flatV_of {x : PV} {v : V} {m : List Addr} {H : Hp} (f : x.flat = true) (r : VR g m H x v) : flatV v = true := by
  cases x with
  | non => cases r; rfl
  | bl _ => cases r; rfl
  | int _ => cases r; rfl
  | str _ => cases r; rfl
  | _ => cases f
theorem eqV_of {x y : PV} {v w : V} {m : List Addr} {H : Hp} (f : x.flat = true) (f' : y.flat = true) (r : VR g m H x v) (r' : VR g m H y w) : eqV v w = PV.eqF x y := by
  cases x with
  | non => cases r; cases y with
    | non => cases r'; rfl
    | bl _ => cases r'; rfl
    | int _ => cases r'; rfl
    | str _ => cases r'; rfl
    | _ => cases f'
  | bl _ => cases r; cases y with
    | non => cases r'; rfl
    | bl _ => cases r'; rfl
    | int _ => cases r'; rfl
    | str _ => cases r'; rfl
    | _ => cases f'
  | int _ => cases r; cases y with
    | non => cases r'; rfl
    | bl _ => cases r'; rfl
    | int _ => cases r'; rfl
    | str _ => cases r'; rfl
    | _ => cases f'
  | str _ => cases r; cases y with
    | non => cases r'; rfl
    | bl _ => cases r'; rfl
    | int _ => cases r'; rfl
    | str _ => cases r'; rfl
    | _ => cases f'
  | _ => cases f
theorem flats_of {m : List Addr} {H : Hp} : ∀ {xs : List PV} {vs : List V}, xs.all PV.flat = true → VRs g m H xs vs → vs.all flatV = true
  | [], _, _, r => by cases r; rfl
  | x :: xs, _, f, r => by
    obtain ⟨v, vs', rfl, a, b⟩ := r
    rw [List.all_cons, Bool.and_eq_true] at f ⊢
    exact ⟨flatV_of f.1 a, flats_of f.2 b⟩
theorem inV_of {m : List Addr} {H : Hp} {x : PV} {v : V} (fx : x.flat = true) (rx : VR g m H x v) : ∀ {xs : List PV} {vs : List V}, xs.all PV.flat = true → VRs g m H xs vs → inV v vs = xs.any fun y => PV.eqF y x
  | [], _, _, r => by cases r; rfl
  | y :: ys, _, f, r => by
    obtain ⟨w, vs', rfl, a, b⟩ := r
    rw [List.all_cons, Bool.and_eq_true] at f
    show (eqV w v || inV v vs') = _
    rw [List.any_cons, eqV_of f.1 fx a rx, inV_of fx rx f.2 b]

theorem or_din (hu : X.A.units + 1 < cLine) : OpR X (compareOp .In) (fun x y H Q => ∃ a o, y = .ref a ∧ DGet H a x o ∧ Q (.bl o.isSome) H) := by
  intro pins s σ H x y v u Q I rx ry h
  obtain ⟨a, o, rfl, g, q⟩ := h
  cases ry
  exact d_in hu I g rx fun s3 I3 => ⟨.bl o.isSome, H, I3, rfl, q⟩
theorem or_dnotin (hu : X.A.units + 1 < cLine) : OpR X (compareOp .NotIn) (fun x y H Q => ∃ a o, y = .ref a ∧ DGet H a x o ∧ Q (.bl (!o.isSome)) H) := by
  intro pins s σ H x y v u Q I rx ry h
  obtain ⟨a, o, rfl, g, q⟩ := h
  cases ry
  exact d_notIn hu I g rx fun s3 I3 => ⟨.bl (!o.isSome), H, I3, rfl, q⟩

theorem in_cases {x y : PV} {a b : V} {m : List Addr} {h : PH} {H : Hp} {k : Bool} (o : Okv g X) (hr : HR g m h H) (rx : VR g m H x a) (ry : VR g m H y b) (e : inPV h x y = some k) :
    (∃ (c : Nat) (z : Str), a = .str ⟨#[c]⟩ ∧ b = .str z ∧ k = decide (c ∈ z.cps.toList)) ∨
    (∃ p xs, b = .ref p ∧ (SqL X.K H p xs ∨ SqT X.K H p xs) ∧ flatV a = true ∧ xs.all flatV = true ∧ k = inV a xs) ∨
    (∃ p ov, b = .ref p ∧ DGet H p a ov ∧ k = ov.isSome) := by
  cases y with
  | str z =>
    cases x with
    | str s =>
      have e' : (match s.cps.toList with | [c] => some (decide (c ∈ z.cps.toList)) | _ => none) = some k := e
      split at e'
      · rename_i c hc
        cases e'
        refine .inl ⟨c, z, ?_, ry, rfl⟩
        rw [show a = V.str s from rx]
        obtain ⟨⟨l⟩⟩ := s
        have : l = [c] := hc
        subst this
        rfl
      · cases e'
    | _ => cases e
  | tup ys =>
    have e' : (if x.flat && ys.all PV.flat then some (ys.any fun y => PV.eqF y x) else none) = some k := e
    split at e'
    · rename_i c
      rw [Bool.and_eq_true] at c
      cases e'
      obtain ⟨p, vs, rfl, s, r⟩ := ry
      exact .inr (.inl ⟨p, vs, rfl, .inr (by rw [o.K]; exact s), flatV_of c.1 rx, flats_of c.2 r, (inV_of c.1 rx c.2 r).symm⟩)
    · cases e'
  | ref p =>
    have e' : (match h[p]? with
      | some (.lst ys) => if x.flat && ys.all PV.flat then some (ys.any fun y => PV.eqF y x) else none
      | some (.dct kvs) => match keyV x with
        | some k => some (getK kvs k).isSome
        | none => none
      | _ => none) = some k := e
    split at e'
    · rename_i ys hp
      split at e'
      · rename_i c
        rw [Bool.and_eq_true] at c
        cases e'
        obtain ⟨q, vs, m1, h1, r⟩ := hr.lst hp
        rw [ry.ref_eq m1]
        exact .inr (.inl ⟨q, vs, rfl, .inl (.of h1), flatV_of c.1 rx, flats_of c.2 r, (inV_of c.1 rx c.2 r).symm⟩)
      · cases e'
    · rename_i kvs hp
      split at e'
      · rename_i j hj
        cases e'
        obtain ⟨q, vs, m1, h1, r⟩ := hr.dct hp
        rw [ry.ref_eq m1, keyV_rel hj rx]
        refine .inr (.inr ⟨q, valV vs j, rfl, .k h1, ?_⟩)
        obtain ⟨r1, r2⟩ := r.val (k := j)
        cases z : getK kvs j with
        | none => rw [r2 z] <;> rfl
        | some v => obtain ⟨w, e1, _⟩ := r1 v z; rw [e1] <;> rfl
      · cases e'
    · cases e'
  | _ => cases e

theorem cmp_ok (o : Okv g X) : ∀ c : Co, Op2 g X (compareOp (copOf c)) (cmpF c) := by
  intro c
  refine .of fun H m h x y a b v h' Q hr rx ry e k => ?_
  obtain ⟨k0, e1, e2⟩ := Option.map_eq_some_iff.mp e
  cases e2
  have fin : ∀ {k1 : Bool}, k1 = k0 → Q (.bl k1) H := fun {k1} z => by subst z; exact k.here hr rfl
  cases c with
  | eq =>
    rcases eqPV_ok hr rx ry e1 with ⟨z1, z2⟩ | ⟨d, e', z1, z2, z3, z4, z5⟩
    · exact ⟨_, op_eq, z1, fin z2.symm⟩
    · exact ⟨_, op_eqD (by have := o.un; omega), d, e', by rw [o.K]; exact z1, by rw [o.K]; exact z2, z3, z4, fin z5⟩
  | ne =>
    obtain ⟨k1, e1', e2⟩ := Option.map_eq_some_iff.mp (show (eqPV h x y).map not = some k0 from e1)
    rcases eqPV_ok hr rx ry e1' with ⟨z1, z2⟩ | ⟨d, e', z1, z2, z3, z4, z5⟩
    · exact ⟨_, op_ne, z1, fin (by rw [← z2]; exact e2)⟩
    · exact ⟨_, op_neD (by have := o.un; omega), d, e', by rw [o.K]; exact z1, by rw [o.K]; exact z2, z3, z4, fin (by rw [z5]; exact e2)⟩
  | lt =>
    cases x with
    | int i =>
      cases y with
      | int j => cases e1; exact ⟨_, op_lt, i, j, rx, ry, fin rfl⟩
      | _ => cases e1
    | str i =>
      cases y with
      | str j => cases e1; exact ⟨_, op_lt_str, i, j, rx, ry, fin rfl⟩
      | _ => cases e1
    | _ => cases y <;> cases e1
  | le =>
    cases x with
    | int i =>
      cases y with
      | int j => cases e1; exact ⟨_, op_le, i, j, rx, ry, fin rfl⟩
      | _ => cases e1
    | str i =>
      cases y with
      | str j => cases e1; exact ⟨_, op_le_str, i, j, rx, ry, fin rfl⟩
      | _ => cases e1
    | _ => cases y <;> cases e1
  | gt =>
    cases x with
    | int i =>
      cases y with
      | int j => cases e1; exact ⟨_, op_gt, i, j, rx, ry, fin rfl⟩
      | _ => cases e1
    | _ => cases y <;> cases e1
  | ge =>
    cases x with
    | int i =>
      cases y with
      | int j => cases e1; exact ⟨_, op_ge, i, j, rx, ry, fin rfl⟩
      | _ => cases e1
    | _ => cases y <;> cases e1
  | isin =>
    rcases in_cases o hr rx ry e1 with ⟨c, z, z1, z2, z3⟩ | ⟨p, xs, z1, z2, z3, z4, z5⟩ | ⟨p, ov, z1, z2, z3⟩
    · exact ⟨_, op_in_sign, c, z, z1, z2, fin z3.symm⟩
    · exact ⟨_, op_in_seq, p, xs, z1, z2, z3, z4, fin z5.symm⟩
    · exact ⟨_, or_din (by have := o.un; omega), p, ov, z1, z2, fin z3.symm⟩
  | notin =>
    obtain ⟨k1, e1', e2⟩ := Option.map_eq_some_iff.mp (show (inPV h x y).map not = some k0 from e1)
    rcases in_cases o hr rx ry e1' with ⟨c, z, z1, z2, z3⟩ | ⟨p, xs, z1, z2, z3, z4, z5⟩ | ⟨p, ov, z1, z2, z3⟩
    · exact ⟨_, op_notIn_sign, c, z, z1, z2, fin (by rw [← z3]; exact e2)⟩
    · exact ⟨_, op_notIn_seq, p, xs, z1, z2, z3, z4, fin (by simp only [if_true]; rw [← z5]; exact e2)⟩
    · exact ⟨_, or_dnotin (by have := o.un; omega), p, ov, z1, z2, fin (by rw [← z3]; exact e2)⟩
  | isN =>
    cases y with
    | non =>
      cases ry
      cases x with
      | non => cases e1; cases rx; exact ⟨_, op_isN, rfl, fin (by simp)⟩
      | bl _ => cases e1; cases rx; exact ⟨_, op_isN, rfl, fin (by simp)⟩
      | int _ => cases e1; cases rx; exact ⟨_, op_isN, rfl, fin (by simp)⟩
      | str _ => cases e1; cases rx; exact ⟨_, op_isN, rfl, fin (by simp)⟩
      | ref _ => cases e1; obtain ⟨_, _, rfl⟩ := rx; exact ⟨_, op_isN, rfl, fin (by simp)⟩
      | fn _ => cases e1; obtain ⟨_, _, rfl⟩ := rx; exact ⟨_, op_isN, rfl, fin (by simp)⟩
      | tup _ => cases e1; obtain ⟨_, _, rfl, _⟩ := rx; exact ⟨_, op_isN, rfl, fin (by simp)⟩
      | rol _ => cases e1; obtain ⟨_, _, rfl, _⟩ := rx; exact ⟨_, op_isN, rfl, fin (by simp)⟩
      | ty _ => cases e1
    | _ => cases x <;> cases e1
  | notN =>
    cases y with
    | non =>
      cases ry
      cases x with
      | non => cases e1; cases rx; exact ⟨_, op_notN, rfl, fin (by simp)⟩
      | bl _ => cases e1; cases rx; exact ⟨_, op_notN, rfl, fin (by simp)⟩
      | int _ => cases e1; cases rx; exact ⟨_, op_notN, rfl, fin (by simp)⟩
      | str _ => cases e1; cases rx; exact ⟨_, op_notN, rfl, fin (by simp)⟩
      | ref _ => cases e1; obtain ⟨_, _, rfl⟩ := rx; exact ⟨_, op_notN, rfl, fin (by simp)⟩
      | fn _ => cases e1; obtain ⟨_, _, rfl⟩ := rx; exact ⟨_, op_notN, rfl, fin (by simp)⟩
      | tup _ => cases e1; obtain ⟨_, _, rfl, _⟩ := rx; exact ⟨_, op_notN, rfl, fin (by simp)⟩
      | rol _ => cases e1; obtain ⟨_, _, rfl, _⟩ := rx; exact ⟨_, op_notN, rfl, fin (by simp)⟩
      | ty _ => cases e1
    | _ => cases x <;> cases e1
end
end Pv

end
section
set_option Elab.async false
set_option maxRecDepth 100000
set_option maxHeartbeats 4000000
set_option autoImplicit false
set_option linter.all false
/-! Pv4: subscripts, truth, isinstance, calls of built-ins, methods. -/
namespace Pv
open PySem L2
section
variable {g : Gd} {X : Cx}

/-! ### x[i] -/
theorem ix_dict (hu : X.A.units + 1 < cLine) : IxR X (fun x y H Q => ∃ a v, x = .ref a ∧ DGet H a y (some v) ∧ Q v H) := by
  intro value slice pins s σ H x y v u Q I rx ry h hs
  obtain ⟨a, w, rfl, gt, q⟩ := h
  cases rx
  exact PyProof.Rows.tail_any (dict_typeIs I gt) PySem.F.slot_dict_getitem.lookup (d_getItem hu I gt ry fun w' s3 I3 rw' => ⟨w, H, I3, rw', q⟩) hs

theorem ix_ok (o : Okv g X) {m : List Addr} {h : PH} {H : Hp} {x y v : PV} {a b : V} {Q : VK} (hr : HR g m h H) (rx : VR g m H x a) (ry : VR g m H y b) (e : ixPV h x y = some v) (k : Kt g m H h v Q) :
    ∃ r, IxR X r ∧ r a b H Q := by
  have at_ : ∀ {xs : List PV} {vs : List V} {i : Int}, VRs g m H xs vs → ((ixOf xs.length i).bind fun j => xs[j]?) = some v → ∃ w, atI vs i = some w ∧ Q w H := fun {xs vs i} r e => by
    obtain ⟨j, e1, e2⟩ := Option.bind_eq_some_iff.mp e
    obtain ⟨w, e3, e4⟩ := r.get e2
    refine ⟨w, ?_, k.here hr e4⟩
    unfold atI
    rw [r.len]
    exact Option.bind_eq_some_iff.mpr ⟨j, e1, e3⟩
  cases x with
  | tup xs =>
    cases y with
    | int i =>
      obtain ⟨p, vs, rfl, s, r⟩ := rx
      obtain ⟨w, e1, q⟩ := at_ r e
      exact ⟨_, ix_tup, p, vs, i, w, rfl, ry, by rw [o.K]; exact s, e1, q⟩
    | _ => cases e
  | rol xs =>
    cases y with
    | int i =>
      obtain ⟨p, vs, rfl, s, r⟩ := rx
      obtain ⟨w, e1, q⟩ := at_ r e
      exact ⟨_, ix_list, p, vs, i, w, rfl, ry, by rw [o.K]; exact s.sq, e1, q⟩
    | _ => cases e
  | str z =>
    cases y with
    | int i =>
      have e' : (if z.length ≤ SZ then (ixOf z.cps.toList.length i).bind fun j => (z.cps.toList[j]?).map fun c => PV.str ⟨#[c]⟩ else none) = some v := e
      split at e'
      · rename_i hz
        obtain ⟨j, e1, e2⟩ := Option.bind_eq_some_iff.mp e'
        obtain ⟨c, e3, e4⟩ := Option.map_eq_some_iff.mp e2
        subst e4
        refine ⟨_, ix_str, z, i, c, rx, ry, by rw [← SZ_eq]; exact hz, ?_, k.here hr rfl⟩
        unfold atI
        exact Option.bind_eq_some_iff.mpr ⟨j, e1, e3⟩
      · cases e'
    | _ => cases e
  | ref p =>
    have e' : (match h[p]? with
      | some (.lst xs) => (match y with | .int i => (ixOf xs.length i).bind fun j => xs[j]? | _ => none)
      | some (.dct kvs) => (keyV y).bind fun k => getK kvs k
      | _ => none) = some v := by cases y <;> exact e
    split at e'
    · rename_i xs hp
      obtain ⟨q, vs, m1, h1, r⟩ := hr.lst hp
      cases y with
      | int i =>
        obtain ⟨w, e1, q'⟩ := at_ r e'
        exact ⟨_, ix_list, q, vs, i, w, rx.ref_eq m1, ry, .of h1, e1, q'⟩
      | _ => cases e'
    · rename_i kvs hp
      obtain ⟨q, vs, m1, h1, r⟩ := hr.dct hp
      obtain ⟨j, e1, e2⟩ := Option.bind_eq_some_iff.mp e'
      obtain ⟨w, e3, e4⟩ := (r.val (k := j)).1 v e2
      refine ⟨_, ix_dict (by have := o.un; omega), q, w, rx.ref_eq m1, ?_, k.here hr e4⟩
      rw [keyV_rel e1 ry, ← e3]
      exact .k h1
    · cases e'
  | _ => cases y <;> cases e

/-! ### slices -/
theorem sl_ok (o : Okv g X) {m : List Addr} {h h' : PH} {H : Hp} {x v : PV} {a : V} {lo hi : Option Int} {Q : VK} (hr : HR g m h H) (rx : VR g m H x a) (e : slPV h x lo hi = some (v, h')) (k : Kt g m H h' v Q) :
    ∃ r, SlR X r ∧ r a lo hi H Q := by
  cases x with
  | tup xs =>
    cases e
    obtain ⟨p, vs, rfl, s, r⟩ := rx
    refine ⟨_, sl_tupA, p, vs, rfl, by rw [o.K]; exact s, fun hw => ?_, fun _ t ht => k.tup hr (r.cut lo hi) ht⟩
    have e1 : cutP xs lo hi = xs := by
      unfold cutP
      rw [r.len] at hw
      rw [hw.1, hw.2, List.drop_zero, Nat.sub_zero, List.take_length]
    rw [e1] at k
    exact k.here hr ⟨p, vs, rfl, s, r⟩
  | rol xs =>
    cases e
    obtain ⟨p, vs, rfl, s, r⟩ := rx
    exact ⟨_, sl_list, p, vs, rfl, by rw [o.K]; exact s.sq, fun t ht => k.lst hr (r.cut lo hi) ht⟩
  | str z =>
    have e' : (if z.length ≤ SZ then some (PV.str ⟨(cutP z.cps.toList lo hi).toArray⟩, h) else none) = some (v, h') := e
    split at e'
    · rename_i hz
      cases e'
      refine ⟨_, sl_str, z, rx, by rw [← SZ_eq]; exact hz, ?_⟩
      have e1 : cutS z lo hi = ⟨(cutP z.cps.toList lo hi).toArray⟩ := by
        unfold cutS cutP
        rw [Array.length_toList] <;> rfl
      rw [e1]
      exact k.here hr rfl
    · cases e'
  | ref p =>
    have e' : (match h.ls p with
      | some xs => some (newO (.lst (cutP xs lo hi)) h)
      | none => none) = some (v, h') := e
    split at e'
    · rename_i xs hp
      cases e'
      obtain ⟨q, vs, m1, h1, r, _⟩ := hr.ls hp
      exact ⟨_, sl_list, q, vs, rx.ref_eq m1, .of h1, fun t ht => k.lst hr (r.cut lo hi) ht⟩
    · cases e'
  | _ => cases e

/-! ### truth -/
theorem tru_rel (o : Okv g X) {m : List Addr} {h : PH} {H : Hp} {x : PV} {a : V} {b : Bool} (hr : HR g m h H) (rx : VR g m H x a) (e : truPV h x = some b) : TruV X.K a H b := by
  have ie : ∀ {xs : List PV} {vs : List V}, VRs g m H xs vs → vs.isEmpty = xs.isEmpty := fun {xs vs} r => by
    have := r.len
    cases xs <;> cases vs <;> simp_all
  cases x with
  | non => cases e; cases rx; rfl
  | bl _ => cases e; cases rx; rfl
  | int _ => cases e; cases rx; rfl
  | str z =>
    have e' : (if z.length ≤ SZ then some (!z.cps.toList.isEmpty) else none) = some b := e
    split at e'
    · rename_i hz
      cases e'
      cases rx
      refine ⟨by rw [← SZ_eq]; exact hz, ?_⟩
      have : z.length = z.cps.toList.length := by simp [Str.length]
      rw [this]
      cases z.cps.toList with
      | nil => rfl
      | cons c l =>
        symm
        show ((((l.length + 1 : Nat) : Int)) != 0) = true
        rw [bne_iff_ne]
        omega
    · cases e'
  | tup xs =>
    cases e
    obtain ⟨p, vs, rfl, s, r⟩ := rx
    exact .inr (.inl ⟨vs, by rw [o.K]; exact s, by rw [ie r]⟩)
  | ref p =>
    have e' : (match h[p]? with
      | some (.lst xs) => some (!xs.isEmpty)
      | some (.dct kvs) => some (!kvs.isEmpty)
      | _ => none) = some b := e
    split at e'
    · rename_i xs hp
      cases e'
      obtain ⟨q, vs, m1, h1, r⟩ := hr.lst hp
      rw [rx.ref_eq m1]
      exact .inl ⟨vs, .of h1, by rw [ie r]⟩
    · rename_i xs hp
      cases e'
      obtain ⟨q, vs, m1, h1, r⟩ := hr.dct hp
      rw [rx.ref_eq m1]
      refine .inr (.inr ⟨vs, h1, ?_⟩)
      have := r.len
      cases xs <;> cases vs <;> simp_all
    · cases e'
  | _ => cases e

/-! ### isinstance -/
theorem kit_tab (t u : String) (ht : t = "NoneType" ∨ t = "bool" ∨ t = "int" ∨ t = "str" ∨ t = "tuple" ∨ t = "list" ∨ t = "dict") (hu : u = "int" ∨ u = "bool" ∨ u = "str" ∨ u = "tuple") : kitB t u = some (isiTy t u) := by
  rcases ht with rfl | rfl | rfl | rfl | rfl | rfl | rfl <;> rcases hu with rfl | rfl | rfl | rfl <;> decide +kernel
theorem isi_ok (o : Okv g X) {m : List Addr} {h : PH} {H : Hp} {x : PV} {a : V} {u : String} {b : Bool} {Q : VK} (hr : HR g m h H) (rx : VR g m H x a) (e : isiPV h x u = some b) (k : Kt g m H h (.bl b) Q) :
    rIsi X.K [a, .ty u] H Q := by
  unfold isiPV at e
  split at e
  · rename_i hu
    obtain ⟨t, e1, e2⟩ := Option.map_eq_some_iff.mp e
    have hu' : u = "int" ∨ u = "bool" ∨ u = "str" ∨ u = "tuple" := by
      simp only [Bool.or_eq_true, beq_iff_eq] at hu
      rcases hu with ((hu | hu) | hu) | hu <;> simp [hu]
    have ty : TyX X.K H a (.type t) ∧ (t = "NoneType" ∨ t = "bool" ∨ t = "int" ∨ t = "str" ∨ t = "tuple" ∨ t = "list" ∨ t = "dict") := by
      cases x with
      | non => cases e1; cases rx; exact ⟨.base .non, by simp⟩
      | bl _ => cases e1; cases rx; exact ⟨.base (.bl _), by simp⟩
      | int _ => cases e1; cases rx; exact ⟨.base (.int _), by simp⟩
      | str _ => cases e1; cases rx; exact ⟨.base (.str _), by simp⟩
      | tup xs =>
        cases e1
        obtain ⟨p, vs, rfl, s, r⟩ := rx
        rw [← o.K] at s
        refine ⟨?_, by simp⟩
        rcases s with (z | ⟨ob, z⟩) | ⟨ob, its, n, z, c, _⟩
        · exact .base (.tup z)
        · exact .fTuple z
        · exact .kTuple z c
      | ref p =>
        have e1' : (match h[p]? with | some (.lst _) => some "list" | some (.dct _) => some "dict" | _ => none) = some t := e1
        split at e1'
        · rename_i xs hp
          cases e1'
          obtain ⟨q, vs, m1, h1, r⟩ := hr.lst hp
          rw [rx.ref_eq m1]
          exact ⟨.base (.lst h1), by simp⟩
        · rename_i xs hp
          cases e1'
          obtain ⟨q, vs, m1, h1, r⟩ := hr.dct hp
          rw [rx.ref_eq m1]
          exact ⟨.base (.dK h1), by simp⟩
        · cases e1'
      | _ => cases e1
    refine ⟨a, .ty u, .type t, .type u, b, rfl, .ty u, ty.1, ?_, k.here hr rfl⟩
    rw [← e2]
    exact kit_ty (kit_tab t u ty.2 hu')
  · cases e

/-! ### calls of built-ins -/
theorem bls_rel {m : List Addr} {H : Hp} : ∀ {xs : List PV} {bs : List Bool} {vs : List V}, blsOf xs = some bs → VRs g m H xs vs → vs = bs.map V.bl
  | [], _, _, e, r => by cases e; cases r; rfl
  | .bl b :: xs, bs, _, e, r => by
    obtain ⟨v, vs', rfl, a, b'⟩ := r
    obtain ⟨cs, e1, rfl⟩ := Option.map_eq_some_iff.mp (show (blsOf xs).map (b :: ·) = some bs from e)
    rw [bls_rel e1 b', show v = V.bl b from a]
    rfl
  | .non :: _, _, _, e, _ => by cases e
  | .int _ :: _, _, _, e, _ => by cases e
  | .str _ :: _, _, _, e, _ => by cases e
  | .tup _ :: _, _, _, e, _ => by cases e
  | .rol _ :: _, _, _, e, _ => by cases e
  | .ref _ :: _, _, _, e, _ => by cases e
  | .fn _ :: _, _, _, e, _ => by cases e
  | .ty _ :: _, _, _, e, _ => by cases e
theorem strs_rel {m : List Addr} {H : Hp} : ∀ {xs : List PV} {bs : List Str} {vs : List V}, strsOf xs = some bs → VRs g m H xs vs → vs = bs.map V.str
  | [], _, _, e, r => by cases e; cases r; rfl
  | .str b :: xs, bs, _, e, r => by
    obtain ⟨v, vs', rfl, a, b'⟩ := r
    obtain ⟨cs, e1, rfl⟩ := Option.map_eq_some_iff.mp (show (strsOf xs).map (b :: ·) = some bs from e)
    rw [strs_rel e1 b', show v = V.str b from a]
    rfl
  | .non :: _, _, _, e, _ => by cases e
  | .int _ :: _, _, _, e, _ => by cases e
  | .bl _ :: _, _, _, e, _ => by cases e
  | .tup _ :: _, _, _, e, _ => by cases e
  | .rol _ :: _, _, _, e, _ => by cases e
  | .ref _ :: _, _, _, e, _ => by cases e
  | .fn _ :: _, _, _, e, _ => by cases e
  | .ty _ :: _, _, _, e, _ => by cases e
theorem strs_vrs {m : List Addr} {H : Hp} : ∀ (bs : List Str), VRs g m H (bs.map PV.str) (bs.map V.str)
  | [] => rfl
  | b :: bs => ⟨_, _, rfl, rfl, strs_vrs bs⟩
theorem pairs_rel {m : List Addr} {H : Hp} (o : Okv g X) : ∀ {xs : List PV} {kvs : List (Key × PV)} {vs : List V}, pairsOf xs = some kvs → VRs g m H xs vs →
    ∃ (ps : List Addr) (ks : List (Key × V)), vs = ps.map V.ref ∧ Paired (fun p kv => SqT X.K H p [kV kv.1, kv.2]) ps ks ∧ KR g m H kvs ks
  | [], _, _, e, r => by cases e; cases r; exact ⟨[], [], rfl, .nil, rfl⟩
  | x :: xs, kvs, _, e, r => by
    obtain ⟨v, vs', rfl, a, b'⟩ := r
    unfold pairsOf at e
    split at e
    · rename_i q; cases q
    · rename_i k y xs' q
      cases q
      split at e
      · rename_i k' r' h1 h2
        cases e
        obtain ⟨p, ws, rfl, s, w1, ws1, rfl, t1, w2, ws2, rfl, t2, t3⟩ := a
        cases t3
        obtain ⟨ps, ks, rfl, i2, i3⟩ := pairs_rel o h2 b'
        refine ⟨p :: ps, (k', w2) :: ks, rfl, .cons ?_ i2, w2, ks, rfl, t2, i3⟩
        rw [o.K, ← keyV_rel h1 t1]
        exact s
      · cases e
    · cases e

def b1Id : B1 → Value
  | .len => .builtin "len" | .all => .builtin "all" | .any => .builtin "any" | .abs => .builtin "abs" | .int => .type "int" | .set => .type "set" | .sorted => .builtin "sorted"
  | .tuple => .type "tuple" | .list => .type "list" | .dict => .type "dict" | .repr => .builtin "repr"

theorem call_reprD (hu : X.A.units + 100 < cLine) (hg : X.A.guards = some []) : CallR X (.builtin "repr") (fun xs H Q => ∃ a d, xs = [.ref a] ∧ Dp X.K H (.ref a) d ∧ d.hasDict = false ∧ d.showable = true ∧ d.depth ≤ 64 ∧ d.shown.length ≤ sizeLine ∧ Q (.str d.shown) H) := by
  intro pins s σ H xs us Q I r h
  obtain ⟨a, d, rfl, hd, nd, sh, dp, sz, q⟩ := h
  obtain ⟨u, rfl, ru⟩ := vals1 r
  obtain ⟨as, rd⟩ := Dp.reads I d _ _ hd ru
  cases ru
  exact repr_of_reads' rd sh (fun z => by rw [nd] at z; cases z) hg (by omega) (fun _ _ e => e) (fun h' u tk k => ⟨.str d.shown, H, I.kept (t' := tk) k, ⟨_, rfl⟩, q⟩) sz
theorem flatD_nodict {x : PV} {d : PyData} (e : x.flatD = some d) : d.hasDict = false := by
  cases x with
  | non => cases e; rfl
  | bl b => cases e; rfl
  | int b => cases e; rfl
  | str b => cases e; rfl
  | _ => cases e
theorem toD_nodict {h : PH} : ∀ (n : Nat) (x : PV) (d : PyData), toD n h x = some d → d.hasDict = false := by
  intro n
  induction n with
  | zero => intro x d e; exact flatD_nodict (x := x) (by simpa [toD] using e)
  | succ n ih =>
    have all : ∀ (xs : List PV) (ds : List PyData), xs.mapM (toD n h) = some ds → PyData.hasDictAll ds = false := by
      intro xs
      induction xs with
      | nil => intro ds e; cases e; rfl
      | cons x xs ihx =>
        intro ds e
        obtain ⟨y, r', rfl, e1, e2⟩ := mapM_cons_some e
        rw [PyData.hasDictAll, ih x y e1, ihx r' e2] <;> rfl
    intro x d e
    cases x with
    | ref p =>
      cases h1 : PH.ls h p with
      | none => simp [toD, h1] at e
      | some xs =>
        have e' : (xs.mapM (toD n h)).map PyData.list = some d := by simpa [toD, h1] using e
        obtain ⟨ds, e2, rfl⟩ := Option.map_eq_some_iff.mp e'
        rw [PyData.hasDict]
        exact all xs ds e2
    | tup xs =>
      have e' : (xs.mapM (toD n h)).map PyData.tuple = some d := by simpa [toD] using e
      obtain ⟨ds, e2, rfl⟩ := Option.map_eq_some_iff.mp e'
      rw [PyData.hasDict]
      exact all xs ds e2
    | _ => exact flatD_nodict (by simpa [toD] using e)

theorem b1_ok (o : Okv g X) {m : List Addr} {h h' : PH} {H : Hp} {b : B1} {x v : PV} {a : V} {Q : VK} (hr : HR g m h H) (rx : VR g m H x a) (e : b1PV b h x = some (v, h')) (k : Kt g m H h' v Q) :
    ∃ r, CallR X (b1Id b) r ∧ r [a] H Q := by
  have ex : ∀ {bs : List Bool} {p : Nat}, (PH.ls h p).bind blsOf = some bs → ∃ q, m[p]? = some q ∧ H q = some (.lst (bs.map V.bl)) := fun {bs p} e => by
    obtain ⟨xs, e1, e2⟩ := Option.bind_eq_some_iff.mp e
    obtain ⟨q, vs, m1, h1, r, _⟩ := hr.ls e1
    exact ⟨q, m1, by rw [h1, bls_rel e2 r]⟩
  cases b with
  | len =>
    obtain ⟨n, e1, e2⟩ := Option.map_eq_some_iff.mp e
    cases e2
    refine ⟨_, call_len, a, n, rfl, ?_, k.here hr rfl⟩
    cases x with
    | tup xs =>
      cases e1
      obtain ⟨p, vs, rfl, s, r⟩ := rx
      exact .inr ⟨vs, by rw [o.K]; exact s, r.len.symm⟩
    | rol xs =>
      cases e1
      obtain ⟨p, vs, rfl, s, r⟩ := rx
      exact .inl ⟨vs, by rw [o.K]; exact s.sq, r.len.symm⟩
    | str z =>
      have e' : (if z.length ≤ SZ then some z.length else none) = some n := e1
      split at e'
      · rename_i hz
        cases e'
        cases rx
        exact ⟨by rw [← SZ_eq]; exact hz, rfl⟩
      · cases e'
    | ref p =>
      obtain ⟨xs, e3, rfl⟩ := Option.map_eq_some_iff.mp (show (PH.ls h p).map List.length = some n from e1)
      obtain ⟨q, vs, m1, h1, r, _⟩ := hr.ls e3
      rw [rx.ref_eq m1]
      exact .inl ⟨vs, .of h1, r.len.symm⟩
    | _ => cases e1
  | all =>
    cases x with
    | ref p =>
      obtain ⟨bs, e1, e2⟩ := Option.map_eq_some_iff.mp (show ((PH.ls h p).bind blsOf).map _ = some (v, h') from e)
      cases e2
      obtain ⟨q, m1, h1⟩ := ex e1
      exact ⟨_, cr_all o.calm, q, bs, by rw [rx.ref_eq m1], .of h1, k.here hr rfl⟩
    | _ => cases e
  | any =>
    cases x with
    | ref p =>
      obtain ⟨bs, e1, e2⟩ := Option.map_eq_some_iff.mp (show ((PH.ls h p).bind blsOf).map _ = some (v, h') from e)
      cases e2
      obtain ⟨q, m1, h1⟩ := ex e1
      exact ⟨_, cr_any o.calm, q, bs, by rw [rx.ref_eq m1], .of h1, k.here hr rfl⟩
    | _ => cases e
  | abs =>
    cases x with
    | int i => cases e; cases rx; exact ⟨_, call_abs, i, rfl, k.here hr rfl⟩
    | _ => cases e
  | int =>
    cases x with
    | int i => cases e; cases rx; exact ⟨_, call_int1, .inl ⟨i, rfl, k.here hr rfl⟩⟩
    | bl i => cases e; cases rx; exact ⟨_, call_int1, .inr ⟨i, rfl, k.here hr rfl⟩⟩
    | _ => cases e
  | tuple =>
    cases x with
    | tup xs =>
      cases e
      have rx' := rx
      obtain ⟨p, vs, rfl, s, r⟩ := rx
      exact ⟨_, call_tuple_of, p, vs, rfl, .inr ⟨by rw [o.K]; exact s, k.here hr rx'⟩⟩
    | ref p =>
      obtain ⟨xs, e3, e2⟩ := Option.map_eq_some_iff.mp (show (PH.ls h p).map _ = some (v, h') from e)
      cases e2
      obtain ⟨q, vs, m1, h1, r, _⟩ := hr.ls e3
      exact ⟨_, call_tuple_of, q, vs, by rw [rx.ref_eq m1], .inl ⟨.of h1, fun t ht => k.tup hr r ht⟩⟩
    | _ => cases e
  | list =>
    obtain ⟨xs, e3, e2⟩ := Option.map_eq_some_iff.mp (show (seqOf h x).map _ = some (v, h') from e)
    cases e2
    cases x with
    | tup ys =>
      cases e3
      obtain ⟨p, vs, rfl, s, r⟩ := rx
      exact ⟨_, call_list_of, p, vs, rfl, .inr (by rw [o.K]; exact s), fun t ht => k.lst hr r ht⟩
    | ref p =>
      obtain ⟨q, vs, m1, h1, r, _⟩ := hr.ls (show PH.ls h p = some xs from e3)
      exact ⟨_, call_list_of, q, vs, by rw [rx.ref_eq m1], .inl (.of h1), fun t ht => k.lst hr r ht⟩
    | _ => cases e3
  | dict =>
    cases x with
    | ref p =>
      obtain ⟨ps, e3, e2⟩ := Option.map_eq_some_iff.mp (show ((PH.ls h p).bind pairsOf).map _ = some (v, h') from e)
      cases e2
      obtain ⟨xs, e1, e2⟩ := Option.bind_eq_some_iff.mp e3
      obtain ⟨q, vs, m1, h1, r, _⟩ := hr.ls e1
      obtain ⟨as, ks, rfl, r2, r3⟩ := pairs_rel o e2 r
      exact ⟨_, call_dictP o.calm, q, as, ks, by rw [rx.ref_eq m1], .of h1, r2, fun t ht => k.dct hr (KR.mrg (xs := []) (vs := []) rfl r3) ht⟩
    | _ => cases e
  | repr =>
    obtain ⟨z, e1, e2⟩ := Option.map_eq_some_iff.mp (show (reprPV h x).map _ = some (v, h') from e)
    cases e2
    unfold reprPV at e1
    split at e1
    · rename_i d hd
      split at e1
      · rename_i c
        rw [Bool.and_eq_true, Bool.and_eq_true, decide_eq_true_eq] at c
        obtain ⟨c0, c⟩ := c
        cases e1
        have dp := toD_dp hr DD x a d hd rx
        rw [← o.K] at dp
        have go : ∀ q, a = .ref q → ∃ r, CallR X (.builtin "repr") r ∧ r [a] H Q := fun q z => by
          subst z
          exact ⟨_, call_reprD o.un o.gd, q, d, rfl, dp, toD_nodict DD x d hd, c.1, Nat.le_trans (toD_depth DD x d hd) (by decide), by rw [← SZ_eq]; exact c.2, k.here hr rfl⟩
        cases x with
        | ref p =>
          obtain ⟨q, m1, rfl⟩ := rx
          exact go q rfl
        | tup xs =>
          obtain ⟨q, vs, rfl, _⟩ := rx
          exact go q rfl
        | _ => cases c0
      · cases e1
    · cases e1
  | set => cases e
  | sorted => cases e
end
end Pv

end
section
set_option Elab.async false
set_option maxRecDepth 100000
set_option maxHeartbeats 4000000
set_option autoImplicit false
set_option linter.all false
/-! PvSet: set(xs) of ints and texts, len(set(xs)), sorted(set(xs)). -/
namespace Pv
open PySem PySem.Spec PyProof.Rows L2

def kOf (e : Int × Value) : Key := match e.2 with | .int k _ => .inl k | .str x _ => .inr x | _ => .inl 0
def GoodK (w : World) (e : Int × Value) : Prop := ∃ k, keyIs k e.2 = true ∧ e.1 = keyH w k

/-- the set at a holds just zs -/
structure SetSR (P : Program) (w : World) (h : Heap) (a : Addr) (zs : List Key) : Prop where
  ex : ∃ o es ep t, h.get? a = some o ∧ o.ExactSet ∧ o.data = .set es ep t ∧ (∀ e ∈ es.toList, GoodK w e) ∧ (es.toList.map kOf) = zs ∧ zs.Nodup ∧
    es.size < scanBound ∧ t.fits es.size = true ∧ Ris t.place.toList ∧ (w.params.followText "set-order" = true ∨ t.led = true)

section
variable {P : Program} {w : World} {h h' : Heap} {a : Addr} {zs : List Key}
theorem SetSR.at (R : SetSR P w h a zs) (k : ∀ o, h.get? a = some o → h'.get? a = some o) : SetSR P w h' a zs := by
  obtain ⟨o, es, ep, t, ho, r⟩ := R.ex
  exact ⟨o, es, ep, t, k o ho, r⟩
theorem goodK_sc {e : Int × Value} (g : GoodK w e) : e.2.scannable = true := by
  obtain ⟨k, h1, _⟩ := g
  rcases keyIs_shape h1 with ⟨i, t, _, e2⟩ | ⟨x, t, _, e2⟩ <;> (rw [e2]; rfl)
theorem goodK_els {l : List (Int × Value)} (g : ∀ e ∈ l, GoodK w e) : ElemsOf (mixKind P w) l := fun e he => ⟨g e he, goodK_sc (g e he)⟩
theorem keyIs_inj {a b : Key} {v : Value} (h1 : keyIs a v = true) (h2 : keyIs b v = true) : a = b := by
  rcases keyIs_shape h1 with ⟨i, t, rfl, rfl⟩ | ⟨x, t, rfl, rfl⟩
  · rcases keyIs_shape h2 with ⟨j, u, rfl, e⟩ | ⟨y, u, rfl, e⟩
    · injection e with e1 _; rw [e1]
    · exact nomatch e
  · rcases keyIs_shape h2 with ⟨j, u, rfl, e⟩ | ⟨y, u, rfl, e⟩
    · exact nomatch e
    · injection e with e1 _; rw [e1]
theorem goodK_is {e : Int × Value} (g : GoodK w e) (k : Key) : keyIs k e.2 = true ↔ kOf e = k := by
  obtain ⟨j, h1, _⟩ := g
  have self : kOf e = j := by
    unfold kOf
    rcases keyIs_shape h1 with ⟨i, t, rfl, e2⟩ | ⟨x, t, rfl, e2⟩ <;> rw [e2]
  constructor
  · intro z
    rw [self]
    exact keyIs_inj h1 z
  · intro z
    rw [← z, self]
    exact h1
theorem kOf_val {e : Int × Value} (g : GoodK w e) : RelV (kV (kOf e)) e.2 := by
  obtain ⟨j, h1, _⟩ := g
  unfold kOf
  rcases keyIs_shape h1 with ⟨i, t, rfl, e2⟩ | ⟨x, t, rfl, e2⟩
  · rw [e2]; exact ⟨t, rfl⟩
  · rw [e2]; exact ⟨t, rfl⟩
end

section
variable {P : Program} {w : World} {A : Around} {E : Value → Shared → Prop} {s : Shared} {a : Addr} {zs : List Key}

theorem set_put {g : Bool → Sem Unit} (hg : ∀ (b : Bool) (s₁ : Shared) (Q' : Unit → Shared → Prop), Q' () s₁ → wpAny (model P w) A (g b) Q' E s₁)
    {o : Obj} {es : Array (Int × Value)} {ep : Nat} {t : SetTable} (ho : s.heap.get? a = some o) (hex : o.ExactSet) (hd : o.data = .set es ep t)
    {es1 : Array (Int × Value)} {t2 : SetTable} (g1 : ∀ e ∈ es1.toList, GoodK w e) (nd1 : (es1.toList.map kOf).Nodup)
    (hb1 : es1.size < scanBound) (hf2 : t2.fits es1.size = true) (hr : Ris t2.place.toList) (hl : w.params.followText "set-order" = true ∨ t2.led = true) {dm : Bool} {R : Option Bool → Shared → Prop}
    (hR : ∀ h' zs', Heap.SameBut a s.heap h' → zs'.Perm (es1.toList.map kOf) → SetSR P w h' a zs' → R (some true) { s with heap := h' }) :
    wpAny (model P w) A (do
        storeSet a es1 t2
        if (!dm && t2.tooFull) = true then do
            g (relayAll t2 es1 (SetTable.grown es1.size)).2.2
            storeSet a (relayAll t2 es1 (SetTable.grown es1.size)).1 (relayAll t2 es1 (SetTable.grown es1.size)).2.1
            pure (some true)
          else pure (some true)) R E s := by
  refine wpAny_bind (wpAny_storeSet_of ho hd ?_ (fits_of_scanBound hb1))
  have ho1 := store_at (es' := es1) (t' := t2) ho hd
  have sb1 := Heap.SameBut.update s.heap a (Obj.putSet es1 t2)
  split
  · have pm := relayAll_perm t2 es1 (SetTable.grown es1.size)
    have hf3 := relayAll_fits t2 es1 (SetTable.grown es1.size)
    have hr3 := relayAll_ris t2 es1 (SetTable.grown es1.size)
    have hl3 := relayAll_led t2 es1 (SetTable.grown es1.size)
    generalize relayAll t2 es1 (SetTable.grown es1.size) = Z at pm hf3 hr3 hl3 ⊢
    obtain ⟨es2, t3, gave⟩ := Z
    dsimp only at pm hf3 hr3 hl3 ⊢
    have hsz : es2.size = es1.size := by rw [← Array.length_toList, pm.length_eq, Array.length_toList]
    have hb2 : es2.size < scanBound := by rw [hsz]; exact hb1
    refine wpAny_bind (hg _ _ _ ?_)
    refine wpAny_bind (wpAny_storeSet_of ho1 rfl ?_ (fits_of_scanBound hb2))
    have ho2 := store_at (es' := es2) (t' := t3) ho1 rfl
    refine wpAny_pure (hR _ _ (sb1.trans (Heap.SameBut.update _ a _)) (pm.map kOf) ⟨_, es2, _, t3, ho2, hex, rfl, fun e he => g1 e (pm.mem_iff.mp he), rfl, ?_, hb2, hf3, hr3, ?_⟩)
    · exact (pm.map kOf).nodup_iff.mpr nd1
    · exact hl.imp id fun z => by rw [hl3]; exact z
  · exact wpAny_pure (hR _ _ sb1 (List.Perm.refl _) ⟨_, es1, _, t2, ho1, hex, rfl, g1, rfl, nd1, hb1, hf2, hr, hl⟩)

theorem set_add {k : Key} {x : Value} {Q : Bool → Shared → Prop} (R : SetSR P w s.heap a zs) (room : zs.length + 1 < scanBound) (hk : keyIs k x = true)
    (hQ : ∀ b h' zs', Heap.SameBut a s.heap h' → SetSR P w h' a zs' → (k ∈ zs → zs' = zs) → (k ∉ zs → zs'.Perm (k :: zs)) → Q b { s with heap := h' }) :
    wpAny (model P w) A (setAddHashed a x ((mixKind P w).hash k)) Q E s := by
  obtain ⟨o, es, ep, t, ho, hex, hd, g, hz, nd, hb, hf, hr, hl⟩ := R.ex
  have hkey : (mixKind P w).is k x = true := hk
  have hsc : x.scannable = true := by rcases keyIs_shape hk with ⟨i, t, _, e2⟩ | ⟨x, t, _, e2⟩ <;> (rw [e2]; rfl)
  have hel : ElemsOf (mixKind P w) es.toList := goodK_els g
  have hn : es.size = zs.length := by rw [← hz, List.length_map, Array.length_toList]
  unfold setAddHashed setAddHashedIn
  refine wpAny_holding (wpAny_bind (wpAny_setState_of ho hd hf ?_))
  dsimp only
  rw [byScan_of hsc hb hel]
  simp only [↓reduceIte]
  unfold setAddByScan
  refine wpAny_bind ?_
  refine wpAny_bind (wpAny_rule ?_)
  refine wpAny_bind (wpAny_setScan_of hkey ho hd hf hel ?_)
  cases hfi : List.findIdx? (fun e => (mixKind P w).is k e.2) es.toList with
  | some j =>
    dsimp only
    obtain ⟨hj, pj, _⟩ := List.findIdx?_eq_some_iff_getElem.mp hfi
    have hm : k ∈ zs := by
      rw [← hz]
      exact List.mem_map.mpr ⟨_, List.getElem_mem hj, (goodK_is (g _ (List.getElem_mem hj)) k).1 pj⟩
    exact wpAny_pure (wpAny_pure (hQ false s.heap zs (Heap.SameBut.refl a s.heap) R (fun _ => rfl) fun z => absurd hm z))
  | none =>
    dsimp only
    have hnk : k ∉ zs := fun z => by
      rw [← hz] at z
      obtain ⟨e, he, q⟩ := List.mem_map.mp z
      have c := List.findIdx?_eq_none_iff.mp hfi e he
      rw [(show (mixKind P w).is k e.2 = true from (goodK_is (g e he) k).2 q)] at c
      cases c
    have hgw : ∀ (b : Bool) {s₁ : Shared} {Q' : Unit → Shared → Prop}, Q' () s₁ → wpAny (model P w) A (match b with | true => rule "set.scan.the-table-gave-way" | false => pure ()) Q' E s₁ :=
      fun b s₁ Q' q => by cases b <;> first | exact wpAny_pure q | exact wpAny_rule q
    have pm := layNew_perm t es ((mixKind P w).hash k) x
    have hf1 := layNew_fits t es ((mixKind P w).hash k) x
    have hr1 := layNew_ris t es ((mixKind P w).hash k) x hr
    have hl1 := layNew_led t es ((mixKind P w).hash k) x
    generalize layNew t es ((mixKind P w).hash k) x = Z at pm hf1 hr1 hl1 ⊢
    obtain ⟨es1, t1, dm, gave⟩ := Z
    dsimp only at pm hf1 hr1 hl1 ⊢
    rw [Array.toList_push] at pm
    have pc : es1.toList.Perm (((mixKind P w).hash k, x) :: es.toList) := pm.trans (List.perm_append_singleton _ _)
    have hkx : kOf ((mixKind P w).hash k, x) = k := (goodK_is (w := w) (e := ((mixKind P w).hash k, x)) ⟨k, hk, rfl⟩ k).1 hk
    have pk : (es1.toList.map kOf).Perm (k :: zs) := by
      have q := pc.map kOf
      rw [List.map_cons, hkx, hz] at q
      exact q
    have g1 : ∀ e ∈ es1.toList, GoodK w e := fun e he => by
      rcases List.mem_cons.mp (pc.mem_iff.mp he) with z | z
      · rw [z]; exact ⟨k, hk, rfl⟩
      · exact g e z
    have nd1 : (es1.toList.map kOf).Nodup := pk.nodup_iff.mpr (List.nodup_cons.mpr ⟨hnk, nd⟩)
    have hsz : es1.size = zs.length + 1 := by rw [← Array.length_toList, pc.length_eq, List.length_cons, Array.length_toList, hn]
    have hb1 : es1.size < scanBound := by rw [hsz]; exact room
    have hled : w.params.followText "set-order" = true ∨ t1.led = true := hl.imp id fun z => by rw [hl1]; exact z
    have fin : ∀ h' zs', Heap.SameBut a s.heap h' → zs'.Perm (es1.toList.map kOf) → SetSR P w h' a zs' → Q true { s with heap := h' } := fun h' zs' sb p r =>
      hQ true h' zs' sb r (fun z => absurd z hnk) fun _ => p.trans pk
    refine wpAny_bind (hgw _ ?_)
    split
    · refine wpAny_bind ?_
      rw [hashByValue_scannable 8 hsc]
      refine wpAny_pure ?_
      refine set_put ?_ ho hex hd g1 nd1 hb1 ?_ ?_ ?_ ?_
      · intro b s₁ Q' q; cases b <;> first | exact wpAny_pure q | exact wpAny_rule q
      · first | (split <;> first | exact hf1 | exact SetTable.fits_plain_off hf1) | exact hf1
      · first | (split <;> exact hr1) | exact hr1
      · first | (split <;> exact hled) | exact hled
      · intro h' zs' sb p r; dsimp only; exact wpAny_pure (fin h' zs' sb p r)
    · refine wpAny_bind (wpAny_pure ?_)
      simp only [↓reduceIte]
      refine set_put ?_ ho hex hd g1 nd1 hb1 hf1 hr1 hled ?_
      · intro b s₁ Q' q; cases b <;> first | exact wpAny_pure q | exact wpAny_rule q
      · intro h' zs' sb p r; dsimp only; exact wpAny_pure (fin h' zs' sb p r)

/-- what the set has from some keys -/
structure GotK (ks zs : List Key) : Prop where
  mem : ∀ k, k ∈ zs ↔ k ∈ ks
  nd : zs.Nodup
  len : zs.length ≤ ks.length

theorem set_new {h : Heap} (ho : h.get? a = some { cls := .type "set", dict := none, data := .set #[] 0 (.fresh 0 0 (!w.params.followText "set-order")) }) : SetSR P w h a [] :=
  ⟨_, #[], 0, _, ho, ⟨rfl, rfl, rfl⟩, rfl, (fun e he => by simp at he), rfl, List.nodup_nil, (by decide), (by rfl), List.Pairwise.nil, by
    show _ ∨ (!w.params.followText "set-order") = true
    cases w.params.followText "set-order"
    · exact .inr rfl
    · exact .inl rfl⟩

theorem set_loop {I : Addr} {fp wr : List Addr} {G : Array GenState → Array GenState → Prop} {n : Nat} {Pv : Nat → Value → Prop} {St : Nat → Shared → Prop} {R : Result → Shared → Prop}
    (W : WalksS P w A.in1 I fp wr G n Pv St) (S : Addr) (hSf : S ∉ fp) (ks : List Key) (hn : n = ks.length) (hb : ks.length + 1 < scanBound) (hval : ∀ i v, Pv i v → ∃ k, ks[i]? = some k ∧ keyIs k v = true) :
    ∀ (c i : Nat) (s : Shared), n - i = c → i ≤ n → St i s → (∃ zs, SetSR P w s.heap S zs ∧ GotK (ks.take i) zs) →
      (∀ s' zs, Moved (S :: wr) G s s' → SetSR P w s'.heap S zs → GotK ks zs → R (.ok (.ret .none)) s') →
      codeAny (model P w) A (.builtin "set.update.loop" ⟨[.ref S, .ref I], []⟩) R s := by
  have hSw : S ∉ wr := fun h => hSf (W.sub _ h)
  have hsub : ∀ b ∈ wr, b ∈ S :: wr := fun b hb => List.mem_cons_of_mem _ hb
  intro c
  induction c with
  | zero =>
    intro i s hk' hi hst ⟨zs, hS, gt⟩ hR
    obtain rfl : i = n := by omega
    refine codeAny_builtin PyProof.Rows.F.entry_set_update_loop ?_
    rw [Around.under_plainId PyProof.Rows.F.plain_set_update_loop _]
    show wpAny _ A.in1 (pyNext (.ref I) >>= _) _ _ s
    refine wpAny_bind (W.done s _ _ hst fun s' hm => ?_)
    show wpAny _ A.in1 (ret Value.none) _ _ s'
    rw [List.take_of_length_le (by omega)] at gt
    exact wpAny_pure (hR s' zs (hm.mono hsub) (hS.at fun o e => hm.heap S o hSw e) gt)
  | succ c ih =>
    intro i s hk' hi hst ⟨zs, hS, gt⟩ hR
    have hlt : i < n := by omega
    refine codeAny_builtin PyProof.Rows.F.entry_set_update_loop ?_
    rw [Around.under_plainId PyProof.Rows.F.plain_set_update_loop _]
    show wpAny _ A.in1 (pyNext (.ref I) >>= _) _ _ s
    refine wpAny_bind (W.item i s _ _ hlt hst fun v s' hP hst' hm => ?_)
    obtain ⟨z, hz, hkz⟩ := hval i v hP
    have hS' : SetSR P w s'.heap S zs := hS.at fun o e => hm.heap S o hSw e
    show wpAny _ A.in1 (holding [v] (setAdd S v) >>= _) _ _ s'
    refine wpAny_bind (wpAny_holding ?_)
    unfold setAdd
    refine wpAny_holding ?_
    refine wpAny_bind ((mixKind P w).pyHash (k := z) hkz ?_)
    have gl := gt.len
    rw [List.length_take] at gl
    refine set_add (s := { s' with toks := s'.toks + 1 }) hS' (by omega) hkz fun b h' zs' hsb hS2 c1 c2 => ?_
    have tk : ks.take (i + 1) = ks.take i ++ [z] := by rw [List.take_succ, hz] <;> rfl
    have g' : GotK (ks.take (i + 1)) zs' := by
      rcases Classical.em (z ∈ zs) with q | q
      · rw [c1 q, tk]
        refine ⟨fun k => ?_, gt.nd, ?_⟩
        · rw [List.mem_append, List.mem_singleton, gt.mem]
          exact ⟨.inl, fun y => y.elim id fun y => by rw [y]; exact (gt.mem z).mp q⟩
        · rw [List.length_append]; exact Nat.le_trans gt.len (Nat.le_add_right _ _)
      · have p := c2 q
        rw [tk]
        refine ⟨fun k => ?_, p.nodup_iff.mpr (List.nodup_cons.mpr ⟨q, gt.nd⟩), ?_⟩
        · rw [p.mem_iff, List.mem_cons, List.mem_append, List.mem_singleton, gt.mem]
          exact Or.comm
        · rw [p.length_eq, List.length_append, List.length_cons]
          have := gt.len
          simp only [List.length_cons, List.length_nil]
          omega
    refine wpAny_pure ⟨plainId_quiet PyProof.Rows.F.plain_set_update_loop _, ih (i + 1) _ (by omega) hlt (W.frame _ s' _ _ hst' (Nat.le_succ _) fun b hb o e => ?_) ⟨zs', hS2, g'⟩ fun s'' z2 hm'' hS'' g'' => ?_⟩
    · rw [hsb.2 b (fun h : b = S => hSf (by rw [← h]; exact hb))]; exact e
    · refine hR s'' z2 (Moved.trans W.gtrans ((hm.mono hsub).then_heap (Nat.le_succ _) fun b o hb e => ?_) hm'') hS'' g''
      rw [hsb.2 b (fun h : b = S => hb (by rw [h]; exact List.mem_cons_self))]; exact e

end
end Pv

end
section
set_option Elab.async false
set_option maxRecDepth 100000
set_option maxHeartbeats 4000000
set_option autoImplicit false
set_option linter.all false
namespace Pv
open PySem PySem.Spec PyProof.Rows L2
section
variable {P : Program} {w : World} {A : Around} {E : Value → Shared → Prop} {s : Shared} {a : Addr} {zs : List Key}
abbrev newSet (w : World) : Obj := { cls := .type "set", dict := none, data := .set #[] 0 (.fresh 0 0 (!w.params.followText "set-order")) }

theorem init_list {S l : Addr} {nl : Nat} {items : Array Value} {odict : Option Addr} {oslots : Array (Option Value)} {Q : PySem.Fin → Shared → Prop} {E : Value → Shared → Prop} {Φ : Shared → Prop}
    (hS : s.heap.get? S = some (newSet w)) (hol : s.heap.get? l = some { cls := .type "list", dict := odict, data := .seq items nl, slots := oslots })
    (h : ∀ R : Result → Shared → Prop, (∀ s', Φ s' → R (.ok (.ret .none)) s') → codeAny (model P w) A (.builtin "set.update.loop" ⟨[.ref S, .ref s.heap.objs.size], []⟩) R { s with heap := s.heap.push { cls := .type "list_iterator", data := .fields #[.ref l, .int 0 0] } })
    (hq : ∀ s', Φ s' → Q (.done (.ret .none)) s') : wpAny (model P w) A (Builtin.«set.__init__» ⟨[.ref S, .ref l], []⟩) Q E s := by
  have hsls := PySem.F.sub_list_set
  have hslf := PySem.F.sub_list_frozenset
  have hne : (Value.type "list" == Value.type "dict") = false := by decide
  have hT : s.TypeIs (.ref l) "list" := ⟨_, hol, rfl⟩
  have hl1 : s.heap.IsList l items := ⟨_, hol, rfl, nl, rfl⟩
  unfold Builtin.«set.__init__» noKeywords Builtin.Frozenset.updateFrom
  generalize hPI : pyIter = PI
  wp_walk
  subst hPI
  refine wpAny_pyIter_list hl1 ?_
  refine wpAny_bind (wpAny_runValue (h _ fun s' hs => ?_))
  refine wpAny_pure ?_
  show wpAny _ _ (ret Value.none) _ _ _
  exact wpAny_pure (hq s' hs)
theorem init_tup {S l : Addr} {nl : Nat} {items : Array Value} {odict : Option Addr} {oslots : Array (Option Value)} {Q : PySem.Fin → Shared → Prop} {E : Value → Shared → Prop} {Φ : Shared → Prop}
    (hS : s.heap.get? S = some (newSet w)) (hol : s.heap.get? l = some { cls := .type "tuple", dict := odict, data := .seq items nl, slots := oslots })
    (h : ∀ R : Result → Shared → Prop, (∀ s', Φ s' → R (.ok (.ret .none)) s') → codeAny (model P w) A (.builtin "set.update.loop" ⟨[.ref S, .ref s.heap.objs.size], []⟩) R { s with heap := s.heap.push { cls := .type "tuple_iterator", data := .fields #[.ref l, .int 0 0] } })
    (hq : ∀ s', Φ s' → Q (.done (.ret .none)) s') : wpAny (model P w) A (Builtin.«set.__init__» ⟨[.ref S, .ref l], []⟩) Q E s := by
  have hsls := PySem.F.sub_tuple_set
  have hslf := PySem.F.sub_tuple_frozenset
  have hne : (Value.type "tuple" == Value.type "dict") = false := by decide
  have hT : s.TypeIs (.ref l) "tuple" := ⟨_, hol, rfl⟩
  have hl1 : s.heap.IsTuple l items := ⟨_, hol, rfl, nl, rfl⟩
  unfold Builtin.«set.__init__» noKeywords Builtin.Frozenset.updateFrom
  generalize hPI : pyIter = PI
  wp_walk
  subst hPI
  refine wpAny_pyIter_tuple hl1 ?_
  refine wpAny_bind (wpAny_runValue (h _ fun s' hs => ?_))
  refine wpAny_pure ?_
  show wpAny _ _ (ret Value.none) _ _ _
  exact wpAny_pure (hq s' hs)

theorem set_walked {l : Addr} {n : Nat} {items : Array Value} {ks : List Key} {T : String} {St : Nat → Shared → Prop} {I : Addr} {G : Array GenState → Array GenState → Prop} {R : Result → Shared → Prop} (hsz : items.size = ks.length)
    (hit : ∀ (i : Nat) (v : Value), items[i]? = some v → ∃ k, ks[i]? = some k ∧ keyIs k v = true) (hb : ks.length + 1 < scanBound) (hlS : l < s.heap.objs.size) (hI : I = (s.heap.push (newSet w)).objs.size)
    (W : WalksS P w A.in1 I [I, l] [I] G items.size (fun i v => items[i]? = some v) St)
    (hst : St 0 { s with heap := (s.heap.push (newSet w)).push { cls := .type T, data := .fields #[.ref l, .int 0 0] } })
    (hR : ∀ s' zs, Moved (s.heap.objs.size :: [I]) G { s with heap := (s.heap.push (newSet w)).push { cls := .type T, data := .fields #[.ref l, .int 0 0] } } s' → SetSR P w s'.heap s.heap.objs.size zs → GotK ks zs → R (.ok (.ret .none)) s') :
    codeAny (model P w) A (.builtin "set.update.loop" ⟨[.ref s.heap.objs.size, .ref I], []⟩) R { s with heap := (s.heap.push (newSet w)).push { cls := .type T, data := .fields #[.ref l, .int 0 0] } } := by
  have hS : (s.heap.push (newSet w)).get? s.heap.objs.size = some (newSet w) := Heap.get?_push_size _ rfl
  have hSf : s.heap.objs.size ∉ [I, l] := by
    rw [hI, Heap.size_push]; simp only [List.mem_cons, List.mem_singleton, List.not_mem_nil, or_false, not_or]
    exact ⟨Nat.ne_of_lt (Nat.lt_succ_self _), Nat.ne_of_gt hlS⟩
  refine set_loop W s.heap.objs.size hSf ks hsz hb (fun i v hv => hit i v hv) (items.size - 0) 0 _ (by omega) (Nat.zero_le _) hst ⟨[], set_new (Heap.get?_push_of_some _ hS), ?_⟩ hR
  exact ⟨fun k => by simp, List.nodup_nil, by simp⟩
theorem set_walked_end {l : Addr} {ks : List Key} {I : Addr} (hI : I = (s.heap.push (newSet w)).objs.size) {T : String} {G : Array GenState → Array GenState → Prop} (hG : ∀ x y, G x y → y = x) {s' : Shared} {zs : List Key} (hlS : l < s.heap.objs.size)
    (hm : Moved (s.heap.objs.size :: [I]) G { s with heap := (s.heap.push (newSet w)).push { cls := .type T, data := .fields #[.ref l, .int 0 0] } } s') (hdr : s'.drawn = s.drawn) (hS' : SetSR P w s'.heap s.heap.objs.size zs) (g' : GotK ks zs) :
    ∃ h' tk zs, s' = { s with heap := h', toks := tk } ∧ SetSR P w h' s.heap.objs.size zs ∧ GotK ks zs ∧ (∀ b o, s.heap.get? b = some o → h'.get? b = some o) := by
  obtain ⟨h', g2, d', tk', os'⟩ := s'
  have eg : g2 = s.gens := hG _ _ hm.gens
  have ed : d' = s.drawn := hdr
  have eo : os' = s.os := hm.os
  subst eg; subst ed; subst eo
  refine ⟨h', tk', zs, rfl, hS', g', fun b o e => ?_⟩
  have hb0 : b < s.heap.objs.size := Heap.lt_size e
  have hb1 : b ≠ s.heap.objs.size := Nat.ne_of_lt hb0
  have hb2 : b ≠ I := by rw [hI, Heap.size_push]; exact Nat.ne_of_lt (Nat.lt_succ_of_lt hb0)
  exact hm.heap b o (by simp only [List.mem_cons, List.mem_singleton, List.not_mem_nil, or_false, not_or]; exact ⟨hb1, hb2⟩) (Heap.get?_push_of_some _ (Heap.get?_push_of_some _ e))

set_option maxRecDepth 100000 in
/-- set(xs), xs a list (b = true) or a tuple -/
theorem set_of {l : Addr} {items : Array Value} (ks : List Key) {Q : Value → Shared → Prop} (hh : A.handled = none) (hl : s.heap.IsList l items ∨ s.heap.IsTuple l items) (hsz : items.size = ks.length)
    (hit : ∀ (i : Nat) (v : Value), items[i]? = some v → ∃ k, ks[i]? = some k ∧ keyIs k v = true) (hb : ks.length + 1 < scanBound)
    (h : ∀ (h' : Heap) (tk : Nat) (zs : List Key), SetSR P w h' s.heap.objs.size zs → GotK ks zs → (∀ b o, s.heap.get? b = some o → h'.get? b = some o) → Q (.ref s.heap.objs.size) { s with heap := h', toks := tk }) :
    wpAny (model P w) A (call (.type "set") [.ref l]) Q E s := by
  obtain ⟨c, tl, hmro⟩ := PySem.F.called_set.mro
  have hmade := PySem.F.called_set.made
  have hsub := PySem.F.called_set.sub
  refine wpAny_call (codeAny_of_tree ?_)
  show wpAny _ _ (callAny (.type "set") _) _ _ _
  refine wpAny_pure ⟨Code.quiet_builtin _ (by decide +kernel), codeAny_builtin PySem.F.entry_type_call ?_⟩
  rw [Around.under_plain (weight_type_call_type "set" [.ref l] []) rfl]
  have h1 := PySem.F.called_set.notType
  have h2 := PySem.F.called_set.canCreate
  have hct := PySem.F.typeCall_set_1 (.ref l)
  repeat (any_goals (first | assumption | wp_step))
  refine codeAny_mono (code_set_led1 (.ref l) (E := E) (Q₁ := fun obj s₁ => obj = .ref s.heap.objs.size ∧ s₁ = { s with heap := s.heap.push (newSet w) }) ⟨rfl, rfl⟩) fun r s₁ hr => ?_
  cases r with
  | error e => exact hr
  | ok fl =>
    cases fl with
    | ret obj =>
      obtain ⟨rfl, rfl⟩ := hr
      have hS : (s.heap.push (newSet w)).get? s.heap.objs.size = some (newSet w) := Heap.get?_push_size _ rfl
      have hT : Shared.TypeIs { s with heap := s.heap.push (newSet w) } (.ref s.heap.objs.size) "set" := ⟨_, hS, rfl⟩
      have hli := PySem.F.called_set.init.lookup
      have hbi := PySem.F.called_set.init.bind (.ref s.heap.objs.size)
      repeat (any_goals (first | assumption | wp_step))
      refine codeAny_mono (codeAny_call_builtin (R := wants (fun r s₂ => r = .none ∧ ∃ h' tk zs, s₂ = { s with heap := h', toks := tk } ∧ SetSR P w h' s.heap.objs.size zs ∧ GotK ks zs ∧
          (∀ b o, s.heap.get? b = some o → h'.get? b = some o)) E) PySem.F.called_set.init.plain PySem.F.entry_set_init (check_set_init_1 hT ?_)) fun r₂ s₂ hr₂ => ?_
      · have hh3 : A.in1.in1.in1.handled = none := by simp [hh]
        have fin : ∀ (T : String) (s' : Shared), (∃ zs, Moved (s.heap.objs.size :: [(s.heap.push (newSet w)).objs.size]) (fun x y => y = x) { s with heap := (s.heap.push (newSet w)).push { cls := .type T, data := .fields #[.ref l, .int 0 0] } } s' ∧ SetSR P w s'.heap s.heap.objs.size zs ∧ GotK ks zs) → l < s.heap.objs.size →
            ∃ h' tk zs, s' = { s with heap := h', toks := tk } ∧ SetSR P w h' s.heap.objs.size zs ∧ GotK ks zs ∧ (∀ b o, s.heap.get? b = some o → h'.get? b = some o) := fun T s' ⟨zs, hm, hS', g'⟩ hlS =>
          set_walked_end rfl (fun _ _ z => z) hlS hm hm.drawn hS' g'
        rcases hl with hl | hl
        · obtain ⟨ol, hol, hcl, nl, hdl⟩ := hl
          obtain ⟨ocls, odict, odata, oslots⟩ := ol
          simp only at hcl hdl
          subst hcl; subst hdl
          have hlS : l < s.heap.objs.size := Heap.lt_size hol
          have hol' : (s.heap.push (newSet w)).get? l = some { cls := .type "list", dict := odict, data := .seq items nl, slots := oslots } := Heap.get?_push_of_some _ hol
          have hl1 : (s.heap.push (newSet w)).IsList l items := ⟨_, hol', rfl, nl, rfl⟩
          have hneI : l ≠ (s.heap.push (newSet w)).objs.size := by rw [Heap.size_push]; exact Nat.ne_of_lt (Nat.lt_succ_of_lt hlS)
          refine init_list (s := { s with heap := s.heap.push (newSet w) }) hS hol' (fun R hR => set_walked (n := 0) (T := "list_iterator") hsz hit hb hlS rfl ((Walks.list hh3 _ l hneI items).toS) ⟨⟨_, Heap.get?_push_size _ rfl, rfl, rfl⟩, (hl1.push _)⟩ fun s' zs hm hS' g' => hR s' ⟨zs, hm, hS', g'⟩) fun s' hs => ⟨rfl, fin "list_iterator" s' hs hlS⟩
        · obtain ⟨ol, hol, hcl, nl, hdl⟩ := hl
          obtain ⟨ocls, odict, odata, oslots⟩ := ol
          simp only at hcl hdl
          subst hcl; subst hdl
          have hlS : l < s.heap.objs.size := Heap.lt_size hol
          have hol' : (s.heap.push (newSet w)).get? l = some { cls := .type "tuple", dict := odict, data := .seq items nl, slots := oslots } := Heap.get?_push_of_some _ hol
          have hl1 : (s.heap.push (newSet w)).IsTuple l items := ⟨_, hol', rfl, nl, rfl⟩
          have hneI : l ≠ (s.heap.push (newSet w)).objs.size := by rw [Heap.size_push]; exact Nat.ne_of_lt (Nat.lt_succ_of_lt hlS)
          refine init_tup (s := { s with heap := s.heap.push (newSet w) }) hS hol' (fun R hR => set_walked (n := 0) (T := "tuple_iterator") hsz hit hb hlS rfl ((Walks.tuple hh3 _ l hneI items).toS) ⟨⟨_, Heap.get?_push_size _ rfl, rfl, rfl⟩, (hl1.push _)⟩ fun s' zs hm hS' g' => hR s' ⟨zs, hm, hS', g'⟩) fun s' hs => ⟨rfl, fin "tuple_iterator" s' hs hlS⟩
      · cases r₂ with
        | error e => exact hr₂
        | ok fl₂ =>
          cases fl₂ with
          | ret r =>
            obtain ⟨rfl, h', tk, zs, rfl, hS', g', hk'⟩ := hr₂
            repeat (any_goals (first | assumption | wp_step))
            exact h _ _ _ hS' g' hk'
          | _ => exact hr₂.elim
    | _ => exact hr.elim
end
end Pv

end
section
set_option Elab.async false
set_option maxRecDepth 100000
set_option maxHeartbeats 4000000
set_option autoImplicit false
set_option linter.all false
/-! PvSetC: the rules set(xs), len(set), sorted(set) by values; ascending lists of texts. -/
namespace Pv
open PySem PySem.Spec PyProof.Rows L2

def SLt (a b : Str) : Prop := a.cps.toList < b.cps.toList
theorem str_ext {a b : Str} (h : a.cps.toList = b.cps.toList) : a = b := by
  obtain ⟨⟨a⟩⟩ := a
  obtain ⟨⟨b⟩⟩ := b
  have : a = b := h
  rw [this]
theorem slt_irrefl (a : Str) : ¬ SLt a a := List.lt_irrefl _
theorem slt_trans {a b c : Str} (h : SLt a b) (k : SLt b c) : SLt a c := List.lt_trans h k
theorem slt_total {a b : Str} (h : ¬ SLt a b) (n : a ≠ b) : SLt b a := by
  by_cases k : SLt b a
  · exact k
  · exact absurd (str_ext (List.le_antisymm (List.not_lt.mp k) (List.not_lt.mp h))) n

theorem mem_insS (x y : Str) : ∀ l : List Str, y ∈ insS x l ↔ y = x ∨ y ∈ l
  | [] => by simp [insS]
  | z :: l => by
    unfold insS
    split
    · rename_i e; subst e; simp
    · split
      · simp
      · rw [List.mem_cons, mem_insS x y l, List.mem_cons]
        constructor
        · rintro (h | h | h)
          · exact .inr (.inl h)
          · exact .inl h
          · exact .inr (.inr h)
        · rintro (h | h | h)
          · exact .inr (.inl h)
          · exact .inl h
          · exact .inr (.inr h)
theorem pair_insS (x : Str) : ∀ l : List Str, l.Pairwise SLt → (insS x l).Pairwise SLt
  | [], _ => by simp [insS]
  | z :: l, h => by
    obtain ⟨h1, h2⟩ := List.pairwise_cons.mp h
    unfold insS
    split
    · exact h
    · rename_i ne
      split
      · rename_i lt
        refine List.pairwise_cons.mpr ⟨fun y hy => ?_, h⟩
        rcases List.mem_cons.mp hy with e | e
        · rw [e]; exact lt
        · exact slt_trans lt (h1 y e)
      · rename_i nlt
        refine List.pairwise_cons.mpr ⟨fun y hy => ?_, pair_insS x l h2⟩
        rcases (mem_insS x y l).mp hy with e | e
        · rw [e]; exact slt_total nlt ne
        · exact h1 y e
theorem mem_setS (y : Str) : ∀ l : List Str, y ∈ setS l ↔ y ∈ l
  | [] => by simp [setS]
  | x :: l => by
    show y ∈ insS x (setS l) ↔ _
    rw [mem_insS, mem_setS y l, List.mem_cons]
theorem pair_setS : ∀ l : List Str, (setS l).Pairwise SLt
  | [] => by simp [setS]
  | x :: l => pair_insS x _ (pair_setS l)
theorem asc_uniq : ∀ {l m : List Str}, l.Pairwise SLt → m.Pairwise SLt → (∀ y, y ∈ l ↔ y ∈ m) → l = m
  | [], [], _, _, _ => rfl
  | [], b :: m, _, _, h => absurd ((h b).mpr List.mem_cons_self) (by simp)
  | a :: l, [], _, _, h => absurd ((h a).mp List.mem_cons_self) (by simp)
  | a :: l, b :: m, p, q, h => by
    obtain ⟨p1, p2⟩ := List.pairwise_cons.mp p
    obtain ⟨q1, q2⟩ := List.pairwise_cons.mp q
    have e : a = b := by
      rcases List.mem_cons.mp ((h a).mp List.mem_cons_self) with e | e
      · exact e
      · rcases List.mem_cons.mp ((h b).mpr List.mem_cons_self) with f | f
        · exact f.symm
        · exact absurd (slt_trans (q1 a e) (p1 b f)) (slt_irrefl _)
    subst e
    have : l = m := asc_uniq p2 q2 fun y => by
      constructor
      · intro hy
        rcases List.mem_cons.mp ((h y).mp (List.mem_cons_of_mem _ hy)) with e | e
        · rw [e] at hy; exact absurd (p1 a hy) (slt_irrefl _)
        · exact e
      · intro hy
        rcases List.mem_cons.mp ((h y).mpr (List.mem_cons_of_mem _ hy)) with e | e
        · rw [e] at hy; exact absurd (q1 a hy) (slt_irrefl _)
        · exact e
    rw [this]
theorem mem_ddS (y : Str) : ∀ l : List Str, y ∈ ddS l ↔ y ∈ l
  | [] => by simp [ddS]
  | x :: l => by
    unfold ddS
    dsimp only
    split
    · rename_i h
      rw [mem_ddS y l, List.mem_cons]
      exact ⟨.inr, fun k => k.elim (fun e => by rw [e]; exact (mem_ddS x l).mp h) id⟩
    · rw [List.mem_cons, mem_ddS y l, List.mem_cons]
theorem nodup_ddS : ∀ l : List Str, (ddS l).Nodup
  | [] => by simp [ddS]
  | x :: l => by
    unfold ddS
    dsimp only
    split
    · exact nodup_ddS l
    · rename_i h
      exact List.nodup_cons.mpr ⟨h, nodup_ddS l⟩

/-- the set of texts at a -/
def SetTx (P : Program) (w : World) (a : Addr) (zs : List Str) : HO := .ext fun h => ∃ ks : List Key, SetSR P w h a ks ∧ ks = zs.map Sum.inr
theorem setTx_new {P : Program} {w : World} {H : Hp} {h : Heap} {a : Addr} {zs : List Str} (R : SetSR P w h a (zs.map Sum.inr)) : ObjOk P w H h a (SetTx P w a zs) := by
  have ⟨o, es, ep, t, ho, r⟩ := R.ex
  exact ⟨⟨_, R, rfl⟩, ⟨o, ho⟩, fun h1 h2 ⟨ks, p, e⟩ k => ⟨ks, p.at k, e⟩⟩
theorem setTx_get {X : Cx} {pins : List (Addr × Obj)} {σ : L2.St} {H : Hp} {s : Shared} {a : Addr} {zs : List Str} (I : Inv X pins σ H s) (ha : H a = some (SetTx X.prog X.w a zs)) : SetSR X.prog X.w s.heap a (zs.map Sum.inr) := by
  obtain ⟨ks, R, e⟩ := (I.hok a _ ha).1
  rw [← e]; exact R

theorem inr_list : ∀ {ks : List Key} {xs : List Str}, (∀ k, k ∈ ks → k ∈ xs.map (Sum.inr : Str → Key)) → ∃ zs : List Str, ks = zs.map Sum.inr
  | [], _, _ => ⟨[], rfl⟩
  | k :: ks, xs, h => by
    obtain ⟨x, _, rfl⟩ := List.mem_map.mp (h k List.mem_cons_self)
    obtain ⟨zs, rfl⟩ := inr_list (ks := ks) (xs := xs) fun j hj => h j (List.mem_cons_of_mem _ hj)
    exact ⟨x :: zs, rfl⟩
theorem strs_key : ∀ {xs : List Str} {us : List Value}, Vals (xs.map V.str) us → ∀ (i : Nat) (v : Value), us[i]? = some v → ∃ k, (xs.map (Sum.inr : Str → Key))[i]? = some k ∧ keyIs k v = true
  | [], _, .nil, i, v, h => by simp at h
  | x :: xs, _, .cons r t, 0, v, h => by
    obtain ⟨tk, rfl⟩ := r
    have e : Value.str x tk = v := by simpa using h
    subst e
    exact ⟨_, rfl, keyIs_str x tk⟩
  | x :: xs, _, .cons r t, i + 1, v, h => by
    obtain ⟨k, e1, e2⟩ := strs_key t i v (by simpa using h)
    exact ⟨k, by simpa using e1, e2⟩

section
variable {X : Cx}
theorem cr_setTx (hc : X.calm = true) : CallR X (.type "set") (fun vs H Q => ∃ (a : Addr) (xs : List Str), vs = [.ref a] ∧ (SqL X.K H a (xs.map V.str) ∨ SqT X.K H a (xs.map V.str)) ∧ xs.length < 4000 ∧
    ∀ (p : Addr) (zs : List Str), H p = none → (∀ y, y ∈ zs ↔ y ∈ xs) → zs.Nodup → zs.length ≤ xs.length → Q (.ref p) (upd H p (SetTx X.prog X.w p zs))) := by
  intro pins s σ H vs us Q I r h
  obtain ⟨a, xs, rfl, hq, hl, q⟩ := h
  rw [Vals.ref1 r]
  have hn : H s.heap.objs.size = none := I.hok.fresh (Nat.le_refl _)
  have fin : ∀ (its : List Value), Vals (xs.map V.str) its → (s.heap.IsList a its.toArray ∨ s.heap.IsTuple a its.toArray) → wpAny (model X.prog X.w) X.A (call (.type "set") [.ref a]) (EP X pins σ Q) X.xe s := fun its rv hh => by
    have hlen := rv.length
    rw [List.length_map] at hlen
    refine set_of (P := X.prog) (w := X.w) (xs.map Sum.inr) (I.ok.hd hc) hh (by rw [List.size_toArray, List.length_map, hlen]) (fun i v e => strs_key rv i v (by simpa using e)) (by rw [List.length_map]; unfold scanBound; omega) fun h' tk ks R gt k => ?_
    obtain ⟨zs, rfl⟩ := inr_list (xs := xs) fun j hj => (gt.mem j).mp hj
    refine ⟨.ref s.heap.objs.size, _, I.laid (t' := tk) k (Nat.le_refl _) (setTx_new R), rfl, q _ zs hn (fun y => ?_) ?_ ?_⟩
    · have := gt.mem (Sum.inr y)
      simpa using this
    · exact List.Pairwise.of_map _ (fun _ _ ne e => ne (congrArg _ e)) gt.nd
    · have := gt.len
      simpa using this
  rcases hq with hq | hq
  · obtain ⟨its, rv, pl, hz⟩ := I.list hq
    exact fin its rv (.inl pl.isList)
  · obtain ⟨its, rv, pl, hz⟩ := I.tuple hq
    exact fin its rv (.inr pl)
theorem cr_lenTx : CallR X (.builtin "len") (fun vs H Q => ∃ (a : Addr) (zs : List Str), vs = [.ref a] ∧ H a = some (SetTx X.prog X.w a zs) ∧ zs.length < 4000 ∧ Q (.int zs.length) H) := by
  intro pins s σ H vs us Q I r h
  obtain ⟨a, zs, rfl, ha, hl, q⟩ := h
  rw [Vals.ref1 r]
  obtain ⟨o, es, ep, t, ho, hex, hd, g, hz, nd, hb, hf, hr, hld⟩ := (setTx_get I ha).ex
  have hn : es.size = zs.length := by rw [← Array.length_toList, ← List.length_map (f := kOf), hz, List.length_map]
  exact call_len_set ho hex hd hf (by rw [hn]; omega) ⟨.int zs.length, H, I.tok _, ⟨_, by rw [hn]⟩, q⟩

theorem each_strs : ∀ {vs : List Value}, (∀ v ∈ vs, ∃ (x : Str) (t : Tok), v = .str x t) → ∃ bs : List Str, PySem.W.EachIs (fun v b => ∃ t, v = Value.str b t) vs bs
  | [], _ => ⟨[], .nil⟩
  | v :: vs, h => by
    obtain ⟨x, t, e⟩ := h v List.mem_cons_self
    obtain ⟨bs, r⟩ := each_strs (vs := vs) fun u hu => h u (List.mem_cons_of_mem _ hu)
    exact ⟨x :: bs, .cons ⟨t, e⟩ r⟩
def txtOf (v : Value) : Str := match v with | .str x _ => x | _ => Str.empty
theorem each_map_txt : ∀ {vs : List Value} {bs : List Str}, PySem.W.EachIs (fun v b => ∃ t, v = Value.str b t) vs bs → vs.map txtOf = bs
  | _, _, .nil => rfl
  | _, _, .cons ⟨t, e⟩ r => by rw [List.map_cons, each_map_txt r, e] <;> rfl
theorem each_vals_txt : ∀ {vs : List Value} {bs : List Str}, PySem.W.EachIs (fun v b => ∃ t, v = Value.str b t) vs bs → Vals (bs.map V.str) vs
  | _, _, .nil => .nil
  | _, _, .cons ⟨t, e⟩ r => .cons ⟨t, e⟩ (each_vals_txt r)
theorem cr_sortedTx (hc : X.calm = true) (hu : X.A.units + 100 < cLine) : CallR X (.builtin "sorted") (fun vs H Q => ∃ (a : Addr) (zs : List Str), vs = [.ref a] ∧ H a = some (SetTx X.prog X.w a zs) ∧ zs.length < 4000 ∧
    ∀ p, H p = none → Q (.ref p) (upd H p (.lst ((setS zs).map V.str)))) := by
  intro pins s σ H vs us Q I r h
  obtain ⟨a, zs, rfl, ha, hl, q⟩ := h
  rw [Vals.ref1 r]
  obtain ⟨o, es, ep, t, ho, hex, hd, g, hz, nd, hb, hf, hr, hld⟩ := (setTx_get I ha).ex
  have hn : es.size = zs.length := by rw [← Array.length_toList, ← List.length_map (f := kOf), hz, List.length_map]
  refine Calls.call_function_entry kind_sorted plain_sorted entry_sorted (args_sorted1 _) ?_
  unfold Builtin.«sorted»
  refine wpAny_bind (m := checkCount "sorted" 1 1 _) (wpAny_pure ?_)
  refine wpAny_bind (collect_set (A := X.A.in1) (I.ok.hd hc) ⟨o, ho, hex.1, hd⟩ hf hb hr hld fun s1 us' k1 hz1 g1 o1 pm => ?_)
  have hvl : us'.length = zs.length := by rw [pm.length_eq, List.length_map, Array.length_toList]; exact hn
  have str_of : ∀ e ∈ es.toList, ∃ (x : Str) (t : Tok), e.2 = .str x t ∧ kOf e = .inr x := fun e he => by
    have hm : kOf e ∈ zs.map (Sum.inr : Str → Key) := by rw [← hz]; exact List.mem_map.mpr ⟨e, he, rfl⟩
    obtain ⟨x, _, ex⟩ := List.mem_map.mp hm
    have := kOf_val (g e he)
    rw [← ex] at this
    obtain ⟨t, e2⟩ := this
    exact ⟨x, t, e2, ex.symm⟩
  obtain ⟨bs, eb⟩ := each_strs (vs := us') fun v hv => by
    obtain ⟨e, he, q⟩ := List.mem_map.mp (pm.mem_iff.mp hv)
    obtain ⟨x, t, e2, _⟩ := str_of e he
    exact ⟨x, t, by rw [← q]; exact e2⟩
  have pb : bs.Perm zs := by
    rw [← each_map_txt eb]
    refine (pm.map txtOf).trans ?_
    have : (es.toList.map (·.2)).map txtOf = zs := by
      have e3 : (es.toList.map kOf).map (fun k : Key => match k with | .inr x => x | .inl _ => Str.empty) = zs := by
        rw [hz, List.map_map]
        exact List.map_id zs
      rw [← e3, List.map_map, List.map_map]
      refine List.map_congr_left fun e he => ?_
      obtain ⟨x, t, e2, e4⟩ := str_of e he
      show txtOf e.2 = (match kOf e with | .inr x => x | .inl _ => Str.empty)
      rw [e2, e4] <;> rfl
    rw [this]
  refine wpAny_bind (wpAny_newList ?_ (by rw [hvl, sizeLine_eq]; omega))
  have hoL : (s1.heap.push (seqObj "list" us'.toArray 0)).get? s1.heap.objs.size = some (seqObj "list" us'.toArray 0) := Heap.get?_push_size _ rfl
  have hA : X.A.in1.units = X.A.units + 1 := rfl
  refine wpAny_bind (wpAny_holding (PySem.W.list_sort_data (s := { s1 with heap := s1.heap.push (seqObj "list" us'.toArray 0) }) (enc := fun b : Str => PyData.str b) hoL eb (eb.mono fun v b ⟨t, e⟩ => ⟨[], by rw [e]; exact Reads.str b t, by simp⟩)
    (PySem.W.AllAlike.of fun b b' => rfl) (PySem.W.Sortable.others fun b => ⟨(by intro z; cases z), fun xs z => by cases z⟩) (by rw [← eb.length, hvl, sizeLine_eq]; omega) (fun b _ => by rw [hA]; show X.A.units + 1 + 1 + 0 < cLine; omega) fun out hlo eo => ?_))
  have es' : bs.mergeSort (PySem.W.dataLe false fun b : Str => PyData.str b) = setS zs := by
    rw [PySem.W.dataLe_str (fun b : Str => b)]
    have pr := List.mergeSort_perm bs (fun a b => decide (a.cps.toList ≤ b.cps.toList))
    have tr : ∀ a b c : Str, decide (a.cps.toList ≤ b.cps.toList) = true → decide (b.cps.toList ≤ c.cps.toList) = true → decide (a.cps.toList ≤ c.cps.toList) = true := fun a b c h1 h2 =>
      decide_eq_true (List.le_trans (of_decide_eq_true h1) (of_decide_eq_true h2))
    have tt : ∀ a b : Str, (decide (a.cps.toList ≤ b.cps.toList) || decide (b.cps.toList ≤ a.cps.toList)) = true := fun a b => by
      rw [Bool.or_eq_true]
      exact (List.le_total a.cps.toList b.cps.toList).imp decide_eq_true decide_eq_true
    have so : (bs.mergeSort fun a b => decide (a.cps.toList ≤ b.cps.toList)).Pairwise fun a b => decide (a.cps.toList ≤ b.cps.toList) = true := List.pairwise_mergeSort tr tt bs
    have ndz : zs.Nodup := by
      exact List.Pairwise.of_map _ (fun _ _ ne e => ne (congrArg _ e)) nd
    have ndm := (pr.trans pb).nodup_iff.mpr ndz
    refine asc_uniq ?_ (pair_setS zs) fun y => by rw [(pr.trans pb).mem_iff, mem_setS]
    refine List.Pairwise.imp₂ (fun a b h1 h2 => ?_) so ndm
    refine Classical.byContradiction fun nl => h2 (str_ext (List.le_antisymm (of_decide_eq_true h1) (List.not_lt.mp nl)))
  rw [es'] at eo
  obtain ⟨c, hc'⟩ := sortedHeap_at (vs := us') (out := out.toArray) hoL
  have kk : ∀ b u, s.heap.get? b = some u → (sortedHeap (s1.heap.push (seqObj "list" us'.toArray 0)) s1.heap.objs.size us' out.toArray).get? b = some u := fun b u e => by
    have q := k1 b u e
    have hlt := Heap.lt_size q
    rw [sortedHeap_old (Nat.ne_of_lt hlt) (by rw [size_push']; exact Nat.lt_succ_of_lt hlt)]
    exact Heap.get?_push_of_some _ q
  have hlen : ((setS zs).map V.str).length ≤ sizeLine := by
    rw [List.length_map, ← eo.length, hlo, ← eb.length, hvl, sizeLine_eq]; omega
  have hnp : H s1.heap.objs.size = none := I.hok.fresh hz1
  refine wpAny_pure ⟨_, rfl, .ref s1.heap.objs.size, upd H s1.heap.objs.size (.lst ((setS zs).map V.str)), ?_, rfl, q _ hnp⟩
  obtain ⟨hp1, gg1, dd1, tt1, oo1⟩ := s1
  have eg : gg1 = s.gens := g1
  have eo1 : oo1 = s.os := o1
  subst eg
  subst eo1
  have J := I.call (H' := upd H hp1.objs.size (.lst ((setS zs).map V.str))) (h' := sortedHeap (hp1.push (seqObj "list" us'.toArray 0)) hp1.objs.size us' out.toArray) (g' := s.gens) (d' := dd1) (t' := tt1) (ch := []) (Un.laid kk hz1 hnp) (I.hok.laid (o := .lst ((setS zs).map V.str)) kk hz1 ⟨hlen, out, c, each_vals_txt eo, hc'⟩) I.bare (fun _ z => nomatch z)
  exact J
end
end Pv

end
section
set_option Elab.async false
set_option maxRecDepth 100000
set_option maxHeartbeats 4000000
set_option autoImplicit false
set_option linter.all false
/-! Pv5: methods that change, stores, augmented operators. -/
namespace Pv
open PySem L2
section
variable {g : Gd} {X : Cx}

/-- a call of a method, by values -/
def rUpd : V → List V → Hp → VK → Prop := fun x xs H Q => ∃ (a b : Addr) (ks ms : List (Key × V)), x = .ref a ∧ xs = [.ref b] ∧ H a = some (.dK ks) ∧ H b = some (.dK ms) ∧ a ≠ b ∧ ks.length + ms.length ≤ sizeLine ∧ Q .non (upd H a (.dK (mergeK ks ms)))
theorem mt_update : MtR X "dict.update" rUpd := by
  intro pins s σ H x xs v us Q I rx rv h
  obtain ⟨a, b, ks, ms, rfl, rfl, ha, hb, ne, hz, q⟩ := h
  cases rx
  rw [Vals.ref1 rv]
  obtain ⟨z1, hs1, vs, r1, d1⟩ := dk_of I.hok ha
  obtain ⟨z2, hs2, ws, r2, d2⟩ := dk_of I.hok hb
  have l1 : ks.length = vs.length := Paired.length r1
  have l2 : ms.length = ws.length := Paired.length r2
  refine call_meetsIn PySem.F.slot_dict_update d1.typeIs PySem.F.entry_dict_update (PySem.F.args_dict_update_2 _ _) (meets_dict_update (mixKind X.prog X.w) a b ne hs2) ⟨vs, ws, d1, d2, by omega, fun h' e1 e2 sb => ?_⟩
  refine ⟨.non, _, d_write (t' := s.toks) I (by rw [ha]; trivial) sb (let ⟨o, _, _, e, _⟩ := e1; ⟨o, e⟩) (dk_new ?_ hs1 (KV.merge r2 r1) e1), rfl, q⟩
  have := length_mergeK ms ks
  omega

theorem app_ok (o : Okv g X) {m : List Addr} {h : PH} {H : Hp} {p : Nat} {xs : List PV} {x : PV} {a b : V} {Q : VK} (hr : HR g m h H) (rp : VR g m H (.ref p) a) (rx : VR g m H x b) (e : h[p]? = some (.lst xs)) (hz : xs.length < SZ)
    (k : Kt g m H (h.set p (.lst (xs ++ [x]))) .non Q) : tyV X.K "list" a H ∧ rAppend a [b] H Q := by
  obtain ⟨q, vs, m1, h1, r⟩ := hr.lst e
  obtain rfl := rp.ref_eq m1
  refine ⟨.inl ⟨rfl, vs, .of h1⟩, q, vs, b, rfl, rfl, h1, by rw [r.len, ← SZ_eq]; exact hz, ?_⟩
  obtain ⟨r1, x1⟩ := hr.put (o := .lst (xs ++ [x])) (ho := .lst (vs ++ [b])) m1 e fun kp => ⟨_, upd_same, VRs.mono kp _ _ (r.app ⟨b, [], rfl, rx, rfl⟩)⟩
  exact k _ _ _ x1 r1 rfl
theorem ext_ok (o : Okv g X) {m : List Addr} {h : PH} {H : Hp} {p q : Nat} {xs ys : List PV} {a b : V} {Q : VK} (hr : HR g m h H) (rp : VR g m H (.ref p) a) (rx : VR g m H (.ref q) b) (e : h[p]? = some (.lst xs)) (e' : h[q]? = some (.lst ys)) (hz : xs.length + ys.length ≤ SZ)
    (k : Kt g m H (h.set p (.lst (xs ++ ys))) .non Q) : tyV X.K "list" a H ∧ rExtend a [b] H Q := by
  obtain ⟨c, vs, m1, h1, r⟩ := hr.lst e
  obtain ⟨d, ws, m2, h2, r2⟩ := hr.lst e'
  obtain rfl := rp.ref_eq m1
  obtain rfl := rx.ref_eq m2
  refine ⟨.inl ⟨rfl, vs, .of h1⟩, c, d, vs, ws, rfl, rfl, h1, h2, by rw [r.len, r2.len, ← SZ_eq]; exact hz, ?_⟩
  obtain ⟨r1, x1⟩ := hr.put (o := .lst (xs ++ ys)) (ho := .lst (vs ++ ws)) m1 e fun kp => ⟨_, upd_same, VRs.mono kp _ _ (r.app r2)⟩
  exact k _ _ _ x1 r1 rfl
theorem upd_ok (o : Okv g X) {m : List Addr} {h : PH} {H : Hp} {p q : Nat} {xs ys : List (Key × PV)} {a b : V} {Q : VK} (hr : HR g m h H) (rp : VR g m H (.ref p) a) (rx : VR g m H (.ref q) b) (e : h[p]? = some (.dct xs)) (e' : h[q]? = some (.dct ys)) (hz : xs.length + ys.length ≤ SZ) (ne : p ≠ q)
    (k : Kt g m H (h.set p (.dct (mrg xs ys))) .non Q) : tyV X.K "dict" a H ∧ rUpd a [b] H Q := by
  obtain ⟨c, vs, m1, h1, r⟩ := hr.dct e
  obtain ⟨d, ws, m2, h2, r2⟩ := hr.dct e'
  obtain rfl := rp.ref_eq m1
  obtain rfl := rx.ref_eq m2
  have ncd : c ≠ d := fun z => ne (HR.put.nodup_ix' hr.nd m1 (z ▸ m2))
  refine ⟨.inr (.inr (.inl ⟨rfl, .inl ⟨vs, h1⟩⟩)), c, d, vs, ws, rfl, rfl, h1, h2, ncd, by rw [r.len, r2.len, ← SZ_eq]; exact hz, ?_⟩
  obtain ⟨r1, x1⟩ := hr.put (o := .dct (mrg xs ys)) (ho := .dK (mergeK vs ws)) m1 e fun kp => ⟨_, upd_same, KR.mono kp _ _ (KR.mrg r r2)⟩
  exact k _ _ _ x1 r1 rfl
theorem split_ok {m : List Addr} {h h' : PH} {H : Hp} {x v : PV} {a : V} {Q : VK} (hr : HR g m h H) (rx : VR g m H x a) (e : splitPV x h = some (v, h')) (k : Kt g m H h' v Q) :
    tyV X.K "str" a H ∧ (∃ z, a = .str z ∧ ([] : List V) = [] ∧ z.length + 2 ≤ sizeLine ∧ rNewStrs (Txt.words z) H Q) := by
  cases x with
  | str z =>
    have e' : (if z.length + 2 ≤ SZ then some (newO (.lst ((Txt.words z).map .str)) h) else none) = some (v, h') := e
    split at e'
    · rename_i hz
      cases e'
      cases rx
      exact ⟨rfl, z, rfl, rfl, by rw [← SZ_eq]; exact hz, fun p hp => k.lst hr (strs_vrs _) hp⟩
    · cases e'
  | _ => cases e

/-! ### stores -/
def rSetK : TSet := fun o i v H Q => rSetL o i v H Q ∨ ∃ a H', o = .ref a ∧ DPut H a i v H' ∧ Q H'
theorem set_any (hu : X.A.units + 1 < cLine) : PSet X rSetK := by
  intro pins s σ H o i v ov iv u Q I ro ri rv h
  rcases h with h | ⟨a, H', rfl, gp, q⟩
  · exact set_list pins s σ H o i v ov iv u Q I ro ri rv h
  · cases ro
    exact d_setItem hu I gp ri rv fun s' I' => ⟨H', I', q⟩
/-- what follows with the objects h' alone -/
def Kh (g : Gd) (m : List Addr) (H : Hp) (h' : PH) (Q : Hp → Prop) : Prop := ∀ (m' : List Addr) (H' : Hp), Ext m H m' H' → HR g m' h' H' → Q H'
theorem set_ok (o : Okv g X) {m : List Addr} {h h' : PH} {H : Hp} {x i v : PV} {a b c : V} {Q : Hp → Prop} (hr : HR g m h H) (rx : VR g m H x a) (ri : VR g m H i b) (rv : VR g m H v c) (e : setI h x i v = some h') (k : Kh g m H h' Q) :
    rSetK a b c H Q := by
  cases x with
  | ref p =>
    have e' : (match h[p]? with
      | some (.lst xs) => (match (generalizing := false) i with | .int k => (ixOf xs.length k).map fun j => h.set p (.lst (xs.set j v)) | _ => none)
      | some (.dct kvs) => (keyV i).bind fun k => if kvs.length < SZ then some (h.set p (.dct (putK kvs k v))) else none
      | _ => none) = some h' := e
    split at e'
    · rename_i xs hp
      cases i with
      | int j =>
        obtain ⟨n, e1, e2⟩ := Option.map_eq_some_iff.mp e'
        subst e2
        obtain ⟨q, vs, m1, h1, r⟩ := hr.lst hp
        obtain rfl := rx.ref_eq m1
        refine .inl ⟨q, vs, j, n, rfl, ri, h1, by rw [r.len]; exact e1, ?_⟩
        obtain ⟨r1, x1⟩ := hr.put (o := .lst (xs.set n v)) (ho := .lst (vs.set n c)) m1 hp fun kp => ⟨_, upd_same, VRs.mono kp _ _ (r.set n rv)⟩
        exact k _ _ x1 r1
      | _ => cases e'
    · rename_i kvs hp
      obtain ⟨j, e1, e2⟩ := Option.bind_eq_some_iff.mp e'
      split at e2
      · rename_i hz
        cases e2
        obtain ⟨q, vs, m1, h1, r⟩ := hr.dct hp
        obtain rfl := rx.ref_eq m1
        refine .inr ⟨q, upd H q (.dK (L2.putK vs j c)), rfl, ?_, ?_⟩
        · rw [keyV_rel e1 ri]
          exact .k h1 (by rw [r.len, ← SZ_eq]; exact hz)
        · obtain ⟨r1, x1⟩ := hr.put (o := .dct (putK kvs j v)) (ho := .dK (L2.putK vs j c)) m1 hp fun kp => ⟨_, upd_same, KR.mono kp _ _ (r.put j rv)⟩
          exact k _ _ x1 r1
      · cases e2
    · cases e'
  | _ => cases e

/-! ### x op= y -/
def ipR (b : Bo) : TIp := fun x y H Q => (∃ i j v, x = .int i ∧ y = .int j ∧ binPV b [] (.int i) (.int j) = some (.int v, []) ∧ Q (.int v) H) ∨ (b = .add ∧ ∃ i j, x = .str i ∧ y = .str j ∧ i.length + j.length ≤ sizeLine ∧ Q (.str (i ++ j)) H)
theorem ip_ok : ∀ b : Bo, b ≠ .pow → PIp X (opOf b) (ipR b) := by
  intro b nb pins s σ H x y v u Q I rx ry h
  rcases h with ⟨i, j, z, rfl, rfl, e, q⟩ | ⟨rfl, i, j, rfl, rfl, hz, q⟩
  · cases b with
    | add =>
      have e' : i + j = z := by have : some (PV.int (i + j), ([] : PH)) = some (PV.int z, []) := e; injection this with this; injection this with this; injection this
      subst e'
      exact iop_add pins s σ H _ _ v u Q I rx ry ⟨i, j, rfl, rfl, q⟩
    | sub =>
      have e' : i - j = z := by have : some (PV.int (i - j), ([] : PH)) = some (PV.int z, []) := e; injection this with this; injection this with this; injection this
      subst e'
      exact iop_sub pins s σ H _ _ v u Q I rx ry ⟨i, j, rfl, rfl, q⟩
    | mul =>
      have e1 : (if (-(2 ^ 64) < i ∧ i < 2 ^ 64) ∨ (-(2 ^ 64) < j ∧ j < 2 ^ 64) then some (PV.int (i * j), ([] : PH)) else none) = some (PV.int z, []) := e
      split at e1
      · rename_i c
        have e' : i * j = z := by injection e1 with e1; injection e1 with e1; injection e1
        subst e'
        exact iop_mul pins s σ H _ _ v u Q I rx ry ⟨i, j, rfl, rfl, c, q⟩
      · cases e1
    | fdiv =>
      have e1 : (if 0 < j ∧ j < 1073741824 then some (PV.int (i / j), ([] : PH)) else none) = some (PV.int z, []) := e
      split at e1
      · rename_i c
        have e' : i / j = z := by injection e1 with e1; injection e1 with e1; injection e1
        subst e'
        exact iop_fdiv pins s σ H _ _ v u Q I rx ry ⟨i, j, rfl, rfl, c, q⟩
      · cases e1
    | mod =>
      have e1 : (if 0 < j then some (PV.int (i % j), ([] : PH)) else none) = some (PV.int z, []) := e
      split at e1
      · rename_i c
        have e' : i % j = z := by injection e1 with e1; injection e1 with e1; injection e1
        subst e'
        exact iop_mod pins s σ H _ _ v u Q I rx ry ⟨i, j, rfl, rfl, c, q⟩
      · cases e1
    | pow => exact absurd rfl nb
  · exact iop_add_str pins s σ H _ _ v u Q I rx ry ⟨i, j, rfl, rfl, hz, q⟩

def rGetK (K : PySem.W.Frag) : V → V → Hp → VK → Prop := fun x y H Q => (∃ p xs i v, x = .ref p ∧ y = .int i ∧ SqL K H p xs ∧ 0 ≤ i ∧ atI xs i = some v ∧ Q v H) ∨ ∃ a v, x = .ref a ∧ DGet H a y (some v) ∧ Q v H
theorem get_any (hu : X.A.units + 1 < cLine) : PGet X (rGetK X.K) := by
  intro pins s σ H o i ov iv Q I ro ri h
  rcases h with ⟨p, xs, k, v, rfl, rfl, hq, h0, he, q⟩ | ⟨a, v, rfl, gt, q⟩
  · cases ro
    obtain ⟨t, rfl⟩ := ri
    obtain ⟨its, r, pl, hz⟩ := I.list hq
    obtain ⟨j, h1, h2, h3, h4, h5⟩ := atI_get he
    obtain ⟨w, ew, rw'⟩ := r.get h2
    have hl := r.length
    have hn := line63
    have hj : k.toNat = j := by
      rw [seqIndex_of h0 h5] at h1
      exact Option.some.inj h1
    exact wpAny_getItem_list pl.isList h0 (by omega) (by rw [hj]; simpa using ew) ⟨v, H, I, rw', q⟩
  · cases ro
    exact d_getItem hu I gt ri fun w' s3 I3 rw' => ⟨v, H, I3, rw', q⟩
end
end Pv

end
section
set_option Elab.async false
set_option maxRecDepth 100000
set_option autoImplicit false
set_option linter.all false
/-! PvI: the small language and its evaluator. -/
namespace Pv
open PySem
inductive Tg where
  | one (i : Nat) | tup (is : List Nat)

mutual
inductive IE where
  | var (i : Nat) | gl (x : Str) | bt (n : String) | con (c : Cn)
  | neg (e : IE) | not (e : IE) | and (a b : IE) | or (a b : IE) | ite (c a b : IE)
  | bin (o : Bo) (a b : IE) | cmp (o : Co) (a b : IE) | cmp2 (o p : Co) (a b c : IE)
  | ix (a i : IE) | sl (a : IE) (lo hi : IO)
  | tup (es : IEs) | lst (es : IEs) | dct (ks : List Str) (vs : IEs) | dct0
  | call (f : Str) (es : IEs) | callV (f : IE) (es : IEs)
  | b1 (b : B1) (e : IE) | isi (e : IE) (t : String) | lenset (e : IE) | sortset (e : IE)
  | split (e : IE) | app (o e : IE) | ext (o e : IE) | upd (o e : IE)
  | lc (e : IE) (tg : Tg) (s : IS) (own : List Nat) (c : IO)
inductive IEs where
  | nil | cons (e : IE) (es : IEs) | star (e : IE) (es : IEs)
inductive IO where
  | none | some (e : IE)
inductive IS where
  | it (e : IE) | rng (e : IE) | rng2 (a b : IE) | zip (a b : IE) | enum (e : IE)
end

mutual
inductive IT where
  | asg (i : Nat) (e : IE) | asgT (is : List Nat) (e : IE)
  | sub (o i e : IE) | aug (i : Nat) (o : Bo) (e : IE) | augS (o i : IE) (b : Bo) (e : IE)
  | exp (e : IE) | ret (e : IE) | ret0 | ite (c : IE) (a b : ITs) | fr (tg : Tg) (s : IS) (b : ITs) | wh (c : IE) (b : ITs)
  | brk | cnt | pass
inductive ITs where
  | nil | cons (t : IT) (ts : ITs)
end

/-! ### what loops walk -/
inductive SV where
  | fix (xs : List PV) | lst (p : Nat) | rng (lo : Int) (n : Nat) | zip (a b : SV) | enum (a : SV)
def svAt (h : PH) : SV → Nat → Option (Option PV)
  | .fix xs, i => some xs[i]?
  | .lst p, i => match h[p]? with | some (.lst xs) => some xs[i]? | _ => none
  | .rng lo n, i => some (if i < n then some (.int (lo + i)) else none)
  | .zip a b, i => match svAt h a i, svAt h b i with
    | some (some x), some (some y) => some (some (.tup [x, y]))
    | some none, some _ => some none
    | some (some _), some none => some none
    | _, _ => none
  | .enum a, i => match svAt h a i with
    | some (some x) => some (some (.tup [.int i, x]))
    | some none => some none
    | none => none
def seqSV (h : PH) : PV → Option SV
  | .tup xs => some (.fix xs)
  | .ref p => match h[p]? with | some (.lst _) => some (.lst p) | _ => none
  | _ => none
def itSV (h : PH) : PV → Option SV
  | .tup xs => some (.fix xs)
  | .str s => some (.fix (s.cps.toList.map fun c => .str ⟨#[c]⟩))
  | .ref p => match h[p]? with | some (.lst _) => some (.lst p) | _ => none
  | _ => none

def setSlots (ρ : PEnv) : List Nat → List PV → Option PEnv
  | [], [] => some ρ
  | i :: is, x :: xs => setSlots (ρ.set i (some x)) is xs
  | _, _ => none
def bindTg (ρ : PEnv) : Tg → PV → Option PEnv
  | .one i, x => some (ρ.set i (some x))
  | .tup is, .tup xs => setSlots ρ is xs
  | .tup _, _ => none
def wipeP (ρ : PEnv) : List Nat → PEnv
  | [] => ρ
  | i :: is => (wipeP ρ is).set i none

/-- a comprehension's loop: f gives none where the test fails -/
def lcLoop (sv : SV) (bnd : PV → Option PEnv) (f : PEnv → PH → Option (Option PV × PH)) : Nat → Nat → List PV → PH → Option (List PV × PH)
  | 0, _, _, _ => none
  | n + 1, i, acc, h => match svAt h sv i with
    | none => none
    | some none => some (acc, h)
    | some (some x) => match bnd x with
      | none => none
      | some ρ => match f ρ h with
        | none => none
        | some (none, h') => lcLoop sv bnd f n (i + 1) acc h'
        | some (some y, h') => lcLoop sv bnd f n (i + 1) (acc ++ [y]) h'

inductive Fl where
  | nx (ρ : PEnv) | rt (v : PV) | bk (ρ : PEnv) | ct (ρ : PEnv)

def frLoop (sv : SV) (bnd : PEnv → PV → Option PEnv) (f : PEnv → PH → Option (Fl × PH)) : Nat → Nat → PEnv → PH → Option (Fl × PH)
  | 0, _, _, _ => none
  | n + 1, i, ρ, h => match svAt h sv i with
    | none => none
    | some none => some (.nx ρ, h)
    | some (some x) => match bnd ρ x with
      | none => none
      | some ρ1 => match f ρ1 h with
        | none => none
        | some (.rt v, h') => some (.rt v, h')
        | some (.bk ρ', h') => some (.nx ρ', h')
        | some (.nx ρ', h') => frLoop sv bnd f n (i + 1) ρ' h'
        | some (.ct ρ', h') => frLoop sv bnd f n (i + 1) ρ' h'

def whLoop (c : PEnv → PH → Option (Bool × PH)) (f : PEnv → PH → Option (Fl × PH)) : Nat → PEnv → PH → Option (Fl × PH)
  | 0, _, _ => none
  | n + 1, ρ, h => match c ρ h with
    | none => none
    | some (false, h') => some (.nx ρ, h')
    | some (true, h1) => match f ρ h1 with
      | none => none
      | some (.rt v, h') => some (.rt v, h')
      | some (.bk ρ', h') => some (.nx ρ', h')
      | some (.nx ρ', h') => whLoop c f n ρ' h'
      | some (.ct ρ', h') => whLoop c f n ρ' h'

def TURNS : Nat := 16777216

structure Cl where
  call : Str → List PV → PH → Option (PV × PH)
  gl : Str → Option PV

def bool? (r : Option (PV × PH)) : Option (Bool × PH) := match r with
  | some (v, h) => (truPV h v).map fun b => (b, h)
  | none => none

def trim (n : Nat) (v : PV) (h : PH) : PV × PH := if v.bd n && (h.take n).all (PO.bd n) then (v, h.take n) else (v, h)
def tm (n : Nat) (r : Option (PV × PH)) : Option (PV × PH) := r.map fun r => trim n r.1 r.2
def isL (h : PH) (p : Nat) : Bool := match h[p]? with | some (.lst _) => true | _ => false
def isD (h : PH) (p : Nat) : Bool := match h[p]? with | some (.dct _) => true | _ => false

mutual
def evE (C : Cl) : IE → PEnv → PH → Option (PV × PH)
  | .var i, ρ, h => match ρ[i]? with | some (some v) => some (v, h) | _ => none
  | .gl x, _, h => match C.gl x with | some v => some (v, h) | none => none
  | .bt n, _, h => some (.ty n, h)
  | .con .non, _, h => some (.non, h)
  | .con (.bl b), _, h => some (.bl b, h)
  | .con (.int i), _, h => some (.int i, h)
  | .con (.str s), _, h => some (.str s, h)
  | .neg e, ρ, h => match evE C e ρ h with | some (.int i, h) => some (.int (-i), h) | _ => none
  | .not e, ρ, h => match evE C e ρ h with | some (v, h) => (truPV h v).map fun b => (.bl (!b), h) | _ => none
  | .and a b, ρ, h => match evE C a ρ h with
    | some (.bl true, h) => evE C b ρ h
    | some (.bl false, h) => some (.bl false, h)
    | _ => none
  | .or a b, ρ, h => match evE C a ρ h with
    | some (.bl false, h) => evE C b ρ h
    | some (.bl true, h) => some (.bl true, h)
    | _ => none
  | .ite c a b, ρ, h => match bool? (evE C c ρ h) with
    | some (true, h) => evE C a ρ h
    | some (false, h) => evE C b ρ h
    | none => none
  | .bin o a b, ρ, h => match evE C a ρ h with
    | some (x, h) => match evE C b ρ h with
      | some (y, h) => binPV o h x y
      | none => none
    | none => none
  | .cmp o a b, ρ, h => tm h.length (match evE C a ρ h with
    | some (x, h) => match evE C b ρ h with
      | some (y, h) => (cmpPV o h x y).map fun k => (.bl k, h)
      | none => none
    | none => none)
  | .cmp2 o p a b c, ρ, h => match evE C a ρ h with
    | some (x, h) => match evE C b ρ h with
      | some (y, h) => match cmpPV o h x y with
        | some true => match evE C c ρ h with
          | some (z, h) => (cmpPV p h y z).map fun k => (.bl k, h)
          | none => none
        | some false => some (.bl false, h)
        | none => none
      | none => none
    | none => none
  | .ix a i, ρ, h => match evE C a ρ h with
    | some (x, h) => match evE C i ρ h with
      | some (y, h) => (ixPV h x y).map fun v => (v, h)
      | none => none
    | none => none
  | .sl a lo hi, ρ, h => match evE C a ρ h with
    | some (x, h) => match evO C lo ρ h with
      | some (l, h) => match evO C hi ρ h with
        | some (u, h) => slPV h x l u
        | none => none
      | none => none
    | none => none
  | .tup es, ρ, h => match evEs C es ρ h with | some (vs, h) => if vs.length ≤ SZ then some (.tup vs, h) else none | none => none
  | .lst es, ρ, h => match evEs C es ρ h with | some (vs, h) => if vs.length ≤ SZ then some (newO (.lst vs) h) else none | none => none
  | .dct ks es, ρ, h => match evEs C es ρ h with
    | some (vs, h) => if ks.length = vs.length ∧ ks.length ≤ 15 then some (newO (.dct (mrg [] ((ks.map Sum.inr).zip vs))) h) else none
    | none => none
  | .dct0, _, h => some (newO (.dct []) h)
  | .call f es, ρ, h => match evEs C es ρ h with | some (vs, h) => C.call f vs h | none => none
  | .callV f es, ρ, h => match evE C f ρ h with
    | some (.fn g, h) => match evEs C es ρ h with | some (vs, h) => C.call g vs h | none => none
    | _ => none
  | .b1 b e, ρ, h => tm h.length (match evE C e ρ h with | some (x, h) => b1PV b h x | none => none)
  | .isi e t, ρ, h => match evE C e ρ h with | some (x, h) => (isiPV h x t).map fun k => (.bl k, h) | none => none
  | .lenset e, ρ, h => match evE C e ρ h with
    | some (x, h) => ((seqOf h x).bind strsOf).bind fun xs => if xs.length < 4000 then some (.int (ddS xs).length, h) else none
    | none => none
  | .sortset e, ρ, h => match evE C e ρ h with
    | some (x, h) => ((seqOf h x).bind strsOf).bind fun xs => if xs.length < 4000 then some (newO (.lst ((setS xs).map .str)) h) else none
    | none => none
  | .split e, ρ, h => match evE C e ρ h with | some (x, h) => splitPV x h | none => none
  | .app o e, ρ, h => match evE C o ρ h with
    | some (.ref p, h) => if isL h p then match evE C e ρ h with
      | some (x, h) => match h[p]? with
        | some (.lst xs) => if xs.length < SZ then some (.non, h.set p (.lst (xs ++ [x]))) else none
        | _ => none
      | none => none else none
    | _ => none
  | .ext o e, ρ, h => match evE C o ρ h with
    | some (.ref p, h) => if isL h p then match evE C e ρ h with
      | some (.ref q, h) => match h[p]?, h[q]? with
        | some (.lst xs), some (.lst ys) => if xs.length + ys.length ≤ SZ then some (.non, h.set p (.lst (xs ++ ys))) else none
        | _, _ => none
      | _ => none else none
    | _ => none
  | .upd o e, ρ, h => match evE C o ρ h with
    | some (.ref p, h) => if isD h p then match evE C e ρ h with
      | some (.ref q, h) => match h[p]?, h[q]? with
        | some (.dct xs), some (.dct ys) => if xs.length + ys.length ≤ SZ ∧ p ≠ q then some (.non, h.set p (.dct (mrg xs ys))) else none
        | _, _ => none
      | _ => none else none
    | _ => none
  | .lc e tg s own c, ρ, h => match evS C s ρ h with
    | some (sv, h) => match lcLoop sv (fun x => bindTg (wipeP ρ own) tg x) (fun ρ' h => match evC C c ρ' h with
        | some (true, h) => (match evE C e ρ' h with | some (v, h) => some (some v, h) | none => none)
        | some (false, h) => some (none, h)
        | none => none) TURNS 0 [] h with
      | some (acc, h) => some (newO (.lst acc) h)
      | none => none
    | none => none
def evEs (C : Cl) : IEs → PEnv → PH → Option (List PV × PH)
  | .nil, _, h => some ([], h)
  | .cons e es, ρ, h => match evE C e ρ h with
    | some (v, h) => match evEs C es ρ h with
      | some (vs, h) => some (v :: vs, h)
      | none => none
    | none => none
  | .star e es, ρ, h => match evE C e ρ h with
    | some (v, h) => match seqOf h v with
      | some xs => match evEs C es ρ h with
        | some (vs, h) => some (xs ++ vs, h)
        | none => none
      | none => none
    | none => none
def evO (C : Cl) : IO → PEnv → PH → Option (Option Int × PH)
  | .none, _, h => some (none, h)
  | .some e, ρ, h => match evE C e ρ h with | some (.int i, h) => some (some i, h) | _ => none
def evC (C : Cl) : IO → PEnv → PH → Option (Bool × PH)
  | .none, _, h => some (true, h)
  | .some e, ρ, h => bool? (evE C e ρ h)
def evS (C : Cl) : IS → PEnv → PH → Option (SV × PH)
  | .it e, ρ, h => match evE C e ρ h with | some (x, h) => (itSV h x).map fun s => (s, h) | none => none
  | .rng e, ρ, h => match evE C e ρ h with
    | some (.int i, h) => if -(2 ^ 62) ≤ i ∧ i < 2 ^ 62 then some (.rng 0 i.toNat, h) else none
    | _ => none
  | .rng2 a b, ρ, h => match evE C a ρ h with
    | some (.int i, h) => match evE C b ρ h with
      | some (.int j, h) => if -(2 ^ 62) ≤ i ∧ i < 2 ^ 62 ∧ -(2 ^ 62) ≤ j ∧ j < 2 ^ 62 then some (.rng i (j - i).toNat, h) else none
      | _ => none
    | _ => none
  | .zip a b, ρ, h => match evE C a ρ h with
    | some (x, h) => match evE C b ρ h with
      | some (y, h) => match seqSV h x, seqSV h y with
        | some s, some t => some (.zip s t, h)
        | _, _ => none
      | none => none
    | none => none
  | .enum e, ρ, h => match evE C e ρ h with | some (x, h) => (seqSV h x).map fun s => (.enum s, h) | none => none
end

def nnB : PV → Bool | .int i => decide (0 ≤ i) | _ => true

mutual
def evT (C : Cl) : IT → PEnv → PH → Option (Fl × PH)
  | .asg i e, ρ, h => match evE C e ρ h with | some (v, h) => some (.nx (ρ.set i (some v)), h) | none => none
  | .asgT is e, ρ, h => match evE C e ρ h with
    | some (.tup xs, h) => match setSlots ρ is xs with | some ρ' => some (.nx ρ', h) | none => none
    | _ => none
  | .sub o i e, ρ, h => match evE C e ρ h with
    | some (v, h) => match evE C o ρ h with
      | some (x, h) => match evE C i ρ h with
        | some (y, h) => match setI h x y v with | some h => some (.nx ρ, h) | none => none
        | none => none
      | none => none
    | none => none
  | .aug i o e, ρ, h => match ρ[i]? with
    | some (some x) => match evE C e ρ h with
      | some (y, h) => match x, y with
        | .int _, .int _ => (match binPV o h x y with | some (z, h) => some (.nx (ρ.set i (some z)), h) | none => none)
        | .str _, .str _ => (match binPV o h x y with | some (z, h) => some (.nx (ρ.set i (some z)), h) | none => none)
        | _, _ => none
      | none => none
    | _ => none
  | .augS o i b e, ρ, h => match evE C o ρ h with
    | some (x, h) => match evE C i ρ h with
      | some (y, h) => match ixPV h x y with
        | some (.int a) => if nnB y then match evE C e ρ h with
          | some (.int c, h) => match binPV b h (.int a) (.int c) with
            | some (z, h) => (match setI h x y z with | some h => some (.nx ρ, h) | none => none)
            | none => none
          | _ => none else none
        | _ => none
      | none => none
    | none => none
  | .exp e, ρ, h => match evE C e ρ h with | some (_, h) => some (.nx ρ, h) | none => none
  | .ret e, ρ, h => match evE C e ρ h with | some (v, h) => some (.rt v, h) | none => none
  | .ret0, _, h => some (.rt .non, h)
  | .ite c a b, ρ, h => match bool? (evE C c ρ h) with
    | some (true, h) => evTs C a ρ h
    | some (false, h) => evTs C b ρ h
    | none => none
  | .fr tg s b, ρ, h => match evS C s ρ h with
    | some (sv, h) => frLoop sv (fun ρ x => bindTg ρ tg x) (fun ρ h => evTs C b ρ h) TURNS 0 ρ h
    | none => none
  | .wh c b, ρ, h => whLoop (fun ρ h => bool? (evE C c ρ h)) (fun ρ h => evTs C b ρ h) TURNS ρ h
  | .brk, ρ, h => some (.bk ρ, h)
  | .cnt, ρ, h => some (.ct ρ, h)
  | .pass, ρ, h => some (.nx ρ, h)
def evTs (C : Cl) : ITs → PEnv → PH → Option (Fl × PH)
  | .nil, ρ, h => some (.nx ρ, h)
  | .cons t ts, ρ, h => match evT C t ρ h with
    | some (.nx ρ, h) => evTs C ts ρ h
    | r => r
end

structure Fn where
  np : Nat
  nl : Nat
  body : ITs


def evCall (tab : Str → Option Fn) (gl : Str → Option PV) : Nat → Str → List PV → PH → Option (PV × PH)
  | 0, _, _, _ => none
  | n + 1, f, vs, h => match tab f with
    | none => none
    | some fn => if vs.length = fn.np ∧ fn.np ≤ fn.nl then
        match evTs ⟨evCall tab gl n, gl⟩ fn.body (vs.map some ++ List.replicate (fn.nl - fn.np) none) h with
        | some (.rt v, h') => some (trim h.length v h')
        | some (.nx _, h') => some (trim h.length .non h')
        | _ => none
      else none
end Pv

end
section
set_option Elab.async false
set_option maxRecDepth 100000
set_option maxHeartbeats 4000000
set_option autoImplicit false
set_option linter.all false
/-! Pv6: the check that the small language says what the text says; what a reading promises. -/
namespace Pv
open PySem L2

/-- the static side of a block -/
structure Sg where
  N : List Str
  sc : Scope
  fn : Str → Bool
def Sg.blk (S : Sg) (scope : Scope) : Sg := ⟨S.N, relS scope S.sc, fun x => scope.names.lookup x == some .cell⟩

def visB (sc : Scope) (x : Str) : Bool := match sc.names.lookup x with | some .local => true | some .cell => true | some .free => true | _ => false
def glB (sc : Scope) (x : Str) : Bool := match sc.names.lookup x with | some .globalImplicit => true | _ => false
def locB (sc : Scope) (x : Str) : Bool := match sc.names.lookup x with | some .local => true | _ => false
def stB (S : Sg) (x : Str) : Bool := match S.sc.names.lookup x with | some .local => true | some .cell => S.fn x | _ => false
def nmB (x : Str) : Bool := !(x == ("__debug__" : Str)) && !(x == ("__classdict__" : Str)) && !(x == ("__name__" : Str))
def noStar : Expr → Bool | .Starred .. => false | _ => true
def noSw : Expr → Bool | .ListComp .. => false | .SetComp .. => false | .DictComp .. => false | _ => true
def noSet : Expr → Bool | .Set .. => false | _ => true
def noSl : Expr → Bool | .Slice .. => false | _ => true
def noCl : Expr → Bool | .Call .. => false | _ => true
def noTu : Expr → Bool | .Tuple .. => false | .List .. => false | _ => true
def b1Nm : B1 → Str
  | .len => "len" | .all => "all" | .any => "any" | .abs => "abs" | .int => "int" | .set => "set" | .sorted => "sorted"
  | .tuple => "tuple" | .list => "list" | .dict => "dict" | .repr => "repr"
def bnB (S : Sg) (bn : List Str) (x : Str) : Bool := glB S.sc x && nmB x && bn.contains x
def cnOf : Cn → Const
  | .non => .none | .bl b => .bool b | .int i => .int i | .str s => .str s
def tyB (t : String) : Bool := t == "int" || t == "bool" || t == "str" || t == "tuple"
def btKeys : List Str → List (Option Expr) → Bool
  | [], [] => true
  | k :: ks, some (.Constant (.str x) _ _) :: es => k == x && btKeys ks es
  | _, _ => false

def matNs (S : Sg) : List Nat → List Expr → Bool
  | [], [] => true
  | i :: is, .Name x _ :: es => S.N[i]? == some x && stB S x && matNs S is es
  | _, _ => false
def matTg (S : Sg) : Tg → Expr → Bool
  | .one i, .Name x _ => S.N[i]? == some x && stB S x
  | .tup is, .Tuple es _ _ => matNs S is es
  | _, _ => false
def tgIn (own : List Nat) : Tg → Bool
  | .one i => own.contains i
  | .tup is => is.all fun i => own.contains i
def isTupE : Expr → Bool | .Tuple .. => true | _ => false
def ownP (S : Sg) (own : List Nat) : List (Str × Nat) := own.map fun i => (S.N.getD i default, i)
def isRef : Expr → Bool | .Name .. => true | .Subscript .. => true | _ => false

mutual
def matE (S : Sg) (bn : List Str) : IE → Expr → Bool
  | .var i, e => match e with | .Name x _ => S.N[i]? == some x && visB S.sc x && nmB x | _ => false
  | .gl g, e => match e with | .Name x _ => x == g && glB S.sc x && nmB x | _ => false
  | .bt _, _ => false
  | .con c, e => match e with | .Constant k _ _ => decide (cnOf c = k) | _ => false
  | .neg a, e => match e with | .UnaryOp .USub x _ => matE S bn a x | _ => false
  | .not a, e => match e with | .UnaryOp .Not x _ => matE S bn a x | _ => false
  | .and a b, e => match e with
    | .BoolOp .And [x, y] _ => matE S bn a x && matE S bn b y
    | .BoolOp .And (x :: y :: z :: r) pos => matE S bn a x && matE S bn b (.BoolOp .And (y :: z :: r) pos)
    | _ => false
  | .or a b, e => match e with
    | .BoolOp .Or [x, y] _ => matE S bn a x && matE S bn b y
    | .BoolOp .Or (x :: y :: z :: r) pos => matE S bn a x && matE S bn b (.BoolOp .Or (y :: z :: r) pos)
    | _ => false
  | .ite c a b, e => match e with | .IfExp x y z _ => matE S bn c x && matE S bn a y && matE S bn b z | _ => false
  | .bin o a b, e => match e with | .BinOp x p y _ => decide (opOf o = p) && matE S bn a x && matE S bn b y | _ => false
  | .cmp o a b, e => match e with | .Compare x [p] [y] _ => decide (copOf o = p) && !behindInMarks p y && matE S bn a x && matE S bn b y | _ => false
  | .cmp2 o o' a b c, e => match e with
    | .Compare x [p, q] [y, z] _ => decide (copOf o = p) && decide (copOf o' = q) && !lastMarks [p, q] [y, z] && matE S bn a x && matE S bn b y && matE S bn c z
    | _ => false
  | .ix a i, e => match e with | .Subscript x y _ => noSl y && matE S bn a x && matE S bn i y | _ => false
  | .sl a lo hi, e => match e with | .Subscript x (.Slice l h none _) _ => matE S bn a x && matO S bn lo l && matO S bn hi h | _ => false
  | .tup es, e => match e with | .Tuple xs _ _ => matEs S bn true es xs | _ => false
  | .lst es, e => match e with | .List xs _ => matEs S bn true es xs | _ => false
  | .dct ks es, e => match e with | .Dict keys xs _ => btKeys ks keys && decide (ks.length ≤ 15) && !xs.isEmpty && decide (xs.length = ks.length) && matEs S bn false es xs | _ => false
  | .dct0, e => match e with | .Dict [] [] _ => true | _ => false
  | .call f es, e => match e with | .Call (.Name x _) xs [] _ => x == f && glB S.sc x && nmB x && matEs S bn false es xs | _ => false
  | .callV f es, e => match e with | .Call fe xs [] _ => isRef fe && matE S bn f fe && matEs S bn false es xs | _ => false
  | .b1 b a, e => match e with | .Call (.Name x _) [y] [] _ => x == b1Nm b && bnB S bn x && noStar y && matE S bn a y | _ => false
  | .isi a t, e => match e with
    | .Call (.Name x _) [y, .Name z _] [] _ => x == ("isinstance" : Str) && bnB S bn x && tyB t && z == (t : Str) && bnB S bn z && noStar y && matE S bn a y
    | _ => false
  | .lenset a, e => match e with
    | .Call (.Name x _) [.Call (.Name z _) [y] [] _] [] _ => x == ("len" : Str) && bnB S bn x && z == ("set" : Str) && bnB S bn z && noStar y && matE S bn a y
    | _ => false
  | .sortset a, e => match e with
    | .Call (.Name x _) [.Call (.Name z _) [y] [] _] [] _ => x == ("sorted" : Str) && bnB S bn x && z == ("set" : Str) && bnB S bn z && noStar y && matE S bn a y
    | _ => false
  | .split a, e => match e with | .Call (.Attribute x m ap) [] [] cp => m == ("split" : Str) && noCl x && (ap.endLine == cp.line) && matE S bn a x | _ => false
  | .app a b, e => match e with | .Call (.Attribute x m ap) [y] [] cp => m == ("append" : Str) && noCl x && (ap.endLine == cp.line) && noStar y && matE S bn a x && matE S bn b y | _ => false
  | .ext a b, e => match e with | .Call (.Attribute x m ap) [y] [] cp => m == ("extend" : Str) && noCl x && (ap.endLine == cp.line) && noStar y && matE S bn a x && matE S bn b y | _ => false
  | .upd a b, e => match e with | .Call (.Attribute x m ap) [y] [] cp => m == ("update" : Str) && noCl x && (ap.endLine == cp.line) && noStar y && matE S bn a x && matE S bn b y | _ => false
  | .lc a tg s own c, e => match e with
    | .ListComp elt [⟨t, it, ifs, k⟩] scope _ => decide (k = 0) && matS S bn tg s it && noSet it && blkC S.N S.sc scope (ownP S own) && matTg (S.blk scope) tg t && tgIn own tg &&
      matE (S.blk scope) bn a elt && (match ifs with | [] => matC (S.blk scope) bn c none | [i] => matC (S.blk scope) bn c (some i) | _ => false)
    | _ => false
def matEs (S : Sg) (bn : List Str) (st : Bool) : IEs → List Expr → Bool
  | .nil, xs => xs.isEmpty
  | .cons a es, xs => match xs with | x :: r => noStar x && matE S bn a x && matEs S bn st es r | [] => false
  | .star a es, xs => match xs with | .Starred x _ :: r => st && matE S bn a x && matEs S bn st es r | _ => false
def matO (S : Sg) (bn : List Str) : IO → Option Expr → Bool
  | .none, x => x.isNone
  | .some a, x => match x with | some e => matE S bn a e | none => false
def matC (S : Sg) (bn : List Str) : IO → Option Expr → Bool
  | .none, x => x.isNone
  | .some a, x => match x with | some e => matE S bn a e | none => false
def matS (S : Sg) (bn : List Str) (tg : Tg) : IS → Expr → Bool
  | .it a, e => matE S bn a e
  | .rng a, e => match e with | .Call (.Name x _) [y] [] _ => x == ("range" : Str) && bnB S bn x && noStar y && matE S bn a y | _ => false
  | .rng2 a b, e => match e with | .Call (.Name x _) [y, z] [] _ => x == ("range" : Str) && bnB S bn x && noStar y && noStar z && matE S bn a y && matE S bn b z | _ => false
  | .zip a b, e => match tg with
    | .tup _ => (match e with | .Call (.Name x _) [y, z] [] _ => x == ("zip" : Str) && bnB S bn x && noStar y && noStar z && matE S bn a y && matE S bn b z | _ => false)
    | .one _ => false
  | .enum a, e => match tg with
    | .tup _ => (match e with | .Call (.Name x _) [y] [] _ => x == ("enumerate" : Str) && bnB S bn x && noStar y && matE S bn a y | _ => false)
    | .one _ => false
end

def isLC : Expr → Bool | .ListComp .. => true | _ => false
def lcOk (sc : Scope) (x : Str) (px : Pos) : Expr → Bool
  | .ListComp _ _ scope pos => (match sc.kind with | .function => true | _ => false) && locB sc x && (px.line == pos.line) && !(scope.names.any fun (n, k) => n == x && (k == .local || k == .cell))
  | _ => false

mutual
def matT (S : Sg) (bn : List Str) : IT → Stmt → Bool
  | .asg i a, t => match t with | .Assign [.Name x px] v _ => S.N[i]? == some x && stB S x && (noSw v || lcOk S.sc x px v) && matE S bn a v | _ => false
  | .asgT is a, t => match t with | .Assign [.Tuple es _ _] v _ => noSw v && noTu v && matNs S is es && matE S bn a v | _ => false
  | .sub o i a, t => match t with | .Assign [.Subscript oe ie _] v _ => noSw v && noSl ie && matE S bn o oe && matE S bn i ie && matE S bn a v | _ => false
  | .aug i b a, t => match t with | .AugAssign (.Name x _) op v _ => S.N[i]? == some x && stB S x && decide (opOf b = op) && decide (b ≠ .pow) && matE S bn a v | _ => false
  | .augS o i b a, t => match t with | .AugAssign (.Subscript oe ie _) op v _ => noSl ie && decide (opOf b = op) && decide (b ≠ .pow) && matE S bn o oe && matE S bn i ie && matE S bn a v | _ => false
  | .exp a, t => match t with | .Expr v _ => noSw v && matE S bn a v | _ => false
  | .ret a, t => match t with | .Return (some v) _ => matE S bn a v | _ => false
  | .ret0, t => match t with | .Return none _ => true | _ => false
  | .ite c a b, t => match t with | .If x y z _ => matE S bn c x && matTs S bn a y && matTs S bn b z | _ => false
  | .fr tg s b, t => match t with | .For x it y [] _ => matTg S tg x && noSet it && matS S bn tg s it && matTs S bn b y | _ => false
  | .wh c b, t => match t with | .While x y [] _ => matE S bn c x && matTs S bn b y | _ => false
  | .brk, t => match t with | .Break _ => true | _ => false
  | .cnt, t => match t with | .Continue _ => true | _ => false
  | .pass, t => match t with | .Pass _ => true | _ => false
def matTs (S : Sg) (bn : List Str) : ITs → List Stmt → Bool
  | .nil, ts => ts.isEmpty
  | .cons a r, ts => match ts with | t :: u => matT S bn a t && matTs S bn r u | [] => false
end
end Pv

end
section
set_option Elab.async false
set_option maxRecDepth 100000
set_option maxHeartbeats 4000000
set_option autoImplicit false
set_option linter.all false
/-! Pv7: what a reading promises; the context. -/
namespace Pv
open PySem L2

def SR (g : Gd) (m : List Addr) (H : Hp) (ρ : PEnv) (σ : St) : Prop :=
  ρ.length = σ.length ∧ ∀ (i : Nat) (x : PV), ρ[i]? = some (some x) → ∃ v, σ[i]? = some (some v) ∧ VR g m H x v

/-- the two sides at a point -/
structure At (g : Gd) (m : List Addr) (h : PH) (H : Hp) (ρ : PEnv) (σ : St) : Prop where
  hr : HR g m h H
  sr : SR g m H ρ σ

def KT (g : Gd) (m : List Addr) (H : Hp) (h' : PH) (b : Bool) (Q : Bool → Hp → Prop) : Prop := ∀ m' H', Ext m H m' H' → HR g m' h' H' → Q b H'
def KA (g : Gd) (m : List Addr) (H : Hp) (h' : PH) (vs : List PV) (Q : List V → Hp → Prop) : Prop := ∀ vs' m' H', Ext m H m' H' → HR g m' h' H' → VRs g m' H' vs vs' → Q vs' H'
def KO (g : Gd) (m : List Addr) (H : Hp) (h' : PH) (Q : Hp → Prop) : Prop := ∀ m' H', Ext m H m' H' → HR g m' h' H' → Q H'
def KS (g : Gd) (m : List Addr) (H : Hp) (h' : PH) (ρ : PEnv) (Q : St → Hp → Prop) : Prop := ∀ σ' m' H', Ext m H m' H' → At g m' h' H' ρ σ' → Q σ' H'
def KF (g : Gd) (m : List Addr) (H : Hp) (h' : PH) (f : Fl) (D : Ends) : Prop := match f with
  | .nx ρ => KS g m H h' ρ D.nx
  | .rt v => Kt g m H h' v D.rt
  | .bk ρ => KS g m H h' ρ D.bk
  | .ct ρ => KS g m H h' ρ D.ct

abbrev PF (α : Type) := PEnv → PH → Option (α × PH)
def pE (g : Gd) (f : PF PV) : TE := fun σ H Q => ∃ m h ρ v h', At g m h H ρ σ ∧ f ρ h = some (v, h') ∧ Kt g m H h' v Q
def pT (g : Gd) (f : PF PV) : TT := fun σ H Q => ∃ m h ρ b h', At g m h H ρ σ ∧ bool? (f ρ h) = some (b, h') ∧ KT g m H h' b Q
def pA (g : Gd) (f : PF (List PV)) : TA := fun σ H Q => ∃ m h ρ vs h', At g m h H ρ σ ∧ f ρ h = some (vs, h') ∧ KA g m H h' vs Q
def pO (g : Gd) (f : PF (Option Int)) : TO := fun σ H Q => ∃ m h ρ v h', At g m h H ρ σ ∧ f ρ h = some (v, h') ∧ KO g m H h' (Q v)
def pS (g : Gd) (f : PF Fl) : TS := fun D σ H => ∃ m h ρ v h', At g m h H ρ σ ∧ f ρ h = some (v, h') ∧ KF g m H h' v D

/-- a call's end, where no exception leaves -/
def CN (outer : List Env) (P : Program) (w : World) (H : Hp) (s : Shared) (Q : VK) (r : Result) (s' : Shared) : Prop := match r with
  | .ok (.ret u) => CE outer P w H s Q u s'
  | _ => False
/-- a call of the def at a, by values -/
def FnC (g : Gd) (call : List PV → PH → Option (PV × PH)) (P : Program) (w : World) (mg : Str → Option Value) (base : Heap) (A : Around) (a : Addr) : Prop :=
  ∀ (outer : List Env) (s : Shared) (H : Hp) (us : List Value) (vs : List V) (m : List Addr) (h : PH) (pvs : List PV) (v : PV) (h' : PH) (Q : VK),
    Env0 P w g.K mg base A outer s H → Vals vs us → HR g m h H → VRs g m H pvs vs → call pvs h = some (v, h') → Kt g m H h' v Q →
      codeAny (model P w) A (.call (.ref a) ⟨us, []⟩) (CN outer P w H s Q) s

structure Ok (g : Gd) (C : Cl) (bn : List Str) (S : Sg) (X : Cx) : Prop where
  v : Okv g X
  N : X.N = S.N
  nd : S.N.Nodup
  sc : X.env.scope = S.sc
  fn : ∀ x, S.fn x = true → X.fn x = true
  xe : X.xe = fun _ _ => False
  blt : ∀ x, bn.contains x = true → X.mg x = none
  gl : ∀ x u, C.gl x = some u → ∃ (v : V) (w : Value), X.mg x = some w ∧ RelV v w ∧ ∀ m H, VR g m H u v
  has : ∀ f vs h r, C.call f vs h = some r → ∃ a, g.fa f = some a
  fa : ∀ f a, g.fa f = some a → X.mg f = some (.ref a) ∧ PySem.W.keepIn X.K (.ref a) = true
  run : ∀ f a, g.fa f = some a → FnC g (C.call f) X.prog X.w X.mg X.base X.A a

section
variable {g : Gd} {C : Cl} {bn : List Str} {S : Sg} {X : Cx} {m m1 : List Addr} {h h1 h' : PH} {H H1 : Hp} {ρ : PEnv} {σ : St}

theorem SR.mono {m' : List Addr} {H' : Hp} (s : SR g m H ρ σ) (k : Kp g m H m' H') : SR g m' H' ρ σ :=
  ⟨s.1, fun i x e => let ⟨v, e1, r⟩ := s.2 i x e; ⟨v, e1, VR.mono k x v r⟩⟩
theorem At.to (a : At g m h H ρ σ) (x : Ext m H m1 H1) (r : HR g m1 h1 H1) : At g m1 h1 H1 ρ σ := ⟨r, a.sr.mono (x.kp a.hr)⟩
theorem SR.set {x : PV} {v : V} (s : SR g m H ρ σ) (i : Nat) (r : VR g m H x v) : SR g m H (ρ.set i (some x)) (σ.set i (some v)) := by
  refine ⟨by rw [List.length_set, List.length_set]; exact s.1, fun j y e => ?_⟩
  by_cases hj : i = j
  · subst hj
    by_cases hl : i < ρ.length
    · rw [List.getElem?_set_self hl] at e
      cases e
      exact ⟨v, List.getElem?_set_self (by rw [← s.1]; exact hl), r⟩
    · rw [List.getElem?_eq_none (by rw [List.length_set]; omega)] at e
      cases e
  · rw [List.getElem?_set_ne hj] at e ⊢
    exact s.2 j y e
theorem KT.ext {b : Bool} {Q : Bool → Hp → Prop} (k : KT g m H h' b Q) (x : Ext m H m1 H1) : KT g m1 H1 h' b Q := fun m' H' y r => k m' H' (x.then y) r
theorem KA.ext {b : List PV} {Q : List V → Hp → Prop} (k : KA g m H h' b Q) (x : Ext m H m1 H1) : KA g m1 H1 h' b Q := fun vs m' H' y r => k vs m' H' (x.then y) r
theorem KO.ext {Q : Hp → Prop} (k : KO g m H h' Q) (x : Ext m H m1 H1) : KO g m1 H1 h' Q := fun m' H' y r => k m' H' (x.then y) r
theorem KS.ext {ρ : PEnv} {Q : St → Hp → Prop} (k : KS g m H h' ρ Q) (x : Ext m H m1 H1) : KS g m1 H1 h' ρ Q := fun σ m' H' y r => k σ m' H' (x.then y) r
theorem KF.ext {f : Fl} {D : Ends} (k : KF g m H h' f D) (x : Ext m H m1 H1) : KF g m1 H1 h' f D := by
  cases f with
  | nx ρ => exact KS.ext (Q := D.nx) k x
  | rt v => exact Kt.ext (Q := D.rt) k x
  | bk ρ => exact KS.ext (Q := D.bk) k x
  | ct ρ => exact KS.ext (Q := D.ct) k x

theorem _root_.L2.PE.by {e : Expr} {t t' : TE} (p : PE X e t) (i : ∀ σ H Q, t' σ H Q → t σ H Q) : PE X e t' := ⟨fun pins s σ H Q I q => p.run pins s σ H Q I (i σ H Q q)⟩
theorem _root_.L2.PT.by {e : Expr} {t t' : TT} (p : PT X e t) (i : ∀ σ H Q, t' σ H Q → t σ H Q) : PT X e t' := ⟨fun pins s σ H Q I q => p.run pins s σ H Q I (i σ H Q q)⟩
theorem _root_.L2.PW.by {e : Expr} {t t' : TT} (p : PW X e t) (i : ∀ σ H Q, t' σ H Q → t σ H Q) : PW X e t' := ⟨fun wh pins s σ H Q I q => p.run wh pins s σ H Q I (i σ H Q q)⟩
theorem _root_.L2.PA.by {e : List Expr} {t t' : TA} (p : PA X e t) (i : ∀ σ H Q, t' σ H Q → t σ H Q) : PA X e t' := ⟨fun ps pins s σ H Q I q => p.run ps pins s σ H Q I (i σ H Q q)⟩
theorem POby {e : Option Expr} {t t' : TO} (p : L2.PO X e t) (i : ∀ σ H Q, t' σ H Q → t σ H Q) : L2.PO X e t' := ⟨fun pins s σ H Q I q => p.run pins s σ H Q I (i σ H Q q)⟩
theorem _root_.L2.PS.by {e : Stmt} {t t' : TS} (p : PS X e t) (i : ∀ D σ H, t' D σ H → t D σ H) : PS X e t' := ⟨fun pins s σ H D I q => p.run pins s σ H D I (i D σ H q)⟩
theorem _root_.L2.PSs.by {e : List Stmt} {t t' : TS} (p : PSs X e t) (i : ∀ D σ H, t' D σ H → t D σ H) : PSs X e t' := ⟨fun pins s σ H D I q => p.run pins s σ H D I (i D σ H q)⟩

theorem pE.mk {f : PF PV} {v : PV} {Q : VK} (a : At g m h H ρ σ) (e : f ρ h = some (v, h')) (k : Kt g m H h' v Q) : pE g f σ H Q := ⟨m, h, ρ, v, h', a, e, k⟩
theorem pT.mk {f : PF PV} {b : Bool} {Q : Bool → Hp → Prop} (a : At g m h H ρ σ) (e : bool? (f ρ h) = some (b, h')) (k : KT g m H h' b Q) : pT g f σ H Q := ⟨m, h, ρ, b, h', a, e, k⟩
theorem pA.mk {f : PF (List PV)} {v : List PV} {Q : List V → Hp → Prop} (a : At g m h H ρ σ) (e : f ρ h = some (v, h')) (k : KA g m H h' v Q) : pA g f σ H Q := ⟨m, h, ρ, v, h', a, e, k⟩
theorem pO.mk {f : PF (Option Int)} {v : Option Int} {Q : Option Int → Hp → Prop} (a : At g m h H ρ σ) (e : f ρ h = some (v, h')) (k : KO g m H h' (Q v)) : pO g f σ H Q := ⟨m, h, ρ, v, h', a, e, k⟩
theorem pS.mk {f : PF Fl} {v : Fl} {D : Ends} (a : At g m h H ρ σ) (e : f ρ h = some (v, h')) (k : KF g m H h' v D) : pS g f D σ H := ⟨m, h, ρ, v, h', a, e, k⟩

/-- a value of two values, by the pure side -/
def r2 (g : Gd) (pf : PH → PV → PV → Option (PV × PH)) : R2 := fun a b H Q => ∃ m h x y v h', HR g m h H ∧ VR g m H x a ∧ VR g m H y b ∧ pf h x y = some (v, h') ∧ Kt g m H h' v Q
theorem Op2.r {f : Value → Value → Sem Value} {pf : PH → PV → PV → Option (PV × PH)} (o : Op2 g X f pf) : OpR X f (r2 g pf) := by
  intro pins s σ H x y v u Q I rx ry ⟨m, h, px, py, pv, h', hr, vx, vy, e, k⟩
  exact o pins s σ H m h px py x y v u pv h' Q I rx ry hr vx vy e k
/-- two readings, then an operation -/
theorem tOp_in {fa fb : PF PV} {f : PF PV} {pf : PH → PV → PV → Option (PV × PH)} (hf : ∀ ρ h r, f ρ h = some r → ∃ x h1 y h2, fa ρ h = some (x, h1) ∧ fb ρ h1 = some (y, h2) ∧ pf h2 x y = some r)
    (σ : St) (H : Hp) (Q : VK) (q : pE g f σ H Q) : tOp (r2 g pf) (pE g fa) (pE g fb) σ H Q := by
  obtain ⟨m, h, ρ, v, h', a, e, k⟩ := q
  obtain ⟨x, h1, y, h2, e1, e2, e3⟩ := hf ρ h _ e
  refine .mk a e1 fun x' m1 H1 x1 r1 vx => ?_
  have a1 := a.to x1 r1
  refine .mk a1 e2 fun y' m2 H2 x2 r2 vy => ?_
  exact ⟨m2, h2, x, y, v, h', r2, VR.mono (x2.kp r1) _ _ vx, vy, e3, k.ext (x1.then x2)⟩

theorem Ok.kind (o : Ok g C bn S X) (x : Str) : X.env.kindOf x = S.sc.names.lookup x := by unfold Env.kindOf; rw [o.sc]
theorem Ok.vis (o : Ok g C bn S X) {x : Str} (hx : visB S.sc x = true) : Vis X.env.scope x := by
  unfold visB at hx
  rw [o.sc]
  split at hx
  · exact .inl (by assumption)
  · exact .inr (.inl (by assumption))
  · exact .inr (.inr (by assumption))
  · cases hx
theorem Ok.glo (o : Ok g C bn S X) {x : Str} (hx : glB S.sc x = true) : Gl X x := by
  unfold glB at hx
  unfold Gl
  rw [o.kind]
  split at hx
  · assumption
  · cases hx
theorem Ok.st (o : Ok g C bn S X) {x : Str} (hx : stB S x = true) : L2.Loc X.env.scope x ∧ (X.fn x = true ∨ X.env.scope.names.lookup x = some .local) := by
  unfold stB at hx
  rw [o.sc]
  unfold L2.Loc
  split at hx
  · exact ⟨.inl (by assumption), .inr (by assumption)⟩
  · exact ⟨.inr (by assumption), .inl (o.fn x hx)⟩
  · cases hx
theorem nm_d {x : Str} (h : nmB x = true) : (x == ("__debug__" : Str)) = false := by
  unfold nmB at h
  simp only [Bool.and_eq_true, Bool.not_eq_true'] at h
  exact h.1.1
theorem nm_c {x : Str} (h : nmB x = true) : (x == ("__classdict__" : Str)) = false := by
  unfold nmB at h
  simp only [Bool.and_eq_true, Bool.not_eq_true'] at h
  exact h.1.2
theorem nm_n {x : Str} (h : nmB x = true) : x ≠ "__name__" := by
  unfold nmB at h
  simp only [Bool.and_eq_true, Bool.not_eq_true'] at h
  exact fun e => by
    have := h.2
    rw [e] at this
    simp at this
theorem Ok.at (o : Ok g C bn S X) {x : Str} {i : Nat} (h : (S.N[i]? == some x) = true) : X.N[i]? = some x := by
  rw [o.N]; simpa using h
theorem Ok.ndX (o : Ok g C bn S X) : X.N.Nodup := by rw [o.N]; exact o.nd
theorem Ok.own (o : Ok g C bn S X) : PassesOwn (model X.prog X.w) X.A X.env X.xe := by rw [o.xe]; exact PassesOwn.never
theorem Ok.bl (o : Ok g C bn S X) {x : Str} (h : bnB S bn x = true) : Gl X x ∧ X.mg x = none ∧ nmB x = true := by
  unfold bnB at h
  simp only [Bool.and_eq_true] at h
  exact ⟨o.glo h.1.1, o.blt x h.2, h.1.2⟩

/-- a block of a comprehension -/
theorem Ok.blk (o : Ok g C bn S X) (s : Shared) (H : Hp) (scope : Scope) (cl : List (Str × Addr)) (Ca : Addr) (fp : List Addr) : Ok g C bn (S.blk scope) (X.blk s H scope (compEnvC scope cl Ca X.env) fp) where
  v := ⟨o.v.K, o.v.calm, o.v.un, o.v.gd⟩
  N := o.N
  nd := o.nd
  sc := by
    show relabel scope X.env = relS scope S.sc
    rw [← o.sc]
    rfl
  fn := fun _ h => h
  xe := rfl
  blt := o.blt
  gl := o.gl
  has := o.has
  fa := o.fa
  run := o.run
end
/-! ### what is new and not given back -/
section
variable {g : Gd} {m m' : List Addr} {h h' : PH} {H H' : Hp}
mutual
theorem VR.cut {n : Nat} : ∀ (x : PV) (v : V), x.bd n = true → VR g m H x v → VR g (m.take n) H x v
  | .non, _, _, r => r
  | .bl _, _, _, r => r
  | .int _, _, _, r => r
  | .str _, _, _, r => r
  | .ty _, _, _, r => r
  | .fn _, _, _, r => r
  | .ref p, v, b, r => by
    obtain ⟨a, e, rfl⟩ := r
    refine ⟨a, ?_, rfl⟩
    have hp : p < n := of_decide_eq_true b
    rw [List.getElem?_take_of_lt hp]
    exact e
  | .tup xs, v, b, r => by
    obtain ⟨a, vs, rfl, s, q⟩ := r
    exact ⟨a, vs, rfl, s, VRs.cutL xs vs b q⟩
  | .rol xs, v, b, r => by
    obtain ⟨a, vs, rfl, s, q⟩ := r
    exact ⟨a, vs, rfl, s, VRs.cutL xs vs b q⟩
theorem VRs.cutL {n : Nat} : ∀ (xs : List PV) (vs : List V), PV.bds n xs = true → VRs g m H xs vs → VRs g (m.take n) H xs vs
  | [], _, _, r => r
  | x :: xs, vs, b, r => by
    obtain ⟨v, vs', rfl, r1, r2⟩ := r
    have b' : (PV.bd n x && PV.bds n xs) = true := b
    rw [Bool.and_eq_true] at b'
    exact ⟨v, vs', rfl, VR.cut x v b'.1 r1, VRs.cutL xs vs' b'.2 r2⟩
end
theorem KR.cutL {n : Nat} : ∀ (xs : List (Key × PV)) (vs : List (Key × V)), PV.bds n (xs.map (·.2)) = true → KR g m H xs vs → KR g (m.take n) H xs vs
  | [], _, _, r => r
  | x :: xs, vs, b, r => by
    obtain ⟨v, vs', rfl, r1, r2⟩ := r
    have b' : (PV.bd n x.2 && PV.bds n (xs.map (·.2))) = true := b
    rw [Bool.and_eq_true] at b'
    exact ⟨v, vs', rfl, VR.cut _ v b'.1 r1, KR.cutL xs vs' b'.2 r2⟩
theorem HR.cut {n : Nat} (r : HR g m h H) (b : (h.take n).all (PO.bd n) = true) : HR g (m.take n) (h.take n) H := by
  refine ⟨by rw [List.length_take, List.length_take, r.len], r.nd.sublist (List.take_sublist _ _), fun p o a e ea => ?_⟩
  have hb : o.bd n = true := List.all_eq_true.mp b o (List.mem_of_getElem? e)
  have hp : p < n := by
    have := (List.getElem?_eq_some_iff.mp e).1
    rw [List.length_take] at this
    omega
  rw [List.getElem?_take_of_lt hp] at e ea
  have := r.ob p o a e ea
  cases o with
  | lst xs => obtain ⟨vs, q, rv⟩ := this; exact ⟨vs, q, VRs.cutL xs vs hb rv⟩
  | dct kvs => obtain ⟨ks, q, rv⟩ := this; exact ⟨ks, q, KR.cutL kvs ks hb rv⟩
  | set _ => exact this
theorem Ext.cut {n : Nat} (x : Ext m H m' H') (hn : n = m.length) : m'.take n = m ∧ Ext m H m H' := by
  obtain ⟨r, rfl⟩ := x.pre
  subst hn
  refine ⟨by simp, ⟨⟨[], by simp⟩, x.fr, fun a ha na => absurd ha na⟩⟩
theorem kt_trim {v : PV} {Q : VK} (hr : HR g m h H) (k : Kt g m H (trim h.length v h').2 (trim h.length v h').1 Q) : Kt g m H h' v Q := by
  unfold trim at k
  split at k
  · rename_i hb
    rw [Bool.and_eq_true] at hb
    intro v' m' H' x r rv
    obtain ⟨e, x2⟩ := x.cut (n := h.length) hr.len.symm
    have r2 := r.cut (n := h.length) hb.2
    have rv2 := rv.cut (n := h.length) v v' hb.1
    rw [e] at r2 rv2
    exact k v' m H' x2 r2 rv2
  · exact k
theorem ko_trim {v : PV} {Q : Hp → Prop} (hr : HR g m h H) (k : KO g m H (trim h.length v h').2 Q) : KO g m H h' Q := by
  unfold trim at k
  split at k
  · rename_i hb
    rw [Bool.and_eq_true] at hb
    intro m' H' x r
    obtain ⟨e, x2⟩ := x.cut (n := h.length) hr.len.symm
    have r2 := r.cut (n := h.length) hb.2
    rw [e] at r2
    exact k m H' x2 r2
  · exact k
theorem trim_fst {n : Nat} {v : PV} {h : PH} : (trim n v h).1 = v := by
  unfold trim
  split <;> rfl
theorem pE_trim {f : PF PV} {σ : St} {Q : VK} (q : pE g (fun ρ h => tm h.length (f ρ h)) σ H Q) : pE g f σ H Q := by
  obtain ⟨m, h, ρ, v, h', a, e, k⟩ := q
  obtain ⟨r, e1, e2⟩ := Option.map_eq_some_iff.mp e
  obtain ⟨v1, h1⟩ := r
  refine .mk a e1 (kt_trim a.hr ?_)
  have e3 : trim h.length v1 h1 = (v, h') := e2
  rw [e3]
  exact k
theorem pe_tm {X : Cx} {e : Expr} {f f' : PF PV} (p : PE X e (pE g f)) (hf : ∀ ρ h, f' ρ h = tm h.length (f ρ h)) : PE X e (pE g f') := by
  have : f' = fun ρ h => tm h.length (f ρ h) := funext fun ρ => funext fun h => hf ρ h
  rw [this]
  exact p.by fun σ H Q q => pE_trim q
/-- .. of a truth -/
theorem pt_tm {X : Cx} {e : Expr} {f f' : PF PV} (p : PT X e (pT g f)) (hf : ∀ ρ h, f' ρ h = tm h.length (f ρ h)) (hb : ∀ ρ h v h', f ρ h = some (v, h') → ∃ b, v = .bl b) : PT X e (pT g f') := by
  refine p.by fun σ H Q ⟨m, h, ρ, b, h', a, e, k⟩ => ?_
  rw [hf] at e
  cases e1 : f ρ h with
  | none => rw [e1] at e; cases e
  | some r =>
    obtain ⟨v, h1⟩ := r
    obtain ⟨c, rfl⟩ := hb ρ h v h1 e1
    rw [e1] at e
    have e2 : bool? (some (trim h.length (.bl c) h1)) = some (b, h') := e
    have e3 : trim h.length (.bl c) h1 = (.bl c, (trim h.length (.bl c) h1).2) := Prod.ext trim_fst rfl
    rw [e3] at e2
    have e4 : some (c, (trim h.length (.bl c) h1).2) = some (b, h') := e2
    cases e4
    refine ⟨m, h, ρ, b, h1, a, by rw [e1]; rfl, ?_⟩
    exact ko_trim (Q := fun H' => Q b H') (v := .bl b) a.hr k
end
end Pv

end
section
set_option Elab.async false
set_option maxRecDepth 100000
set_option maxHeartbeats 4000000
set_option autoImplicit false
set_option linter.all false
/-! Pv8: expressions, one rule each. -/
namespace Pv
open PySem PySem.Spec PyProof.Rows L2
section
variable {g : Gd} {C : Cl} {bn : List Str} {S : Sg} {X : Cx} {pos : Pos}

/-- a value's truth from its reading -/
theorem pt_of {e : Expr} {f : PF PV} (o : Ok g C bn S X) (ha : PE X e (pE g f)) (he : ∀ whole, isTrue e X.env whole = (do let v ← whole; standAt e.pos; holding [v] (truthy v))) : PT X e (pT g f) := by
  refine (pt_truth ha he).by fun σ H Q q => ?_
  obtain ⟨m, h, ρ, b, h', a, e, k⟩ := q
  cases hf : f ρ h with
  | none => rw [hf] at e; cases e
  | some r =>
    obtain ⟨v, h1⟩ := r
    rw [hf] at e
    obtain ⟨c, e1, e2⟩ := Option.map_eq_some_iff.mp (show (truPV h1 v).map (fun b => (b, h1)) = some (b, h') from e)
    cases e2
    exact .mk a hf fun v' m1 H1 x1 r1 rv => ⟨b, tru_rel o.v r1 rv e1, k m1 H1 x1 r1⟩

theorem r_var {i : Nat} {x : Str} (o : Ok g C bn S X) (h1 : (S.N[i]? == some x) = true) (h2 : visB S.sc x = true) (h3 : nmB x = true) : PE X (.Name x pos) (pE g (evE C (.var i))) := by
  refine (pe_var (o.at h1) (o.vis h2) (nm_d h3) (nm_c h3)).by fun σ H Q q => ?_
  obtain ⟨m, h, ρ, v, h', a, e, k⟩ := q
  have e' : (match ρ[i]? with | some (some v) => some (v, h) | _ => none) = some (v, h') := by unfold evE at e; exact e
  split at e'
  · rename_i x' hx
    cases e'
    obtain ⟨w, e1, r⟩ := a.sr.2 i _ hx
    exact ⟨w, e1, k.here a.hr r⟩
  · cases e'
theorem r_gl {x : Str} (o : Ok g C bn S X) (h2 : glB S.sc x = true) (h3 : nmB x = true) : PE X (.Name x pos) (pE g (evE C (.gl x))) := by
  refine ⟨fun pins s σ H Q I q => ?_⟩
  obtain ⟨m, h, ρ, v, h', a, e, k⟩ := q
  have e' : (match C.gl x with | some v => some (v, h) | none => none) = some (v, h') := by unfold evE at e; exact e
  split at e'
  · rename_i u hu
    cases e'
    obtain ⟨v, w, e1, r, rv⟩ := o.gl x _ hu
    exact (pe_glob (pos := pos) (o.glo h2) e1 r (nm_d h3)).run pins s σ H Q I (k.here a.hr (rv m H))
  · cases e'
theorem r_con {c : Cn} {j : Nat} : PE X (.Constant (cnOf c) j pos) (pE g (evE C (.con c))) := by
  cases c with
  | non => exact pe_non.by fun σ H Q ⟨m, h, ρ, v, h', a, e, k⟩ => by unfold evE at e; cases e; exact k.here a.hr rfl
  | bl b => exact pe_bl.by fun σ H Q ⟨m, h, ρ, v, h', a, e, k⟩ => by unfold evE at e; cases e; exact k.here a.hr rfl
  | int b => exact pe_int.by fun σ H Q ⟨m, h, ρ, v, h', a, e, k⟩ => by unfold evE at e; cases e; exact k.here a.hr rfl
  | str b => exact pe_str.by fun σ H Q ⟨m, h, ρ, v, h', a, e, k⟩ => by unfold evE at e; cases e; exact k.here a.hr rfl

variable {a b c : IE} {x y z : Expr}
theorem r_neg (ha : PE X x (pE g (evE C a))) : PE X (.UnaryOp .USub x pos) (pE g (evE C (.neg a))) := by
  refine (pe_un un_neg ha).by fun σ H Q q => ?_
  obtain ⟨m, h, ρ, v, h', a', e, k⟩ := q
  unfold evE at e
  split at e
  · rename_i i h1 e1
    cases e
    exact .mk a' e1 fun v' m1 H1 x1 r1 rv => ⟨i, rv, k.ext x1 |>.here r1 rfl⟩
  · cases e
theorem r_not (o : Ok g C bn S X) (ha : PE X x (pE g (evE C a))) : PE X (.UnaryOp .Not x pos) (pE g (evE C (.not a))) := by
  refine ⟨fun pins s σ H Q I q => ?_⟩
  obtain ⟨m, h, ρ, v, h', a', e, k⟩ := q
  unfold evE at e
  split at e
  · rename_i w h1 e1
    obtain ⟨c, e2, e3⟩ := Option.map_eq_some_iff.mp e
    cases e3
    refine UnaryOp_ (thn (ha.run pins s σ H (fun v H' => TruV X.K v H' c ∧ Q (.bl (!c)) H') I (.mk a' e1 fun v' m1 H1 x1 r1 rv => ⟨tru_rel o.v r1 rv e2, (k.ext x1).here r1 rfl⟩)) fun v s1 ⟨w, H1, I1, r1, t1, q1⟩ => ?_)
    exact not_of (thn (tru_ok pins s1 σ H1 w v (fun b H' => Q (.bl (!b)) H') I1 r1 ⟨c, t1, q1⟩) fun b s2 ⟨H2, I2, q2⟩ => ⟨.bl (!b), H2, I2, rfl, q2⟩)
  · cases e
theorem t_not (ha : PT X x (pT g (evE C a))) : PT X (.UnaryOp .Not x pos) (pT g (evE C (.not a))) := by
  refine (pt_not ha).by fun σ H Q q => ?_
  obtain ⟨m, h, ρ, b, h', a', e, k⟩ := q
  unfold evE at e
  split at e
  · rename_i w h1 e1
    cases ht : truPV h1 w with
    | none => rw [ht] at e; cases e
    | some c =>
      rw [ht] at e
      cases e
      refine .mk (b := c) (h' := h') a' (by rw [e1]; show (truPV h' w).map _ = _; rw [ht] <;> rfl) fun m1 H1 x1 r1 => k m1 H1 x1 r1
  · cases e
theorem ev_and {ρ : PEnv} {h h' : PH} {v : PV} (e : evE C (.and a b) ρ h = some (v, h')) : (∃ h1, evE C a ρ h = some (.bl true, h1) ∧ evE C b ρ h1 = some (v, h')) ∨ (evE C a ρ h = some (.bl false, h') ∧ v = .bl false) := by
  unfold evE at e
  split at e
  · rename_i h1 e1; exact .inl ⟨h1, e1, e⟩
  · rename_i h1 e1; cases e; exact .inr ⟨e1, rfl⟩
  · cases e
theorem ev_or {ρ : PEnv} {h h' : PH} {v : PV} (e : evE C (.or a b) ρ h = some (v, h')) : (∃ h1, evE C a ρ h = some (.bl false, h1) ∧ evE C b ρ h1 = some (v, h')) ∨ (evE C a ρ h = some (.bl true, h') ∧ v = .bl true) := by
  unfold evE at e
  split at e
  · rename_i h1 e1; exact .inl ⟨h1, e1, e⟩
  · rename_i h1 e1; cases e; exact .inr ⟨e1, rfl⟩
  · cases e
theorem r_and {rest : List Expr} (ha : PE X x (pE g (evE C a))) (hb : PE X (.BoolOp .And (y :: rest) pos) (pE g (evE C b))) : PE X (.BoolOp .And (x :: y :: rest) pos) (pE g (evE C (.and a b))) := by
  refine (pe_and ha hb).by fun σ H Q q => ?_
  obtain ⟨m, h, ρ, v, h', a', e, k⟩ := q
  rcases ev_and e with ⟨h1, e1, e2⟩ | ⟨e1, rfl⟩
  · refine .mk a' e1 fun v' m1 H1 x1 r1 rv => ⟨true, rv, ?_⟩
    rw [if_pos rfl]
    exact .mk (a'.to x1 r1) e2 (k.ext x1)
  · refine .mk a' e1 fun v' m1 H1 x1 r1 rv => ⟨false, rv, ?_⟩
    rw [if_neg Bool.false_ne_true]
    exact (k.ext x1).here r1 rfl
theorem r_or {rest : List Expr} (ha : PE X x (pE g (evE C a))) (hb : PE X (.BoolOp .Or (y :: rest) pos) (pE g (evE C b))) : PE X (.BoolOp .Or (x :: y :: rest) pos) (pE g (evE C (.or a b))) := by
  refine (pe_or ha hb).by fun σ H Q q => ?_
  obtain ⟨m, h, ρ, v, h', a', e, k⟩ := q
  rcases ev_or e with ⟨h1, e1, e2⟩ | ⟨e1, rfl⟩
  · refine .mk a' e1 fun v' m1 H1 x1 r1 rv => ⟨false, rv, ?_⟩
    rw [if_neg Bool.false_ne_true]
    exact .mk (a'.to x1 r1) e2 (k.ext x1)
  · refine .mk a' e1 fun v' m1 H1 x1 r1 rv => ⟨true, rv, ?_⟩
    rw [if_pos rfl]
    exact (k.ext x1).here r1 rfl
theorem bool_bl {b : Bool} {h : PH} : bool? (some (.bl b, h)) = some (b, h) := rfl
theorem w_and {rest : List Expr} (ha : PT X x (pT g (evE C a))) (hb : PW X (.BoolOp .And (y :: rest) pos) (pT g (evE C b))) : PW X (.BoolOp .And (x :: y :: rest) pos) (pT g (evE C (.and a b))) := by
  refine (pw_and ha hb).by fun σ H Q q => ?_
  obtain ⟨m, h, ρ, c, h', a', e, k⟩ := q
  cases hf : evE C (.and a b) ρ h with
  | none => rw [hf] at e; cases e
  | some r =>
    obtain ⟨v, h2⟩ := r
    rw [hf] at e
    rcases ev_and hf with ⟨h1, e1, e2⟩ | ⟨e1, rfl⟩
    · refine .mk (b := true) (h' := h1) a' (by rw [e1]; rfl) fun m1 H1 x1 r1 => ?_
      rw [if_pos rfl]
      exact .mk (a'.to x1 r1) (by rw [e2]; exact e) (k.ext x1)
    · rw [bool_bl] at e
      cases e
      refine .mk (b := false) (h' := h') a' (by rw [e1]; rfl) fun m1 H1 x1 r1 => ?_
      rw [if_neg Bool.false_ne_true]
      exact k m1 H1 x1 r1
theorem w_or {rest : List Expr} (ha : PT X x (pT g (evE C a))) (hb : PW X (.BoolOp .Or (y :: rest) pos) (pT g (evE C b))) : PW X (.BoolOp .Or (x :: y :: rest) pos) (pT g (evE C (.or a b))) := by
  refine (pw_or ha hb).by fun σ H Q q => ?_
  obtain ⟨m, h, ρ, c, h', a', e, k⟩ := q
  cases hf : evE C (.or a b) ρ h with
  | none => rw [hf] at e; cases e
  | some r =>
    obtain ⟨v, h2⟩ := r
    rw [hf] at e
    rcases ev_or hf with ⟨h1, e1, e2⟩ | ⟨e1, rfl⟩
    · refine .mk (b := false) (h' := h1) a' (by rw [e1]; rfl) fun m1 H1 x1 r1 => ?_
      rw [if_neg Bool.false_ne_true]
      exact .mk (a'.to x1 r1) (by rw [e2]; exact e) (k.ext x1)
    · rw [bool_bl] at e
      cases e
      refine .mk (b := true) (h' := h') a' (by rw [e1]; rfl) fun m1 H1 x1 r1 => ?_
      rw [if_pos rfl]
      exact k m1 H1 x1 r1
theorem r_ite (hc : PT X x (pT g (evE C c))) (ha : PE X y (pE g (evE C a))) (hb : PE X z (pE g (evE C b))) : PE X (.IfExp x y z pos) (pE g (evE C (.ite c a b))) := by
  refine (pe_ifExp hc ha hb).by fun σ H Q q => ?_
  obtain ⟨m, h, ρ, v, h', a', e, k⟩ := q
  unfold evE at e
  split at e
  · rename_i h1 e1
    refine .mk a' e1 fun m1 H1 x1 r1 => ?_
    rw [if_pos rfl]
    exact .mk (a'.to x1 r1) e (k.ext x1)
  · rename_i h1 e1
    refine .mk a' e1 fun m1 H1 x1 r1 => ?_
    rw [if_neg Bool.false_ne_true]
    exact .mk (a'.to x1 r1) e (k.ext x1)
  · cases e
theorem t_ite (hc : PT X x (pT g (evE C c))) (ha : PT X y (pT g (evE C a))) (hb : PT X z (pT g (evE C b))) : PT X (.IfExp x y z pos) (pT g (evE C (.ite c a b))) := by
  refine ⟨fun pins s σ H Q I q => ?_⟩
  obtain ⟨m, h, ρ, v, h', a', e, k⟩ := q
  cases hc' : bool? (evE C c ρ h) with
  | none => unfold evE at e; rw [hc'] at e; cases e
  | some r =>
    obtain ⟨d, h1⟩ := r
    refine isTrue_IfExp (thn (hc.run pins s σ H (fun d H1 => if d = true then pT g (evE C a) σ H1 Q else pT g (evE C b) σ H1 Q) I (.mk a' hc' fun m1 H1 x1 r1 => ?_)) fun d' s1 ⟨H1, I1, q1⟩ => ?_)
    · unfold evE at e
      rw [hc'] at e
      cases d with
      | true => rw [if_pos rfl]; exact .mk (a'.to x1 r1) e (k.ext x1)
      | false => rw [if_neg Bool.false_ne_true]; exact .mk (a'.to x1 r1) e (k.ext x1)
    · cases d' with
      | true => rw [if_pos rfl] at q1; exact ha.run pins s1 σ H1 Q I1 q1
      | false => rw [if_neg Bool.false_ne_true] at q1; exact hb.run pins s1 σ H1 Q I1 q1

theorem ev2 {f : PF PV} {fa fb : PF PV} {pf : PH → PV → PV → Option (PV × PH)} (hf : ∀ ρ h, f ρ h = (match fa ρ h with | some (x, h) => (match fb ρ h with | some (y, h) => pf h x y | none => none) | none => none)) :
    ∀ ρ h r, f ρ h = some r → ∃ x h1 y h2, fa ρ h = some (x, h1) ∧ fb ρ h1 = some (y, h2) ∧ pf h2 x y = some r := by
  intro ρ h r e
  rw [hf] at e
  split at e
  · rename_i x h1 e1
    split at e
    · rename_i y h2 e2
      exact ⟨x, h1, y, h2, e1, e2, e⟩
    · cases e
  · cases e
theorem r_bin {o' : Bo} (o : Ok g C bn S X) (ha : PE X x (pE g (evE C a))) (hb : PE X y (pE g (evE C b))) : PE X (.BinOp x (opOf o') y pos) (pE g (evE C (.bin o' a b))) :=
  (pe_op (bin_ok o.v o').r ha hb).by (tOp_in (ev2 fun ρ h => by rw [evE] <;> rfl))
def cmpE (C : Cl) (o' : Co) (a b : IE) : PF PV := fun ρ h => (match evE C a ρ h with | some (x, h) => (match evE C b ρ h with | some (y, h) => cmpF o' h x y | none => none) | none => none)
theorem r_cmp {o' : Co} (o : Ok g C bn S X) (hm : behindInMarks (copOf o') y = false) (ha : PE X x (pE g (evE C a))) (hb : PE X y (pE g (evE C b))) : PE X (.Compare x [copOf o'] [y] pos) (pE g (evE C (.cmp o' a b))) :=
  pe_tm ((pe_cmpR (cmp_ok o.v o').r ha hb hm).by (tOp_in (f := cmpE C o' a b) (ev2 fun ρ h => rfl))) fun ρ h => by rw [evE] <;> rfl
theorem cmpE_bl {o' : Co} {ρ : PEnv} {h h' : PH} {v : PV} (e : cmpE C o' a b ρ h = some (v, h')) : ∃ d, v = .bl d := by
  obtain ⟨xv, h1, yv, h3, e1, e2, e3⟩ := ev2 (f := cmpE C o' a b) (fa := evE C a) (fb := evE C b) (pf := cmpF o') (fun ρ h => rfl) ρ h _ e
  obtain ⟨k0, e4, e5⟩ := Option.map_eq_some_iff.mp e3
  cases e5
  exact ⟨_, rfl⟩
theorem t_cmp {o' : Co} (o : Ok g C bn S X) (hm : behindInMarks (copOf o') y = false) (ha : PE X x (pE g (evE C a))) (hb : PE X y (pE g (evE C b))) : PT X (.Compare x [copOf o'] [y] pos) (pT g (evE C (.cmp o' a b))) := by
  refine pt_tm (f := cmpE C o' a b) ((pt_cmpR (cmp_ok o.v o').r ha hb hm).by fun σ H Q q => ?_) (fun ρ h => by rw [evE] <;> rfl) fun ρ h v h' e => cmpE_bl e
  obtain ⟨m, h, ρ, d, h', a', e, k⟩ := q
  cases hf : cmpE C o' a b ρ h with
  | none => rw [hf] at e; cases e
  | some r =>
    obtain ⟨v, h2⟩ := r
    obtain ⟨d', rfl⟩ := cmpE_bl hf
    rw [hf, bool_bl] at e
    cases e
    exact tOp_in (f := cmpE C o' a b) (ev2 fun ρ h => rfl) σ H _ (.mk a' hf fun v' m1 H1 x1 r1 rv => ⟨d, rv, k m1 H1 x1 r1⟩)
end
end Pv

end
section
set_option Elab.async false
set_option maxRecDepth 100000
set_option maxHeartbeats 4000000
set_option autoImplicit false
set_option linter.all false
/-! Pv9: chains, subscripts, displays, calls of built-ins, methods. -/
namespace Pv
open PySem PySem.Spec PyProof.Rows L2
section
variable {g : Gd} {C : Cl} {bn : List Str} {S : Sg} {X : Cx} {pos p1 p2 : Pos} {a b c : IE} {x y z : Expr}

/-! ### chains -/
theorem ev_cmp2 {o1 o2 : Co} {ρ : PEnv} {h h' : PH} {v : PV} (e : evE C (.cmp2 o1 o2 a b c) ρ h = some (v, h')) : ∃ u h1 w h2, evE C a ρ h = some (u, h1) ∧ evE C b ρ h1 = some (w, h2) ∧
    ((cmpPV o1 h2 u w = some true ∧ ∃ t, evE C c ρ h2 = some (t, h') ∧ ∃ k, cmpPV o2 h' w t = some k ∧ v = .bl k) ∨ (cmpPV o1 h2 u w = some false ∧ v = .bl false ∧ h' = h2)) := by
  unfold evE at e
  split at e
  · rename_i u h1 e1
    split at e
    · rename_i w h2 e2
      refine ⟨u, h1, w, h2, e1, e2, ?_⟩
      split at e
      · rename_i e3
        split at e
        · rename_i t h3 e4
          obtain ⟨k, e5, e6⟩ := Option.map_eq_some_iff.mp e
          cases e6
          exact .inl ⟨e3, t, e4, k, e5, rfl⟩
        · cases e
      · rename_i e3
        cases e
        exact .inr ⟨e3, rfl, rfl⟩
      · cases e
    · cases e
  · cases e
theorem chain_in {o1 o2 : Co} (σ : L2.St) (H : Hp) (Q : VK) (q : pE g (evE C (.cmp2 o1 o2 a b c)) σ H Q) : tChain (r2 g (cmpF o1)) (r2 g (cmpF o2)) (pE g (evE C a)) (pE g (evE C b)) (pE g (evE C c)) σ H Q := by
  obtain ⟨m, h, ρ, v, h', a', e, k⟩ := q
  obtain ⟨u, h1, w, h2, e1, e2, r⟩ := ev_cmp2 e
  refine .mk a' e1 fun x' m1 H1 x1 r1 vx => ?_
  have a1 := a'.to x1 r1
  refine .mk a1 e2 fun y' m2 H2 x2 r2 vy => ?_
  have a2 := a1.to x2 r2
  have vx2 := VR.mono (x2.kp r1) _ _ vx
  rcases r with ⟨e3, t, e4, j, e5, rfl⟩ | ⟨e3, rfl, rfl⟩
  · refine ⟨m2, h2, u, w, .bl true, h2, r2, vx2, vy, by unfold cmpF; rw [e3] <;> rfl, fun z' m3 H3 x3 r3 vz => ⟨true, vz, ?_⟩⟩
    rw [if_pos rfl]
    refine .mk (a2.to x3 r3) e4 fun t' m4 H4 x4 r4 vt => ?_
    exact ⟨m4, h', w, t, .bl j, h', r4, VR.mono (x4.kp r3) _ _ (VR.mono (x3.kp r2) _ _ vy), vt, by unfold cmpF; rw [e5] <;> rfl, k.ext (x1.then (x2.then (x3.then x4)))⟩
  · refine ⟨m2, h', u, w, .bl false, h', r2, vx2, vy, by unfold cmpF; rw [e3] <;> rfl, fun z' m3 H3 x3 r3 vz => ⟨false, vz, ?_⟩⟩
    rw [if_neg Bool.false_ne_true]
    exact (k.ext (x1.then (x2.then x3))).here r3 rfl
theorem r_cmp2 {o1 o2 : Co} (o : Ok g C bn S X) (hm : lastMarks [copOf o1, copOf o2] [y, z] = false) (ha : PE X x (pE g (evE C a))) (hb : PE X y (pE g (evE C b))) (hc : PE X z (pE g (evE C c))) :
    PE X (.Compare x [copOf o1, copOf o2] [y, z] pos) (pE g (evE C (.cmp2 o1 o2 a b c))) :=
  (pe_chain (cmp_ok o.v o1).r (cmp_ok o.v o2).r ha hb hc hm).by chain_in
theorem t_cmp2 {o1 o2 : Co} (o : Ok g C bn S X) (hm : lastMarks [copOf o1, copOf o2] [y, z] = false) (ha : PE X x (pE g (evE C a))) (hb : PE X y (pE g (evE C b))) (hc : PE X z (pE g (evE C c))) :
    PT X (.Compare x [copOf o1, copOf o2] [y, z] pos) (pT g (evE C (.cmp2 o1 o2 a b c))) := by
  refine (pt_chain (cmp_ok o.v o1).r (cmp_ok o.v o2).r ha hb hc hm).by fun σ H Q q => ?_
  obtain ⟨m, h, ρ, d, h', a', e, k⟩ := q
  cases hf : evE C (.cmp2 o1 o2 a b c) ρ h with
  | none => rw [hf] at e; cases e
  | some r =>
    obtain ⟨v, h2⟩ := r
    have hv : v = .bl d ∧ h2 = h' := by
      obtain ⟨_, _, _, _, _, _, r⟩ := ev_cmp2 hf
      rcases r with ⟨_, _, _, j, _, rfl⟩ | ⟨_, rfl, _⟩
      · rw [hf, bool_bl] at e; cases e; exact ⟨rfl, rfl⟩
      · rw [hf, bool_bl] at e; cases e; exact ⟨rfl, rfl⟩
    obtain ⟨rfl, rfl⟩ := hv
    exact chain_in σ H _ (.mk a' hf fun v' m1 H1 x1 r1 rv => ⟨d, rv, k m1 H1 x1 r1⟩)

/-! ### subscripts -/
def ixF (h : PH) (x y : PV) : Option (PV × PH) := (ixPV h x y).map fun v => (v, h)
theorem ixr (o : Okv g X) : IxR X (r2 g ixF) := by
  intro value slice pins s σ H x y v u Q I rx ry ⟨m, h, px, py, pv, h', hr, vx, vy, e, k⟩ hs
  obtain ⟨w, e1, e2⟩ := Option.map_eq_some_iff.mp e
  cases e2
  obtain ⟨r, hr', q⟩ := ix_ok o hr vx vy e1 k
  exact hr' value slice pins s σ H x y v u Q I rx ry q hs
theorem plain_ix (hy : noSl y = true) : PlainIx y := by
  intro o i
  cases y <;> first | rfl | cases hy
theorem r_ix (o : Ok g C bn S X) (hy : noSl y = true) (ha : PE X x (pE g (evE C a))) (hb : PE X y (pE g (evE C b))) : PE X (.Subscript x y pos) (pE g (evE C (.ix a b))) :=
  (pe_ix (ixr o.v) ha hb (plain_ix hy)).by (tOp_in (ev2 fun ρ h => by rw [evE] <;> rfl))

theorem slr (o : Okv g X) : SlR X (fun a lo hi H Q => ∃ m h x v h', HR g m h H ∧ VR g m H x a ∧ slPV h x lo hi = some (v, h') ∧ Kt g m H h' v Q) := by
  intro pins s σ H x v vl vu lo hi sl Q I rx hs pl pu ⟨m, h, px, pv, h', hr, vx, e, k⟩
  obtain ⟨r, hr', q⟩ := sl_ok o hr vx e k
  exact hr' pins s σ H x v vl vu lo hi sl Q I rx hs pl pu q
theorem o_none : L2.PO X none (pO g (evO C .none)) := POby po_none fun σ H Q ⟨m, h, ρ, v, h', a, e, k⟩ => by
  unfold evO at e
  cases e
  exact k m H .refl a.hr
theorem o_some (ha : PE X x (pE g (evE C a))) : L2.PO X (some x) (pO g (evO C (.some a))) := POby (po_some ha) fun σ H Q ⟨m, h, ρ, v, h', a', e, k⟩ => by
  unfold evO at e
  split at e
  · rename_i i h1 e1
    cases e
    exact .mk a' e1 fun v' m1 H1 x1 r1 rv => ⟨i, rv, k m1 H1 x1 r1⟩
  · cases e
theorem r_sl {lo hi : IO} {l u : Option Expr} (o : Ok g C bn S X) (ha : PE X x (pE g (evE C a))) (hl : L2.PO X l (pO g (evO C lo))) (hu : L2.PO X u (pO g (evO C hi))) : PE X (.Subscript x (.Slice l u none p2) pos) (pE g (evE C (.sl a lo hi))) := by
  refine (pe_slice (slr o.v) ha hl hu).by fun σ H Q q => ?_
  obtain ⟨m, h, ρ, v, h', a', e, k⟩ := q
  unfold evE at e
  split at e
  · rename_i w h1 e1
    split at e
    · rename_i i h2 e2
      split at e
      · rename_i j h3 e3
        refine .mk a' e1 fun x' m1 H1 x1 r1 vx => ?_
        have a1 := a'.to x1 r1
        refine .mk a1 e2 fun m2 H2 x2 r2 => ?_
        have a2 := a1.to x2 r2
        refine .mk a2 e3 fun m3 H3 x3 r3 => ?_
        exact ⟨m3, h3, w, v, h', r3, VR.mono (x3.kp r2) _ _ (VR.mono (x2.kp r1) _ _ vx), e, k.ext (x1.then (x2.then x3))⟩
      · cases e
    · cases e
  · cases e

/-! ### argument lists, displays -/
theorem star_cons {env : Env} {e : Expr} {es : List Expr} (h : noStar e = true) : starEach (e :: es) env = (false, eval e env) :: starEach es env := by
  cases e <;> first | rfl | cases h
theorem a_nil : PA X [] (pA g (evEs C .nil)) := pa_nil.by fun σ H Q ⟨m, h, ρ, v, h', a, e, k⟩ => by
  unfold evEs at e
  cases e
  exact k [] m H .refl a.hr rfl
theorem a_cons {es : IEs} {xs : List Expr} (hs : noStar x = true) (ha : PE X x (pE g (evE C a))) (hb : PA X xs (pA g (evEs C es))) : PA X (x :: xs) (pA g (evEs C (.cons a es))) := by
  refine (pa_cons ha hb (star_cons hs)).by fun σ H Q ⟨m, h, ρ, v, h', a', e, k⟩ => ?_
  unfold evEs at e
  split at e
  · rename_i w h1 e1
    split at e
    · rename_i ws h2 e2
      cases e
      refine .mk a' e1 fun x' m1 H1 x1 r1 vx => ?_
      refine .mk (a'.to x1 r1) e2 fun ys m2 H2 x2 r2 vs => ?_
      exact k _ m2 H2 (x1.then x2) r2 ⟨x', ys, rfl, VR.mono (x2.kp r1) _ _ vx, vs⟩
    · cases e
  · cases e
theorem seq_rel (o : Okv g X) {m : List Addr} {h : PH} {H : Hp} {v : PV} {w : V} {xs : List PV} (hr : HR g m h H) (r : VR g m H v w) (e : seqOf h v = some xs) : ∃ p vs, w = .ref p ∧ (SqT X.K H p vs ∨ SqL X.K H p vs) ∧ VRs g m H xs vs := by
  cases v with
  | tup ys =>
    cases e
    obtain ⟨p, vs, rfl, s, rv⟩ := r
    exact ⟨p, vs, rfl, .inl (by rw [o.K]; exact s), rv⟩
  | ref q =>
    obtain ⟨p, vs, m1, h1, rv, _⟩ := hr.ls (show PH.ls h q = some xs from e)
    exact ⟨p, vs, r.ref_eq m1, .inr (.of h1), rv⟩
  | _ => cases e
theorem a_star {es : IEs} {xs : List Expr} (o : Ok g C bn S X) (ha : PE X x (pE g (evE C a))) (hb : PA X xs (pA g (evEs C es))) : PA X (.Starred x pos :: xs) (pA g (evEs C (.star a es))) := by
  refine (StX.pa_star ha hb (by rfl)).by fun σ H Q ⟨m, h, ρ, v, h', a', e, k⟩ => ?_
  unfold evEs at e
  split at e
  · rename_i w h1 e1
    split at e
    · rename_i ys e0
      split at e
      · rename_i ws h2 e2
        cases e
        refine .mk a' e1 fun x' m1 H1 x1 r1 vx => ?_
        obtain ⟨p, vs, rfl, s, rv⟩ := seq_rel o.v r1 vx e0
        refine ⟨p, vs, rfl, s, ?_⟩
        refine .mk (a'.to x1 r1) e2 fun zs m2 H2 x2 r2 vs2 => ?_
        exact k _ m2 H2 (x1.then x2) r2 ((VRs.mono (x2.kp r1) _ _ rv).app vs2)
      · cases e
    · cases e
  · cases e
theorem r_tup {es : IEs} {xs : List Expr} {j : Nat} (h : PA X xs (pA g (evEs C es))) : PE X (.Tuple xs j pos) (pE g (evE C (.tup es))) := by
  refine (pe_tup h).by fun σ H Q ⟨m, h, ρ, v, h', a', e, k⟩ => ?_
  unfold evE at e
  split at e
  · rename_i ws h1 e1
    split at e
    · rename_i hz
      cases e
      refine .mk a' e1 fun vs m1 H1 x1 r1 rv => ⟨by rw [rv.len, ← SZ_eq]; exact hz, fun p hp => (k.ext x1).tup r1 rv hp⟩
    · cases e
  · cases e
theorem r_lst {es : IEs} {xs : List Expr} (h : PA X xs (pA g (evEs C es))) : PE X (.List xs pos) (pE g (evE C (.lst es))) := by
  refine (pe_lst h).by fun σ H Q ⟨m, h, ρ, v, h', a', e, k⟩ => ?_
  unfold evE at e
  split at e
  · rename_i ws h1 e1
    split at e
    · rename_i hz
      cases e
      refine .mk a' e1 fun vs m1 H1 x1 r1 rv => ⟨by rw [rv.len, ← SZ_eq]; exact hz, fun p hp => (k.ext x1).lst r1 rv hp⟩
    · cases e
  · cases e

theorem r_dct0 : PE X (.Dict [] [] pos) (pE g (evE C .dct0)) := pe_dnewK.by fun σ H Q ⟨m, h, ρ, v, h', a', e, k⟩ => by
  unfold evE at e
  cases e
  exact fun p hp => k.dct a'.hr (xs := []) (vs := []) rfl hp
/-! ### an object that is not yet one of ours -/
def era (H : Hp) (p : Addr) : Hp := fun a => if a = p then none else H a
theorem era_ne {H : Hp} {p q : Addr} (h : q ≠ p) : era H p q = H q := by unfold era; rw [if_neg h]
theorem era_same {H : Hp} {p : Addr} : era H p p = none := by unfold era; rw [if_pos rfl]
theorem era_some {H : Hp} {p q : Addr} {o : HO} (h : era H p q = some o) : q ≠ p ∧ H q = some o := by
  by_cases e : q = p
  · subst e; rw [era_same] at h; cases h
  · rw [era_ne e] at h; exact ⟨e, h⟩
theorem upd_era {H : Hp} {p : Addr} {o : HO} : upd (era H p) p o = upd H p o := by
  funext b
  by_cases e : b = p
  · subst e; rw [upd_same, upd_same]
  · rw [upd_ne e, upd_ne e, era_ne e]
theorem era_upd {H : Hp} {p : Addr} {o : HO} (hn : H p = none) : era (upd H p o) p = H := by
  funext b
  by_cases e : b = p
  · subst e; rw [era_same, hn]
  · rw [era_ne e, upd_ne e]
def Loose (o : HO) : Prop := (∀ ys, o ≠ .tup ys) ∧ ∀ ob u, o ≠ .frz ob u
section
variable {m m1 m2 : List Addr} {h h1 h2 : PH} {H H1 H2 : Hp} {p : Addr} {o : HO}
theorem HR.lay (r : HR g m h H) (hn : H p = none) : HR g m h (upd H p o) ∧ Ext m H m (upd H p o) := by
  have na : p ∉ m := r.free hn
  have ex : Ext m H m (upd H p o) := by
    refine ⟨⟨[], by simp⟩, fun b ob e _ => ?_, fun b hb nb => absurd hb nb⟩
    rw [upd_ne (ne_of_none e hn)]; exact e
  exact ⟨⟨r.len, r.nd, fun q ob b e eb => (r.ob q ob b e eb).mono (ex.kp r) (upd_ne fun z => na (by rw [← z]; exact List.mem_of_getElem? eb))⟩, ex⟩
/-- the tuples are the same without it -/
theorem kp_era (e : H p = some o) (lo : Loose o) : Kp g m H m (era H p) := by
  refine ⟨⟨[], by simp⟩, fun a vs s => ?_, fun a vs s => ?_⟩
  · rcases s with z | z
    · refine .inl ?_
      have ne : a ≠ p := fun q => by
        subst q
        rcases z with z | ⟨ob, z⟩
        · rw [e] at z; cases z; exact lo.1 vs rfl
        · rw [e] at z; cases z; exact lo.2 ob _ rfl
      rcases z with z | ⟨ob, z⟩
      · exact .inl (by rw [era_ne ne]; exact z)
      · exact .inr ⟨ob, by rw [era_ne ne]; exact z⟩
    · exact .inr z
  · rcases s with ⟨ob, z⟩ | z
    · have ne : a ≠ p := fun q => by
        subst q
        rw [e] at z; cases z; exact lo.2 ob _ rfl
      exact .inl ⟨ob, by rw [era_ne ne]; exact z⟩
    · exact .inr z
theorem kp_unera : Kp g m (era H p) m H := by
  refine ⟨⟨[], by simp⟩, fun a vs s => ?_, fun a vs s => ?_⟩
  · rcases s with z | z
    · refine .inl ?_
      rcases z with z | ⟨ob, z⟩
      · exact .inl (era_some z).2
      · exact .inr ⟨ob, (era_some z).2⟩
    · exact .inr z
  · rcases s with ⟨ob, z⟩ | z
    · exact .inl ⟨ob, (era_some z).2⟩
    · exact .inr z
theorem HR.era (r : HR g m h H) (np : p ∉ m) (e : H p = some o) (lo : Loose o) : HR g m h (Pv.era H p) :=
  ⟨r.len, r.nd, fun q ob b e1 eb => (r.ob q ob b e1 eb).mono (kp_era e lo) (era_ne fun z => np (by rw [← z]; exact List.mem_of_getElem? eb))⟩
theorem HR.unera (r : HR g m h (Pv.era H p)) (np : p ∉ m) : HR g m h H :=
  ⟨r.len, r.nd, fun q ob b e1 eb => (r.ob q ob b e1 eb).mono kp_unera (era_ne fun z => np (by rw [← z]; exact List.mem_of_getElem? eb)).symm⟩
theorem Ext.era (x : Ext m H1 m2 H2) : Ext m (Pv.era H1 p) m2 (Pv.era H2 p) := by
  refine ⟨x.pre, fun a ob e na => ?_, fun a ha na => ?_⟩
  · obtain ⟨ne, e1⟩ := era_some e
    rw [era_ne ne]
    exact x.fr a ob e1 na
  · by_cases ne : a = p
    · subst ne; exact era_same
    · rw [era_ne ne]; exact x.nw a ha na
theorem Ext.stays (x : Ext m H1 m2 H2) (np : p ∉ m) (e : H1 p = some o) : p ∉ m2 ∧ H2 p = some o := by
  refine ⟨fun z => ?_, x.fr p o e np⟩
  have := x.nw p z np
  rw [e] at this; cases this
end

/-! ### {k: v, ..} -/
def trs (g : Gd) (C : Cl) : List Str → IEs → List (TE × TE)
  | k :: ks, .cons a es => (tC (.str k), pE g (evE C a)) :: trs g C ks es
  | _, _ => []
def IEs.flat : IEs → Bool
  | .nil => true
  | .cons _ r => r.flat
  | .star _ _ => false
theorem mat_flat : ∀ {es : IEs} {xs : List Expr}, matEs S bn false es xs = true → es.flat = true
  | .nil, _, _ => rfl
  | .cons _ r, [], h => by unfold matEs at h; cases h
  | .cons _ r, x :: xs, h => by
    unfold matEs at h
    simp only [Bool.and_eq_true] at h
    show IEs.flat r = true
    exact mat_flat h.2
  | .star _ _, xs, h => by
    unfold matEs at h
    split at h
    · simp at h
    · cases h
theorem pairs_in : ∀ {ks : List Str} {es : IEs} {ρ : PEnv} {m : List Addr} {h h' : PH} {H : Hp} {σ : L2.St} {vs : List PV} {R : List (V × V) → Hp → Prop}, es.flat = true → At g m h H ρ σ → evEs C es ρ h = some (vs, h') → ks.length = vs.length →
    (∀ vs' m' H', Ext m H m' H' → HR g m' h' H' → VRs g m' H' vs vs' → R ((ks.map V.str).zip vs') H') → tPairs (trs g C ks es) σ H R
  | [], .nil, ρ, m, h, h', H, σ, vs, R, _, a, e, hl, k => by
    unfold evEs at e
    cases e
    exact k [] m H .refl a.hr rfl
  | [], .cons _ _, ρ, m, h, h', H, σ, vs, R, _, a, e, hl, k => by
    unfold evEs at e
    split at e
    · split at e
      · cases e; simp at hl
      · cases e
    · cases e
  | k0 :: ks, .nil, ρ, m, h, h', H, σ, vs, R, _, a, e, hl, k => by
    unfold evEs at e
    cases e
    simp at hl
  | k0 :: ks, .cons a0 es, ρ, m, h, h', H, σ, vs, R, fl, a, e, hl, k => by
    unfold evEs at e
    split at e
    · rename_i w h1 e1
      split at e
      · rename_i ws h2 e2
        cases e
        refine .mk a e1 fun x' m1 H1 x1 r1 vx => ?_
        refine pairs_in fl (a.to x1 r1) e2 (by simpa using hl) fun vs' m' H' x2 r2 rv => ?_
        exact k (x' :: vs') m' H' (x1.then x2) r2 ⟨x', vs', rfl, VR.mono (x2.kp r1) _ _ vx, rv⟩
      · cases e
    · cases e
theorem kr_zip {m : List Addr} {H : Hp} : ∀ {ks : List Str} {vs : List PV} {ws : List V}, ks.length = vs.length → VRs g m H vs ws → KR g m H ((ks.map Sum.inr).zip vs) ((ks.map Sum.inr).zip ws)
  | [], vs, ws, _, r => by
    rw [List.map_nil, List.zip_nil_left, List.zip_nil_left]; rfl
  | k :: ks, [], _, e, _ => by simp at e
  | k :: ks, v :: vs, _, e, r => by
    obtain ⟨w, ws, rfl, a, b⟩ := r
    rw [List.map_cons, List.zip_cons_cons, List.zip_cons_cons]
    exact ⟨w, _, rfl, a, kr_zip (by simpa using e) b⟩
theorem zip_kV : ∀ {ks : List Str} {ws : List V}, (ks.map V.str).zip ws = (((ks.map Sum.inr).zip ws : List (Key × V)).map fun kv => (kV kv.1, kv.2))
  | [], ws => by simp
  | k :: ks, [] => by simp
  | k :: ks, w :: ws => by
    rw [List.map_cons, List.map_cons, List.zip_cons_cons, List.zip_cons_cons, List.map_cons, zip_kV]
    rfl
theorem r_dct {ks : List Str} {es : IEs} {keys : List (Option Expr)} {xs : List Expr} (hp : PPs X pos keys xs (trs g C ks es)) (fl : es.flat = true) (h1 : keys.all (·.isSome) = true) (h2 : keys.length = xs.length) (h3 : keys ≠ []) (h4 : keys.length ≤ 15) :
    PE X (.Dict keys xs pos) (pE g (evE C (.dct ks es))) := by
  refine (pe_disp hp h1 h2 h3 h4).by fun σ H Q ⟨m, h, ρ, v, h', a', e, k⟩ => ?_
  unfold evE at e
  split at e
  · rename_i ws h1 e1
    split at e
    · rename_i hz
      cases e
      intro p hn
      obtain ⟨r0, x0⟩ := a'.hr.lay (o := .dK []) hn
      have np : p ∉ m := a'.hr.free hn
      refine pairs_in fl (a'.to x0 r0) e1 hz.1 fun vs' m1 H1 x1 r1 rv => ?_
      obtain ⟨np1, e2⟩ := x1.stays np upd_same
      have lo : Loose (.dK []) := ⟨fun _ z => (nomatch z), fun _ _ z => (nomatch z)⟩
      refine ⟨e2, (ks.map Sum.inr).zip vs', zip_kV, ?_, ?_⟩
      · rw [List.length_zip, List.length_map]; omega
      · have r2 := r1.era np1 e2 lo
        have x2 : Ext m H m1 (era H1 p) := by
          have := x1.era (p := p)
          rw [era_upd hn] at this
          exact this
        have kr := kr_zip hz.1 (VRs.mono (kp_era e2 lo) _ _ rv)
        have q := (k.ext x2).dct r2 (KR.mrg (xs := []) (vs := []) rfl kr) era_same
        rw [upd_era] at q
        exact q
    · cases e
  · cases e
end
end Pv

end
section
set_option Elab.async false
set_option maxRecDepth 100000
set_option maxHeartbeats 4000000
set_option autoImplicit false
set_option linter.all false
/-! PvZipA: zip and enumerate, over lists and tuples alike. t tells the kind: a tuple (true), a list (false). -/
namespace Pv
open PySem PySem.Spec PyProof.Rows L2
/-- an iterator of the kind t over the sequence at l, k gone -/
def Wk (t : Bool) (h : Heap) (it l : Addr) (k : Nat) : Prop := match t with | true => h.IsTupleIter it l k | false => h.IsListIter it l k
def Sq (t : Bool) (h : Heap) (l : Addr) (xs : Array Value) : Prop := match t with | true => h.IsTuple l xs | false => h.IsList l xs
def kindName (t : Bool) : String := match t with | true => "tuple_iterator" | false => "list_iterator"
section
variable {t : Bool} {h h' : Heap} {it l b : Addr} {k : Nat} {xs : Array Value}
theorem Wk.at (x : Wk t h it l k) (e : ∀ o, h.get? it = some o → h'.get? it = some o) : Wk t h' it l k := by
  cases t with
  | true => exact Heap.IsTupleIter.at x e
  | false => exact Heap.IsListIter.at x e
theorem Wk.but (x : Wk t h it l k) (e : Heap.ExtBut b h h') (ne : it ≠ b) : Wk t h' it l k := x.at fun o q => e it o ne q
theorem Wk.obj (x : Wk t h it l k) : ∃ o, h.get? it = some o ∧ ∀ v, o.data ≠ .cell v := by
  cases t with
  | true => obtain ⟨o, e, _, d⟩ := x; exact ⟨o, e, fun v z => by rw [d] at z; cases z⟩
  | false => obtain ⟨o, e, _, d⟩ := x; exact ⟨o, e, fun v z => by rw [d] at z; cases z⟩
theorem Wk.lt (x : Wk t h it l k) : it < h.objs.size := let ⟨_, e, _⟩ := x.obj; Heap.lt_size e
theorem Sq.but (x : Sq t h l xs) (e : Heap.ExtBut b h h') (ne : l ≠ b) : Sq t h' l xs := by
  cases t with
  | true => exact Heap.IsTuple.extBut x e ne
  | false => exact Heap.IsList.extBut x e ne
theorem Wk.new {o : Obj} (e : h.get? it = some { cls := .type (kindName t), data := .fields #[.ref l, .int 0 0] }) : Wk t h it l 0 := by
  cases t with
  | true => exact ⟨_, e, rfl, rfl⟩
  | false => exact ⟨_, e, rfl, rfl⟩
theorem Sq.lt (x : Sq t h l xs) : l < h.objs.size := by
  cases t with
  | true => obtain ⟨o, e, _⟩ := x; exact Heap.lt_size e
  | false => obtain ⟨o, e, _⟩ := x; exact Heap.lt_size e
theorem Sq.grow (x : Sq t h l xs) (e : ∀ c o, h.get? c = some o → h'.get? c = some o) : Sq t h' l xs := by
  cases t with
  | true => obtain ⟨o, q, r⟩ := x; exact ⟨o, e _ _ q, r⟩
  | false => obtain ⟨o, q, r⟩ := x; exact ⟨o, e _ _ q, r⟩
end
section
variable {prog : Program} {w : World} {A : Around} {E : Value → Shared → Prop} {s : Shared} {t t1 t2 : Bool}
theorem nx_yes {it l : Addr} {k : Nat} {xs : Array Value} {x : Value} {Q : Value → Shared → Prop} (hi : Wk t s.heap it l k) (hl : Sq t s.heap l xs) (hx : xs[k]? = some x)
    (q : ∀ h', Wk t h' it l (k + 1) → Heap.SameBut it s.heap h' → Q x { s with heap := h' }) : wpAny (model prog w) A (Builtin.SmallTypes.nextOf (.ref it)) Q E s := by
  cases t with
  | true => exact RZ.nextOf_tuple_item hi hl hx q
  | false => exact wpAny_nextOf_list_item hi hl hx q
theorem nx_no {it l : Addr} {k : Nat} {xs : Array Value} {Q : Value → Shared → Prop} (hh : A.handled = none) (hi : Wk t s.heap it l k) (hl : Sq t s.heap l xs) (hx : xs[k]? = none)
    (q : ∀ h' e, Heap.ExtBut it s.heap h' → (∃ o, h'.get? e = some o ∧ o.cls = .type "StopIteration") → E (.ref e) { s with heap := h' }) : wpAny (model prog w) A (Builtin.SmallTypes.nextOf (.ref it)) Q E s := by
  cases t with
  | true => exact RZ.nextOf_tuple_end hh hi hl hx q
  | false => exact wpAny_nextOf_list_end hh hi hl hx q
theorem iter_sq {l : Addr} {xs : Array Value} {Q : Value → Shared → Prop} (hl : Sq t s.heap l xs) (q : Q (.ref s.heap.objs.size) { s with heap := s.heap.push { cls := .type (kindName t), data := .fields #[.ref l, .int 0 0] } }) : wpAny (model prog w) A (pyIter (.ref l)) Q E s := by
  cases t with
  | true => exact wpAny_pyIter_tuple hl q
  | false => exact wpAny_pyIter_list hl q

/-! ### zip(a, b): a turn -/
/-- how the five objects of a zip stand -/
structure ZAt (t1 t2 : Bool) (h : Heap) (z TI TO i1 i2 l1 l2 : Addr) (k : Nat) : Prop where
  z : IsZip h z TI TO .none
  ti : IsPair h TI (.ref i1) (.ref i2)
  to : ∃ x y, IsPair h TO x y
  one : Wk t1 h i1 l1 k
  two : Wk t2 h i2 l2 k
theorem zip_yes {z TI TO i1 i2 l1 l2 : Addr} {k : Nat} {xs ys : Array Value} {x y : Value} {Q : Value → Shared → Prop} (D : ZipApart z TI TO i1 i2 l1 l2) (S : ZAt t1 t2 s.heap z TI TO i1 i2 l1 l2 k)
    (hl1 : Sq t1 s.heap l1 xs) (hl2 : Sq t2 s.heap l2 ys) (hx : xs[k]? = some x) (hy : ys[k]? = some y)
    (q : ∀ h', IsZip h' z TI TO (rawInt s.heap.objs.size) → IsPair h' TO x y → Wk t1 h' i1 l1 (k + 1) → Wk t2 h' i2 l2 (k + 1) → IsPair h' s.heap.objs.size x y →
      (∀ c o, c ≠ z → c ≠ TO → c ≠ i1 → c ≠ i2 → s.heap.get? c = some o → h'.get? c = some o) → Q (.ref s.heap.objs.size) { s with heap := h' }) :
    wpAny (model prog w) A (Builtin.«zip.__next__» ⟨[.ref z], []⟩) (fun fin s' => ∃ v, fin = .done (.ret v) ∧ Q v s') E s := by
  obtain ⟨Z, P, ⟨x0, y0, O⟩, w1, w2⟩ := S
  show wpAny _ _ (field (.ref z) 2 >>= _) _ _ _
  refine wpAny_bind (wpAny_field Z rfl (x := .bool false) rfl ?_)
  show wpAny _ _ (field (.ref z) 3 >>= _) _ _ _
  refine wpAny_bind (wpAny_field Z rfl (x := .ref TI) rfl (wpAny_bind (wpAny_seqItems P rfl ?_)))
  show wpAny _ _ (Builtin.SmallTypes.ownedTupleIsFree (.ref z) >>= _) _ _ _
  refine wpAny_bind ?_
  unfold Builtin.SmallTypes.ownedTupleIsFree
  refine wpAny_bind (wpAny_field Z rfl (x := .none) rfl (wpAny_pure ?_))
  simp only [if_true]
  refine wpAny_bind (wpAny_rule (wpAny_bind (wpAny_field Z rfl (x := .ref TO) rfl (wpAny_bind (wpAny_setField_rec Z (by simp) fun ha Za sa => ?_)))))
  have Za' : IsZip ha z TI TO .ellipsis := Za
  refine wpAny_bind ?_
  simp only [List.zipIdx_cons, List.zipIdx_nil, List.forIn_cons, List.forIn_nil]
  -- the first source
  refine wpAny_bind (wpAny_bind (wpAny_onRaise ?_))
  show wpAny _ _ (Builtin.SmallTypes.nextOf (.ref i1) >>= _) _ _ _
  refine wpAny_bind (nx_yes (w1.but sa.extBut D.i1z) (hl1.but sa.extBut D.l1z) hx fun hb w1b sb => wpAny_pure ?_)
  have Ob : IsPair hb TO x0 y0 := sb.extBut _ _ D.TOi1 (sa.extBut _ _ D.TOz O)
  refine wpAny_bind (wpAny_seqItems Ob rfl (wpAny_bind (wpAny_updateSeq_pair Ob fun hc Oc sc => ?_)))
  have Oc' : IsPair hc TO x y0 := Oc
  refine wpAny_bind (wpAny_letGo (wpAny_pure ?_))
  -- the second
  refine wpAny_bind (wpAny_bind (wpAny_onRaise ?_))
  show wpAny _ _ (Builtin.SmallTypes.nextOf (.ref i2) >>= _) _ _ _
  have w2c : Wk t2 hc i2 l2 k := ((w2.but sa.extBut D.i2z).but sb.extBut D.i12.symm).but sc.extBut D.TOi2.symm
  have hl2c : Sq t2 hc l2 ys := ((hl2.but sa.extBut D.l2z).but sb.extBut D.l2i1).but sc.extBut D.l2TO
  refine wpAny_bind (nx_yes w2c hl2c hy fun hd w2d sd => wpAny_pure ?_)
  have Od : IsPair hd TO x y0 := sd.extBut _ _ D.TOi2 Oc'
  refine wpAny_bind (wpAny_seqItems Od rfl (wpAny_bind (wpAny_updateSeq_pair Od fun he Oe se => ?_)))
  have Oe' : IsPair he TO x y := Oe
  refine wpAny_bind (wpAny_letGo (wpAny_pure (wpAny_pure ?_)))
  -- handed out
  refine wpAny_bind (wpAny_seqItems Oe' rfl (wpAny_bind (wpAny_newTuple ?_)))
  have size : he.objs.size = s.heap.objs.size := by rw [se.1, sd.1, sc.1, sb.1, sa.1]
  have Ze : IsZip he z TI TO .ellipsis := se.extBut _ _ D.TOz.symm (sd.extBut _ _ D.i2z.symm (sc.extBut _ _ D.TOz.symm (sb.extBut _ _ D.i1z.symm Za')))
  have keep : ∀ c o, c ≠ z → c ≠ TO → c ≠ i1 → c ≠ i2 → s.heap.get? c = some o → he.get? c = some o := fun c o n1 n2 n3 n4 e =>
    se.extBut _ _ n2 (sd.extBut _ _ n4 (sc.extBut _ _ n2 (sb.extBut _ _ n3 (sa.extBut _ _ n1 e))))
  have w1e : Wk t1 he i1 l1 (k + 1) := ((w1b.but sc.extBut D.TOi1.symm).but sd.extBut D.i12).but se.extBut D.TOi1.symm
  have w2e : Wk t2 he i2 l2 (k + 1) := w2d.but se.extBut D.TOi2.symm
  have zlt : z < he.objs.size := Heap.lt_size Ze
  show wpAny _ _ (Builtin.SmallTypes.ownedTupleHandOut (.ref z) (.ref he.objs.size) >>= _) _ _ _
  refine wpAny_bind ?_
  unfold Builtin.SmallTypes.ownedTupleHandOut
  have Zf : IsZip (he.push { cls := .type "tuple", data := .seq #[x, y] }) z TI TO .ellipsis := Heap.get?_push_of_some _ Ze
  refine wpAny_bind (wpAny_setField_rec Zf (by simp) fun hg Zg sg => ?_)
  have Zg' : IsZip hg z TI TO (rawInt he.objs.size) := Zg
  refine wpAny_setField_rec Zg' (by simp) fun hj Zj sj => ?_
  have Zj' : IsZip hj z TI TO (rawInt he.objs.size) := Zj
  have up : ∀ c o, c ≠ z → he.get? c = some o → hj.get? c = some o := fun c o n1 e => sj.extBut _ _ n1 (sg.extBut _ _ n1 (Heap.get?_push_of_some _ e))
  have T : IsPair hj he.objs.size x y := sj.extBut _ _ (Nat.ne_of_gt zlt) (sg.extBut _ _ (Nat.ne_of_gt zlt) (Heap.get?_push_size _ rfl))
  rw [size] at Zj' T
  refine wpAny_pure ⟨_, rfl, ?_⟩
  show Q (.ref he.objs.size) _
  rw [size]
  exact q hj Zj' (up _ _ D.TOz Oe') (w1e.at fun o e => up _ o D.i1z e) (w2e.at fun o e => up _ o D.i2z e) T fun c o n1 n2 n3 n4 e => up c o n1 (keep c o n1 n2 n3 n4 e)
theorem zip_no {z TI TO i1 i2 l1 l2 : Addr} {k : Nat} {xs ys : Array Value} {Q : Fin → Shared → Prop} (hh : A.handled = none) (D : ZipApart z TI TO i1 i2 l1 l2) (S : ZAt t1 t2 s.heap z TI TO i1 i2 l1 l2 k)
    (hl1 : Sq t1 s.heap l1 xs) (hl2 : Sq t2 s.heap l2 ys) (no : xs[k]? = none ∨ ys[k]? = none)
    (q : ∀ h' e, (∀ c o, c ≠ z → c ≠ TO → c ≠ i1 → c ≠ i2 → s.heap.get? c = some o → h'.get? c = some o) → (∃ o, h'.get? e = some o ∧ o.cls = .type "StopIteration") → E (.ref e) { s with heap := h' }) :
    wpAny (model prog w) A (Builtin.«zip.__next__» ⟨[.ref z], []⟩) Q E s := by
  obtain ⟨Z, P, ⟨x0, y0, O⟩, w1, w2⟩ := S
  show wpAny _ _ (field (.ref z) 2 >>= _) _ _ _
  refine wpAny_bind (wpAny_field Z rfl (x := .bool false) rfl ?_)
  show wpAny _ _ (field (.ref z) 3 >>= _) _ _ _
  refine wpAny_bind (wpAny_field Z rfl (x := .ref TI) rfl (wpAny_bind (wpAny_seqItems P rfl ?_)))
  show wpAny _ _ (Builtin.SmallTypes.ownedTupleIsFree (.ref z) >>= _) _ _ _
  refine wpAny_bind ?_
  unfold Builtin.SmallTypes.ownedTupleIsFree
  refine wpAny_bind (wpAny_field Z rfl (x := .none) rfl (wpAny_pure ?_))
  simp only [if_true]
  refine wpAny_bind (wpAny_rule (wpAny_bind (wpAny_field Z rfl (x := .ref TO) rfl (wpAny_bind (wpAny_setField_rec Z (by simp) fun ha Za sa => ?_)))))
  have Za' : IsZip ha z TI TO .ellipsis := Za
  refine wpAny_bind ?_
  simp only [List.zipIdx_cons, List.zipIdx_nil, List.forIn_cons, List.forIn_nil]
  refine wpAny_bind (wpAny_bind (wpAny_onRaise ?_))
  show wpAny _ _ (Builtin.SmallTypes.nextOf (.ref i1) >>= _) _ _ _
  -- a StopIteration is no zip
  have other : ∀ {h : Heap} {e : Addr} {o : Obj}, IsZip h z TI TO .ellipsis → h.get? e = some o → o.cls = .type "StopIteration" → e ≠ z := fun Zh e1 e2 e3 => by
    rw [e3, Zh] at e1
    cases e1
    exact absurd e2 (by simp)
  cases hx : xs[k]? with
  | none =>
    refine wpAny_bind (nx_no hh (w1.but sa.extBut D.i1z) (hl1.but sa.extBut D.l1z) hx fun hb e sb ⟨o, e1, e2⟩ => ?_)
    have Zb : IsZip hb z TI TO .ellipsis := sb _ _ D.i1z.symm Za'
    refine wpAny_setField_rec Zb (by simp) fun hc _ sc => q hc e (fun c u n1 _ n3 _ z => sc.extBut _ _ n1 (sb _ _ n3 (sa.extBut _ _ n1 z))) ⟨o, sc.extBut _ _ (other Zb e1 e2) e1, e2⟩
  | some x =>
    have hy : ys[k]? = none := no.resolve_left (by rw [hx]; exact fun z => nomatch z)
    refine wpAny_bind (nx_yes (w1.but sa.extBut D.i1z) (hl1.but sa.extBut D.l1z) hx fun hb w1b sb => wpAny_pure ?_)
    have Ob : IsPair hb TO x0 y0 := sb.extBut _ _ D.TOi1 (sa.extBut _ _ D.TOz O)
    refine wpAny_bind (wpAny_seqItems Ob rfl (wpAny_bind (wpAny_updateSeq_pair Ob fun hc Oc sc => ?_)))
    refine wpAny_bind (wpAny_letGo (wpAny_pure (wpAny_bind (wpAny_bind (wpAny_onRaise ?_)))))
    show wpAny _ _ (Builtin.SmallTypes.nextOf (.ref i2) >>= _) _ _ _
    have w2c : Wk t2 hc i2 l2 k := ((w2.but sa.extBut D.i2z).but sb.extBut D.i12.symm).but sc.extBut D.TOi2.symm
    have hl2c : Sq t2 hc l2 ys := ((hl2.but sa.extBut D.l2z).but sb.extBut D.l2i1).but sc.extBut D.l2TO
    refine wpAny_bind (nx_no hh w2c hl2c hy fun hd e sd ⟨o, e1, e2⟩ => ?_)
    have Zd : IsZip hd z TI TO .ellipsis := sd _ _ D.i2z.symm (sc.extBut _ _ D.TOz.symm (sb.extBut _ _ D.i1z.symm Za'))
    refine wpAny_setField_rec Zd (by simp) fun he _ se => q he e (fun c u n1 n2 n3 n4 z => se.extBut _ _ n1 (sd _ _ n4 (sc.extBut _ _ n2 (sb.extBut _ _ n3 (sa.extBut _ _ n1 z))))) ⟨o, se.extBut _ _ (other Zd e1 e2) e1, e2⟩
theorem next_zip_yes {z TI TO i1 i2 l1 l2 : Addr} {k : Nat} {xs ys : Array Value} {x y : Value} {Q : Option Value → Shared → Prop} (D : ZipApart z TI TO i1 i2 l1 l2) (S : ZAt t1 t2 s.heap z TI TO i1 i2 l1 l2 k)
    (hl1 : Sq t1 s.heap l1 xs) (hl2 : Sq t2 s.heap l2 ys) (hx : xs[k]? = some x) (hy : ys[k]? = some y)
    (q : ∀ h', IsZip h' z TI TO (rawInt s.heap.objs.size) → IsPair h' TO x y → Wk t1 h' i1 l1 (k + 1) → Wk t2 h' i2 l2 (k + 1) → IsPair h' s.heap.objs.size x y →
      (∀ c o, c ≠ z → c ≠ TO → c ≠ i1 → c ≠ i2 → s.heap.get? c = some o → h'.get? c = some o) → Q (some (.ref s.heap.objs.size)) { s with heap := h' }) : wpAny (model prog w) A (pyNext (.ref z)) Q E s := by
  have ty : s.TypeIs (.ref z) "zip" := ⟨_, S.z, rfl⟩
  unfold pyNext
  refine wpAny_bind (wpAny_attempt (wpAny_callSpecial?_slot (name := Str.ofString "__next__") ty PySem.F.slot_zip_next (wpAny_call_entry PySem.F.slot_zip_next ty PySem.F.entry_zip_next ?_ (PySem.F.args_zip_next_1 _))))
  exact zip_yes D S hl1 hl2 hx hy fun h' a b c d e f => wpAny_pure (q h' a b c d e f)
theorem next_zip_no {z TI TO i1 i2 l1 l2 : Addr} {k : Nat} {xs ys : Array Value} {Q : Option Value → Shared → Prop} (hh : A.handled = none) (D : ZipApart z TI TO i1 i2 l1 l2) (S : ZAt t1 t2 s.heap z TI TO i1 i2 l1 l2 k)
    (hl1 : Sq t1 s.heap l1 xs) (hl2 : Sq t2 s.heap l2 ys) (no : xs[k]? = none ∨ ys[k]? = none)
    (q : ∀ h', (∀ c o, c ≠ z → c ≠ TO → c ≠ i1 → c ≠ i2 → s.heap.get? c = some o → h'.get? c = some o) → Q none { s with heap := h' }) : wpAny (model prog w) A (pyNext (.ref z)) Q E s := by
  have ty : s.TypeIs (.ref z) "zip" := ⟨_, S.z, rfl⟩
  unfold pyNext
  refine wpAny_bind (wpAny_attempt (wpAny_callSpecial?_slot (name := Str.ofString "__next__") ty PySem.F.slot_zip_next (wpAny_call_entry PySem.F.slot_zip_next ty PySem.F.entry_zip_next ?_ (PySem.F.args_zip_next_1 _))))
  refine zip_no hh D S hl1 hl2 no fun h' e kp ⟨o, e1, e2⟩ => ?_
  exact wpAny_bind (wpAny_isInstance (T := "StopIteration") (b := true) ⟨o, e1, e2⟩ isSubtype_stop (wpAny_pure (q h' kp)))
end
end Pv

end
section
set_option Elab.async false
set_option maxRecDepth 100000
set_option maxHeartbeats 4000000
set_option autoImplicit false
set_option linter.all false
/-! Pv10: calls. -/
namespace Pv
open PySem PySem.Spec PyProof.Rows L2
section
variable {g : Gd} {C : Cl} {bn : List Str} {S : Sg} {X : Cx} {pos p1 p2 apos : Pos} {a b c : IE} {x y z : Expr}

def rb1 (g : Gd) (b : B1) : List V → Hp → VK → Prop := fun xs H Q => ∃ m h x v h' a, xs = [a] ∧ HR g m h H ∧ VR g m H x a ∧ b1PV b h x = some (v, h') ∧ Kt g m H h' v Q
theorem b1r (o : Okv g X) (b : B1) : CallR X (b1Id b) (rb1 g b) := by
  intro pins s σ H xs us Q I r ⟨m, h, px, v, h', a, ex, hr, vx, e, k⟩
  subst ex
  obtain ⟨r', hr', q⟩ := b1_ok o hr vx e k
  exact hr' pins s σ H [a] us Q I r q
theorem boot_b1 (b : B1) : bootBuiltins (b1Nm b) = some (b1Id b) := by cases b <;> decide +kernel
theorem a_one (hs : noStar y = true) (ha : PE X y (pE g (evE C a))) : PA X [y] (tCons (pE g (evE C a)) tNil) := pa_cons ha pa_nil (star_cons hs)
theorem plain_nil {env : Env} {pos : Pos} : (backTo pos (starEach [] env)).any (·.1) = false := rfl
/-- a call of a built-in with one argument -/
theorem call_blt {u : Value} {t : TE} {r : List V → Hp → VK → Prop} {n : Str} (hu : (∃ id, u = .builtin id) ∨ ∃ T, u = .type T) (hc : CallR X u r) (hg : Gl X n) (hm : X.mg n = none) (hn : nmB n = true) (hv : bootBuiltins n = some u) (hs : noStar y = true) (hy : PE X y t) :
    PE X (.Call (.Name n p1) [y] [] pos) (tCB r (tCons t tNil)) := by
  rcases hu with ⟨id, rfl⟩ | ⟨T, rfl⟩
  · exact pe_callB hc hg hm hv (pa_cons hy pa_nil (star_cons hs)) (nm_n hn) (nm_d hn) (star_cons hs) rfl
  · exact pe_callTy hc hg hm hv (pa_cons hy pa_nil (star_cons hs)) (nm_n hn) (nm_d hn) (star_cons hs) rfl
theorem b1_kind (b : B1) : (∃ id, b1Id b = .builtin id) ∨ ∃ T, b1Id b = .type T := by
  cases b <;> first | exact .inl ⟨_, rfl⟩ | exact .inr ⟨_, rfl⟩
theorem r_b1 {o' : B1} (o : Ok g C bn S X) (hn : bnB S bn (b1Nm o') = true) (hs : noStar y = true) (ha : PE X y (pE g (evE C a))) : PE X (.Call (.Name (b1Nm o') p1) [y] [] pos) (pE g (evE C (.b1 o' a))) := by
  obtain ⟨h1, h2, h3⟩ := o.bl hn
  refine pe_tm (f := fun ρ h => match evE C a ρ h with | some (x, h) => b1PV o' h x | none => none) ((call_blt (b1_kind o') (b1r o.v o') h1 h2 h3 (boot_b1 o') hs ha).by fun σ H Q ⟨m, h, ρ, v, h', a', e, k⟩ => ?_) fun ρ h => by rw [evE] <;> rfl
  simp only at e
  split at e
  · rename_i w h1 e1
    exact .mk a' e1 fun x' m1 H1 x1 r1 vx => ⟨m1, h1, w, v, h', x', rfl, r1, vx, e, k.ext x1⟩
  · cases e
theorem boot_ty {t : String} (h : tyB t = true) : bootBuiltins (t : Str) = some (.type t) := by
  unfold tyB at h
  simp only [Bool.or_eq_true, beq_iff_eq] at h
  rcases h with ((h | h) | h) | h <;> (subst h; decide +kernel)
theorem r_isi {t : String} (o : Ok g C bn S X) (hn : bnB S bn "isinstance" = true) (ht : tyB t = true) (hb : bnB S bn (t : Str) = true) (hs : noStar y = true) (ha : PE X y (pE g (evE C a))) :
    PE X (.Call (.Name "isinstance" p1) [y, .Name (t : Str) p2] [] pos) (pE g (evE C (.isi a t))) := by
  obtain ⟨h1, h2, h3⟩ := o.bl hn
  obtain ⟨j1, j2, j3⟩ := o.bl hb
  have hz : PE X (.Name (t : Str) p2) (tC (.ty t)) := pe_bltn j1 j2 (boot_ty ht) rfl (nm_n j3) (nm_d j3)
  refine (pe_callB call_isi h1 h2 boot_isinstance (pa_cons ha (pa_cons hz pa_nil rfl) (star_cons hs)) (nm_n h3) (nm_d h3) (star_cons hs) rfl).by fun σ H Q ⟨m, h, ρ, v, h', a', e, k⟩ => ?_
  unfold evE at e
  split at e
  · rename_i w h1 e1
    obtain ⟨d, e2, e3⟩ := Option.map_eq_some_iff.mp e
    cases e3
    exact .mk a' e1 fun x' m1 H1 x1 r1 vx => isi_ok o.v r1 vx e2 (k.ext x1)
  · cases e

/-! ### len(set(x)), sorted(set(x)): the set itself is not one of ours -/
theorem ddS_len {xs zs : List Str} (hm : ∀ y, y ∈ zs ↔ y ∈ xs) (nd : zs.Nodup) : zs.length = (ddS xs).length :=
  List.Perm.length_eq ((List.perm_ext_iff_of_nodup nd (nodup_ddS xs)).mpr fun y => (hm y).trans (mem_ddS y xs).symm)
theorem setS_eq {xs zs : List Str} (hm : ∀ y, y ∈ zs ↔ y ∈ xs) : setS zs = setS xs :=
  asc_uniq (pair_setS zs) (pair_setS xs) fun y => (mem_setS y zs).trans ((hm y).trans (mem_setS y xs).symm)
theorem seq_strs (o : Okv g X) {m : List Addr} {h : PH} {H : Hp} {v : PV} {w : V} {ss : List Str} (hr : HR g m h H) (r : VR g m H v w) (e : (seqOf h v).bind strsOf = some ss) : ∃ p, w = .ref p ∧ (SqL X.K H p (ss.map V.str) ∨ SqT X.K H p (ss.map V.str)) := by
  obtain ⟨xs, e1, e2⟩ := Option.bind_eq_some_iff.mp e
  obtain ⟨p, vs, rfl, s, rv⟩ := seq_rel o hr r e1
  rw [strs_rel e2 rv] at s
  exact ⟨p, rfl, s.symm⟩
theorem boot_len' : bootBuiltins "len" = some (.builtin "len") := by decide +kernel
theorem r_set (o : Ok g C bn S X) (hn : bnB S bn "set" = true) (hs : noStar y = true) (ha : PE X y (pE g (evE C a))) : PE X (.Call (.Name "set" p1) [y] [] pos) (fun σ H Q => ∃ m h ρ v h1 ss, At g m h H ρ σ ∧ evE C a ρ h = some (v, h1) ∧
    (seqOf h1 v).bind strsOf = some ss ∧ ss.length < 4000 ∧ ∀ (p : Addr) (m1 : List Addr) (H1 : Hp) (zs : List Str), Ext m H m1 H1 → HR g m1 h1 H1 → H1 p = none → (∀ y, y ∈ zs ↔ y ∈ ss) → zs.Nodup → zs.length ≤ ss.length → Q (.ref p) (upd H1 p (SetTx X.prog X.w p zs))) := by
  obtain ⟨h1, h2, h3⟩ := o.bl hn
  refine (call_blt (.inr ⟨_, rfl⟩) (cr_setTx o.v.calm) h1 h2 h3 boot_set hs ha).by fun σ H Q ⟨m, h, ρ, v, h1, ss, a', e, e1, hl, k⟩ => ?_
  refine .mk a' e fun x' m1 H1 x1 r1 vx => ?_
  obtain ⟨p, rfl, sq⟩ := seq_strs o.v r1 vx e1
  exact ⟨p, ss, rfl, sq, hl, fun q zs hq hm nd hz => k q m1 H1 zs x1 r1 hq hm nd hz⟩
theorem r_lenset (o : Ok g C bn S X) (hl : bnB S bn "len" = true) (hn : bnB S bn "set" = true) (hs : noStar y = true) (ha : PE X y (pE g (evE C a))) :
    PE X (.Call (.Name "len" p1) [.Call (.Name "set" p2) [y] [] apos] [] pos) (pE g (evE C (.lenset a))) := by
  obtain ⟨h1, h2, h3⟩ := o.bl hl
  refine (call_blt (.inl ⟨_, rfl⟩) cr_lenTx h1 h2 h3 boot_len' rfl (r_set o hn hs ha)).by fun σ H Q ⟨m, h, ρ, v, h', a', e, k⟩ => ?_
  unfold evE at e
  split at e
  · rename_i w h1 e1
    obtain ⟨ss, e2, e3⟩ := Option.bind_eq_some_iff.mp e
    split at e3
    · rename_i hz
      cases e3
      refine ⟨m, h, ρ, w, h', ss, a', e1, e2, hz, fun p m1 H1 zs x1 r1 hp hm nd hl' => ⟨p, zs, rfl, upd_same, by omega, ?_⟩⟩
      obtain ⟨r2, x2⟩ := r1.lay (o := SetTx X.prog X.w p zs) hp
      rw [ddS_len hm nd]
      exact (k.ext (x1.then x2)).here r2 rfl
    · cases e3
  · cases e
theorem r_sortset (o : Ok g C bn S X) (hl : bnB S bn "sorted" = true) (hn : bnB S bn "set" = true) (hs : noStar y = true) (ha : PE X y (pE g (evE C a))) :
    PE X (.Call (.Name "sorted" p1) [.Call (.Name "set" p2) [y] [] apos] [] pos) (pE g (evE C (.sortset a))) := by
  obtain ⟨h1, h2, h3⟩ := o.bl hl
  refine (call_blt (.inl ⟨_, rfl⟩) (cr_sortedTx o.v.calm o.v.un) h1 h2 h3 boot_sorted rfl (r_set o hn hs ha)).by fun σ H Q ⟨m, h, ρ, v, h', a', e, k⟩ => ?_
  unfold evE at e
  split at e
  · rename_i w h1 e1
    obtain ⟨ss, e2, e3⟩ := Option.bind_eq_some_iff.mp e
    split at e3
    · rename_i hz
      cases e3
      refine ⟨m, h, ρ, w, h1, ss, a', e1, e2, hz, fun p m1 H1 zs x1 r1 hp hm nd hl' => ⟨p, zs, rfl, upd_same, by omega, fun q hq => ?_⟩⟩
      obtain ⟨r2, x2⟩ := r1.lay (o := SetTx X.prog X.w p zs) hp
      rw [setS_eq hm]
      exact (k.ext (x1.then x2)).lst r2 (strs_vrs _) hq
    · cases e3
  · cases e

/-! ### methods -/
theorem base_of {m : Str} (h : noCl x = true) : attributeBase x m X.env (eval x X.env) = eval x X.env := by
  cases x <;> first | rfl | cases h
theorem MtM.r {id : String} {r : V → List V → Hp → VK → Prop} (h : MtM X id r) : MtR X id r := h
theorem few_one (hs : noStar y = true) : ((backTo pos (starEach [y] X.env)).all (fun x => !x.1) && (backToKw pos (keywordEach [] X.env)).all (fun x => x.1.isSome)
      && decide (([y] : List Expr).length + ([] : List Keyword).length + (if ([] : List Keyword).isEmpty then 0 else 1) < 30)) = true := by
  rw [star_cons hs]
  rfl
theorem meth1 {T id : String} {name : Str} {r : V → List V → Hp → VK → Prop} {to t : TE} (pa : PlainAttrs T) (slot : Slot T name id) (hty : typeOf (.builtin id) = pure (.type "method_descriptor")) (hm : MtR X id r) (hc : noCl x = true) (hl : (apos.endLine == pos.line) = true) (hs : noStar y = true)
    (ho : PE X x to) (hy : PE X y t) : PE X (.Call (.Attribute x name apos) [y] [] pos) (tBM X.K T r to (tCons t tNil)) :=
  pe_bm pa slot hty hm ho (pa_cons hy pa_nil (star_cons hs)) (base_of hc) (few_one hs) hl (star_cons hs) rfl
theorem r_split (hc : noCl x = true) (hl : (apos.endLine == pos.line) = true) (ha : PE X x (pE g (evE C a))) : PE X (.Call (.Attribute x "split" apos) [] [] pos) (pE g (evE C (.split a))) := by
  refine (pe_bm0 PySem.F.plainAttrs_str PySem.F.slot_str_split PySem.F.type_str_split mt_words ha (base_of hc) hl).by fun σ H Q ⟨m, h, ρ, v, h', a', e, k⟩ => ?_
  unfold evE at e
  split at e
  · rename_i w h1 e1
    exact .mk a' e1 fun x' m1 H1 x1 r1 vx => split_ok r1 vx e (k.ext x1)
  · cases e
theorem isL_ty {m : List Addr} {h : PH} {H : Hp} {p : Nat} {w : V} (hr : HR g m h H) (r : VR g m H (.ref p) w) (e : isL h p = true) : tyV X.K "list" w H := by
  unfold isL at e
  split at e
  · rename_i xs hp
    obtain ⟨q, vs, m1, h1, _⟩ := hr.lst hp
    obtain rfl := r.ref_eq m1
    exact .inl ⟨rfl, vs, .of h1⟩
  · cases e
theorem isD_ty {m : List Addr} {h : PH} {H : Hp} {p : Nat} {w : V} (hr : HR g m h H) (r : VR g m H (.ref p) w) (e : isD h p = true) : tyV X.K "dict" w H := by
  unfold isD at e
  split at e
  · rename_i xs hp
    obtain ⟨q, vs, m1, h1, _⟩ := hr.dct hp
    obtain rfl := r.ref_eq m1
    exact .inr (.inr (.inl ⟨rfl, .inl ⟨vs, h1⟩⟩))
  · cases e
theorem r_app (o : Ok g C bn S X) (hc : noCl x = true) (hl : (apos.endLine == pos.line) = true) (hs : noStar y = true) (ha : PE X x (pE g (evE C a))) (hb : PE X y (pE g (evE C b))) : PE X (.Call (.Attribute x "append" apos) [y] [] pos) (pE g (evE C (.app a b))) := by
  refine (meth1 PySem.F.plainAttrs_list PySem.F.slot_list_append PySem.F.type_list_append mt_append hc hl hs ha hb).by fun σ H Q ⟨m, h, ρ, v, h', a', e, k⟩ => ?_
  unfold evE at e
  split at e
  · rename_i p h1 e1
    split at e
    · rename_i e0
      split at e
      · rename_i u h2 e2
        split at e
        · rename_i xs e3
          split at e
          · rename_i hz
            cases e
            refine .mk a' e1 fun x' m1 H1 x1 r1 vx => ⟨isL_ty r1 vx e0, ?_⟩
            refine .mk (a'.to x1 r1) e2 fun y' m2 H2 x2 r2 vy => ?_
            exact (app_ok o.v r2 (VR.mono (x2.kp r1) _ _ vx) vy e3 hz (k.ext (x1.then x2))).2
          · cases e
        · cases e
      · cases e
    · cases e
  · cases e
theorem r_ext (o : Ok g C bn S X) (hc : noCl x = true) (hl : (apos.endLine == pos.line) = true) (hs : noStar y = true) (ha : PE X x (pE g (evE C a))) (hb : PE X y (pE g (evE C b))) : PE X (.Call (.Attribute x "extend" apos) [y] [] pos) (pE g (evE C (.ext a b))) := by
  refine (meth1 PySem.F.plainAttrs_list PySem.F.slot_list_extend PySem.F.type_list_extend mt_extend hc hl hs ha hb).by fun σ H Q ⟨m, h, ρ, v, h', a', e, k⟩ => ?_
  unfold evE at e
  split at e
  · rename_i p h1 e1
    split at e
    · rename_i e0
      split at e
      · rename_i u h2 e2
        split at e
        · rename_i xs ys e3 e4
          split at e
          · rename_i hz
            cases e
            refine .mk a' e1 fun x' m1 H1 x1 r1 vx => ⟨isL_ty r1 vx e0, ?_⟩
            refine .mk (a'.to x1 r1) e2 fun y' m2 H2 x2 r2 vy => ?_
            exact (ext_ok o.v r2 (VR.mono (x2.kp r1) _ _ vx) vy e3 e4 hz (k.ext (x1.then x2))).2
          · cases e
        · cases e
      · cases e
    · cases e
  · cases e
theorem r_upd (o : Ok g C bn S X) (hc : noCl x = true) (hl : (apos.endLine == pos.line) = true) (hs : noStar y = true) (ha : PE X x (pE g (evE C a))) (hb : PE X y (pE g (evE C b))) : PE X (.Call (.Attribute x "update" apos) [y] [] pos) (pE g (evE C (.upd a b))) := by
  refine (meth1 PySem.F.plainAttrs_dict PySem.F.slot_dict_update PySem.F.type_dict_update mt_update hc hl hs ha hb).by fun σ H Q ⟨m, h, ρ, v, h', a', e, k⟩ => ?_
  unfold evE at e
  split at e
  · rename_i p h1 e1
    split at e
    · rename_i e0
      split at e
      · rename_i u h2 e2
        split at e
        · rename_i xs ys e3 e4
          split at e
          · rename_i hz
            cases e
            refine .mk a' e1 fun x' m1 H1 x1 r1 vx => ⟨isD_ty r1 vx e0, ?_⟩
            refine .mk (a'.to x1 r1) e2 fun y' m2 H2 x2 r2 vy => ?_
            exact (upd_ok o.v r2 (VR.mono (x2.kp r1) _ _ vx) vy e3 e4 hz.1 hz.2 (k.ext (x1.then x2))).2
          · cases e
        · cases e
      · cases e
    · cases e
  · cases e

/-! ### calls of the own defs -/
theorem plain_all {env : Env} : ∀ {es : IEs} {xs : List Expr}, matEs S bn false es xs = true → (backTo pos (starEach xs env)).any (·.1) = false
  | .nil, [], _ => rfl
  | .nil, _ :: _, h => by unfold matEs at h; cases h
  | .cons _ r, [], h => by unfold matEs at h; cases h
  | .cons _ r, x :: xs, h => by
    unfold matEs at h
    simp only [Bool.and_eq_true] at h
    rw [star_cons h.1.1]
    show (false || (backTo pos (starEach xs env)).any (·.1)) = false
    rw [Bool.false_or]
    exact plain_all h.2
  | .star _ _, xs, h => by
    unfold matEs at h
    split at h
    · simp at h
    · cases h
/-- the callee runs -/
theorem run_c {pins : List (Addr × Obj)} {σ : L2.St} {H : Hp} {s : Shared} {Q : VK} {us : List Value} {vs : List V} {m : List Addr} {h h' : PH} {pvs : List PV} {v : PV} {f : Str} {fa : Addr} (o : Ok g C bn S X) (I : Inv X pins σ H s) (hf : g.fa f = some fa)
    (r : Vals vs us) (hr : HR g m h H) (rv : VRs g m H pvs vs) (e : C.call f pvs h = some (v, h')) (k : Kt g m H h' v Q) : wpAny (model X.prog X.w) X.A (call (.ref fa) us) (EP X pins σ Q) X.xe s := by
  have e0 : Env0 X.prog X.w g.K X.mg X.base X.A X.stack s H := by rw [← o.v.K]; exact I.env0
  refine wpAny_call (codeAny_mono (o.run f fa hf X.stack s H us vs m h pvs v h' Q e0 r hr rv e k) fun r s' hq => ?_)
  cases r with
  | error e => exact False.elim hq
  | ok fl =>
    cases fl with
    | ret u => exact I.after hq
    | next => exact False.elim hq
    | brk => exact False.elim hq
    | cont => exact False.elim hq
/-- .. from the value of the function and its arguments -/
theorem call_c {pins : List (Addr × Obj)} {σ : L2.St} {H : Hp} {s : Shared} {Q : VK} {m : List Addr} {h h' h1 : PH} {pvs : List PV} {v : PV} {f : Str} {fa : Addr} {es : IEs} {xs : List Expr} {ρ : PEnv} (o : Ok g C bn S X) (I : Inv X pins σ H s) (hf : g.fa f = some fa)
    (hm : matEs S bn false es xs = true) (hxs : PA X xs (pA g (evEs C es))) (a' : At g m h H ρ σ) (e1 : evEs C es ρ h = some (pvs, h1)) (e : C.call f pvs h1 = some (v, h')) (k : Kt g m H h' v Q) :
    wpAny (model X.prog X.w) X.A (callWith pos (.ref fa) [] (backTo pos (starEach xs X.env)) []) (EP X pins σ Q) X.xe s := by
  have hk := (o.fa f fa hf).2
  cases xs with
  | nil =>
    refine PySem.W.callWith_K0 I.kIn hk ?_
    cases es with
    | nil =>
      unfold evEs at e1
      cases e1
      exact run_c o I hf .nil a'.hr (show VRs g m H [] [] from rfl) e k
    | cons _ _ => unfold matEs at hm; cases hm
    | star _ _ => unfold matEs at hm; cases hm
  | cons x xs =>
    have hst : noStar x = true ∧ (backTo pos (starEach xs X.env)).any (·.1) = false := by
      cases es with
      | nil => unfold matEs at hm; cases hm
      | cons _ _ =>
        unfold matEs at hm
        simp only [Bool.and_eq_true] at hm
        exact ⟨hm.1.1, plain_all hm.2⟩
      | star _ _ =>
        unfold matEs at hm
        split at hm
        · simp at hm
        · cases hm
    refine PySem.W.callWith_K (h₀ := X.base) I.ok.mod.kin hk (thn (hxs.run pos pins s σ H (fun vs H1 => ∃ m1, Ext m H m1 H1 ∧ HR g m1 h1 H1 ∧ VRs g m1 H1 pvs vs) I (.mk a' e1 fun vs m1 H1 x1 r1 rv => ⟨m1, x1, r1, rv⟩)) fun us s1 ⟨vs, H1, I1, r, m1, x1, r1, rv⟩ => ⟨I1.kIn, ?_⟩) (star_cons hst.1) hst.2
    exact run_c o I1 hf r r1 rv e (k.ext x1)
theorem r_call {f : Str} {es : IEs} {xs : List Expr} (o : Ok g C bn S X) (hg : glB S.sc f = true) (hn : nmB f = true) (hm : matEs S bn false es xs = true) (hxs : PA X xs (pA g (evEs C es))) : PE X (.Call (.Name f p1) xs [] pos) (pE g (evE C (.call f es))) := by
  refine ⟨fun pins s σ H Q I ⟨m, h, ρ, v, h', a', e, k⟩ => ?_⟩
  unfold evE at e
  split at e
  · rename_i ws h1 e1
    obtain ⟨fa, hf⟩ := o.has f ws h1 _ e
    exact wpAny_Call_Name_kw (ld_glob I (o.glo hg) (o.fa f fa hf).1 (call_c o I hf hm hxs a' e1 e k) (nm_d hn))
  · cases e
theorem r_callV {es : IEs} {xs : List Expr} (o : Ok g C bn S X) (hx : isRef x = true) (ha : PE X x (pE g (evE C a))) (hm : matEs S bn false es xs = true) (hxs : PA X xs (pA g (evEs C es))) : PE X (.Call x xs [] pos) (pE g (evE C (.callV a es))) := by
  refine ⟨fun pins s σ H Q I ⟨m, h, ρ, v, h', a', e, k⟩ => ?_⟩
  have go : wpAny (model X.prog X.w) X.A (eval x X.env) (fun f s1 => wpAny (model X.prog X.w) X.A (callWith pos f [] (backTo pos (starEach xs X.env)) []) (EP X pins σ Q) X.xe s1) X.xe s := by
    unfold evE at e
    split at e
    · rename_i f h1 e1
      split at e
      · rename_i ws h2 e2
        obtain ⟨fa, hf⟩ := o.has f ws h2 _ e
        refine thn (ha.run pins s σ H (fun w H1 => ∃ m1, w = .ref fa ∧ Ext m H m1 H1 ∧ HR g m1 h1 H1) I (.mk a' e1 fun w m1 H1 x1 r1 rv => ⟨m1, ?_, x1, r1⟩)) fun u s1 ⟨w, H1, I1, ru, m1, hw, x1, r1⟩ => ?_
        · obtain ⟨a2, e3, rfl⟩ := rv
          rw [hf] at e3
          cases e3
          rfl
        · subst hw
          cases ru
          exact call_c o I1 hf hm hxs (a'.to x1 r1) e2 e (k.ext x1)
      · cases e
    · cases e
  cases x with
  | Name n p => exact wpAny_Call_Name_kw go
  | Subscript u w p => exact Call_ go
  | _ => cases hx
end
end Pv

end
section
set_option Elab.async false
set_option maxRecDepth 100000
set_option maxHeartbeats 4000000
set_option autoImplicit false
set_option linter.all false
/-! PvZip: zip made, walked. -/
namespace Pv
open PySem PySem.Spec PyProof.Rows L2
abbrev zg1 (t1 : Bool) (h : Heap) (l1 : Addr) : Heap := h.push { cls := .type (kindName t1), data := .fields #[.ref l1, .int 0 0] }
abbrev zg2 (t1 t2 : Bool) (h : Heap) (l1 l2 : Addr) : Heap := (zg1 t1 h l1).push { cls := .type (kindName t2), data := .fields #[.ref l2, .int 0 0] }
abbrev zg3 (t1 t2 : Bool) (h : Heap) (l1 l2 : Addr) : Heap := (zg2 t1 t2 h l1 l2).push { cls := .type "tuple", data := .seq #[.ref h.objs.size, .ref (zg1 t1 h l1).objs.size] }
abbrev zg4 (t1 t2 : Bool) (h : Heap) (l1 l2 : Addr) : Heap := (zg3 t1 t2 h l1 l2).push { cls := .type "tuple", data := .seq #[.none, .none] }
abbrev zg5 (t1 t2 : Bool) (h : Heap) (l1 l2 : Addr) : Heap := (zg4 t1 t2 h l1 l2).push { cls := .type "zip", data := .fields #[.none, .bool false, .bool false, .ref (zg2 t1 t2 h l1 l2).objs.size, .ref (zg3 t1 t2 h l1 l2).objs.size] }
theorem meets_zg (t1 t2 : Bool) (l1 l2 : Addr) (xs ys : Array Value) :
    Meets (Builtin.«zip.__new__» ⟨[.type "zip", .ref l1, .ref l2], []⟩) (fun _ R s => Sq t1 s.heap l1 xs ∧ Sq t2 s.heap l2 ys ∧ R (.ok (.ret (.ref (zg4 t1 t2 s.heap l1 l2).objs.size))) { s with heap := zg5 t1 t2 s.heap l1 l2 }) :=
  .of_wp fun prog w A R s h => by
    obtain ⟨hp, g, d, tk, os⟩ := s
    obtain ⟨a, b, h⟩ := h
    have sub := PySem.sub_zip
    have a1 : Sq t1 (Shared.heap ⟨hp, g, d, tk, os⟩) l1 xs := a
    have b1 : Sq t2 (Shared.heap ⟨hp.push { cls := .type (kindName t1), data := .fields #[.ref l1, .int 0 0] }, g, d, tk, os⟩) l2 ys := Sq.grow b fun c o e => Heap.get?_push_of_some _ e
    wp_walk using iter_sq a1, iter_sq b1
    exact ⟨_, rfl, h⟩
section
variable {prog : Program} {w : World} {A : Around} {E : Value → Shared → Prop} {s : Shared} {t1 t2 : Bool}
theorem call_zg {l1 l2 : Addr} {xs ys : Array Value} {Q : Value → Shared → Prop} (a : Sq t1 s.heap l1 xs) (b : Sq t2 s.heap l2 ys)
    (q : ∀ h', ZAt t1 t2 h' (s.heap.objs.size + 4) (s.heap.objs.size + 2) (s.heap.objs.size + 3) s.heap.objs.size (s.heap.objs.size + 1) l1 l2 0 → (∀ c o, s.heap.get? c = some o → h'.get? c = some o) → Q (.ref (s.heap.objs.size + 4)) { s with heap := h' }) :
    wpAny (model prog w) A (call (.type "zip") [.ref l1, .ref l2]) Q E s := by
  refine callType_new PySem.F.called_zip (by decide) (PySem.F.typeCall_zip_2 _ _) (PySem.F.newCall_zip_2 _ _) (fun obj => PySem.F.args_object_init_3 obj _ _) PySem.F.entry_zip_new (meets_zg t1 t2 l1 l2 xs ys) ⟨a, b, ?_⟩
  have s1 : (zg1 t1 s.heap l1).objs.size = s.heap.objs.size + 1 := Heap.size_push ..
  have s2 : (zg2 t1 t2 s.heap l1 l2).objs.size = s.heap.objs.size + 2 := by rw [Heap.size_push, s1]
  have s3 : (zg3 t1 t2 s.heap l1 l2).objs.size = s.heap.objs.size + 3 := by rw [Heap.size_push, s2]
  have s4 : (zg4 t1 t2 s.heap l1 l2).objs.size = s.heap.objs.size + 4 := by rw [Heap.size_push, s3]
  have o5 : (zg5 t1 t2 s.heap l1 l2).get? (zg4 t1 t2 s.heap l1 l2).objs.size = some _ := Heap.get?_push_size _ rfl
  have o4 : (zg5 t1 t2 s.heap l1 l2).get? (zg3 t1 t2 s.heap l1 l2).objs.size = some _ := Heap.get?_push_of_some _ (Heap.get?_push_size _ rfl)
  have o3 : (zg5 t1 t2 s.heap l1 l2).get? (zg2 t1 t2 s.heap l1 l2).objs.size = some _ := Heap.get?_push_of_some _ (Heap.get?_push_of_some _ (Heap.get?_push_size _ rfl))
  have o2 : (zg5 t1 t2 s.heap l1 l2).get? (zg1 t1 s.heap l1).objs.size = some _ := Heap.get?_push_of_some _ (Heap.get?_push_of_some _ (Heap.get?_push_of_some _ (Heap.get?_push_size _ rfl)))
  have o1 : (zg5 t1 t2 s.heap l1 l2).get? s.heap.objs.size = some _ := Heap.get?_push_of_some _ (Heap.get?_push_of_some _ (Heap.get?_push_of_some _ (Heap.get?_push_of_some _ (Heap.get?_push_size _ rfl))))
  show _ ∧ _
  rw [s2, s3, s4] at o5
  rw [s1, s2] at o3
  rw [s3] at o4
  rw [s1] at o2
  rw [s4]
  refine ⟨⟨_, o5, rfl⟩, q _ ⟨o5, o3, ⟨_, _, o4⟩, Wk.new (o := default) o1, Wk.new (o := default) o2⟩ fun c o x => ?_⟩
  exact Heap.get?_push_of_some _ (Heap.get?_push_of_some _ (Heap.get?_push_of_some _ (Heap.get?_push_of_some _ (Heap.get?_push_of_some _ x))))
end
def SqK (t : Bool) (K : PySem.W.Frag) (H : Hp) (a : Addr) (xs : List V) : Prop := match t with | true => SqT K H a xs | false => SqL K H a xs
theorem SqK.get {X : Cx} {pins : List (Addr × Obj)} {σ : L2.St} {H : Hp} {s : Shared} {t : Bool} {a : Addr} {xs : List V} (I : Inv X pins σ H s) (h : SqK t X.K H a xs) : ∃ us : List Value, Vals xs us ∧ Sq t s.heap a us.toArray := by
  cases t with
  | true => obtain ⟨us, r, p, _⟩ := I.tuple h; exact ⟨us, r, show s.heap.IsTuple a us.toArray from p⟩
  | false => obtain ⟨us, r, p, _⟩ := I.list h; exact ⟨us, r, p.isList⟩
theorem SqK.inj {X : Cx} {pins : List (Addr × Obj)} {σ : L2.St} {H : Hp} {s : Shared} {t : Bool} {a : Addr} {xs ys : List V} (I : Inv X pins σ H s) (h : SqK t X.K H a xs) (h' : SqK t X.K H a ys) : xs = ys := by
  cases t with
  | true => exact I.tuple_inj h h'
  | false => exact I.list_inj h h'
def ItzG (t1 t2 : Bool) (K : PySem.W.Frag) (a b : Addr) : It :=
  ⟨fun i H => ∃ (xs ys : List V) (x y : V), SqK t1 K H a xs ∧ SqK t2 K H b ys ∧ xs[i]? = some x ∧ ys[i]? = some y,
    fun i H v H' => ∃ T x y, v = .ref T ∧ H T = none ∧ H' = upd H T (.tup [x, y]) ∧ (∀ xs, SqK t1 K H a xs → xs[i]? = some x) ∧ ∀ ys, SqK t2 K H b ys → ys[i]? = some y,
    fun i H => ∃ xs ys : List V, SqK t1 K H a xs ∧ SqK t2 K H b ys ∧ (xs.length ≤ i ∨ ys.length ≤ i)⟩
theorem turn_zg {P : Program} {w : World} {K : PySem.W.Frag} {elts : List Expr} {kk : Nat} {tpos : Pos} {t1 t2 : Bool} {a b z TI TO i1 i2 : Addr} (D : ZipApart z TI TO i1 i2 a b) :
    Turn P w K (.Tuple elts kk tpos) (ItzG t1 t2 K a b) [z, TI, TO, i1, i2] z (fun i h => ZAt t1 t2 h z TI TO i1 i2 a b i) where
  mem := List.mem_cons_self
  obj := fun i h S c hc => by
    simp only [List.mem_cons, List.not_mem_nil, or_false] at hc
    obtain ⟨Z, P, ⟨x, y, O⟩, w1, w2⟩ := S
    rcases hc with rfl | rfl | rfl | rfl | rfl
    · exact ⟨_, Z, fun v q => nomatch q⟩
    · exact ⟨_, P, fun v q => nomatch q⟩
    · exact ⟨_, O, fun v q => nomatch q⟩
    · exact w1.obj
    · exact w2.obj
  keep := fun i h h' S k => by
    obtain ⟨Z, P, ⟨x, y, O⟩, w1, w2⟩ := S
    exact ⟨k z (by simp) _ Z, k TI (by simp) _ P, ⟨x, y, k TO (by simp) _ O⟩, w1.at fun o => k i1 (by simp) o, w2.at fun o => k i2 (by simp) o⟩
  item := by
    intro X eP eW eK calm i pins s σ H E I free S go
    subst eP eW eK
    obtain ⟨xs, ys, x, y, q1, q2, hx, hy⟩ := go
    obtain ⟨us, r1, p1⟩ := SqK.get I q1
    obtain ⟨ws, r2, p2⟩ := SqK.get I q2
    obtain ⟨u, hu, ru⟩ := r1.get hx
    obtain ⟨u', hu', ru'⟩ := r2.get hy
    have zlt : z < s.heap.objs.size := Heap.lt_size S.z
    refine next_zip_yes D S p1 p2 (x := u) (y := u') (by simpa using hu) (by simpa using hu') fun h1 Z1 O1 w1 w2 T1 kp => ⟨_, rfl, ?_⟩
    refine wpAny_letOwnedTupleGo_zip (s := { s with heap := h1 }) Z1 fun h2 Z2 sb => ?_
    have T2 : h2.get? s.heap.objs.size = some { cls := .type "tuple", data := .seq #[u, u'] } := (sb.2 _ (Nat.ne_of_gt zlt)).trans T1
    have pair : ObjOk X.prog X.w (upd H s.heap.objs.size (.tup [x, y])) h2 s.heap.objs.size (.tup [x, y]) := ⟨by show 2 ≤ sizeLine; decide, [u, u'], .cons ru (.cons ru' .nil), ⟨_, T2, rfl, _, rfl⟩⟩
    have kept : ∀ c o, c ∉ [z, TI, TO, i1, i2] → s.heap.get? c = some o → h2.get? c = some o := fun c o nc e => by
      simp only [List.mem_cons, List.not_mem_nil, or_false, not_or] at nc
      exact (sb.2 c nc.1).trans (kp c o nc.1 nc.2.2.1 nc.2.2.2.1 nc.2.2.2.2 e)
    have J : Inv X pins σ (upd H s.heap.objs.size (.tup [x, y])) { s with heap := h2 } := I.turnedNew (t' := s.toks) (ch := [z, TI, TO, i1, i2]) kept free (Nat.le_refl _) pair
    refine ⟨.ref s.heap.objs.size, _, J, rfl, ⟨_, x, y, rfl, I.hok.fresh (Nat.le_refl _), rfl, fun l hl => by rw [SqK.inj I hl q1]; exact hx, fun l hl => by rw [SqK.inj I hl q2]; exact hy⟩, ?_, fun c hc => ?_⟩
    · refine ⟨Z2, ?_, ⟨u, u', (sb.2 _ D.TOz).trans O1⟩, w1.at fun o e => (sb.2 _ D.i1z).trans e, w2.at fun o e => (sb.2 _ D.i2z).trans e⟩
      exact (sb.2 _ D.TIz).trans (kp _ _ D.TIz D.TITO D.TIi1 D.TIi2 S.ti)
    · have lt : c < s.heap.objs.size := by
        simp only [List.mem_cons, List.not_mem_nil, or_false] at hc
        obtain ⟨_, _, O⟩ := S.to
        rcases hc with rfl | rfl | rfl | rfl | rfl
        · exact zlt
        · exact Heap.lt_size S.ti
        · exact Heap.lt_size O
        · exact S.one.lt
        · exact S.two.lt
      rw [upd_ne (Nat.ne_of_lt lt)]
      exact (free c hc).1
  done := by
    intro X eP eW eK calm i pins s σ H E I free S stop
    subst eP eW eK
    obtain ⟨xs, ys, q1, q2, no⟩ := stop
    obtain ⟨us, r1, p1⟩ := SqK.get I q1
    obtain ⟨ws, r2, p2⟩ := SqK.get I q2
    have l1 := r1.length
    have l2 := r2.length
    refine next_zip_no (I.ok.hd calm) D S p1 p2 (no.imp (fun q => by simp; omega) fun q => by simp; omega) fun h1 kp => ⟨rfl, I.turnedL (t' := s.toks) (ch := [z, TI, TO, i1, i2]) (fun c o nc e => ?_) free⟩
    simp only [List.mem_cons, List.not_mem_nil, or_false, not_or] at nc
    exact kp c o nc.1 nc.2.2.1 nc.2.2.2.1 nc.2.2.2.2 e
  self := fun A i s Q E S q => wpAny_pyIter_zip S.z q
def iZipG (K : PySem.W.Frag) (ta : TA) : TI := fun σ H R => ta σ H fun vs H1 => ∃ t1 t2 a b xs ys, vs = [.ref a, .ref b] ∧ SqK t1 K H1 a xs ∧ SqK t2 K H1 b ys ∧ R (ItzG t1 t2 K a b) H1
theorem pi_zipG {X : Cx} {e e2 : Expr} {ta : TA} {p pos tpos : Pos} {elts : List Expr} {kk : Nat} (hg : Gl X "zip") (hm : X.mg "zip" = none) (ha : PA X [e, e2] ta)
    (hs : starEach [e, e2] X.env = (false, eval e X.env) :: starEach [e2] X.env) (hpl : (backTo pos (starEach [e2] X.env)).any (·.1) = false) :
    PI X (.Tuple elts kk tpos) (.Call (.Name "zip" p) [e, e2] [] pos) (iZipG X.K ta) := by
  refine ⟨fun pins s σ H R I h => Call_ (ld_blt I hg hm boot_zip (callWith_type1 (thn (ha.run pos pins s σ H _ I h) fun us s1 ⟨vs, H1, I1, rv, t1, t2, a, b, xs, ys, ev, q1, q2, q⟩ => ?_) hs hpl))⟩
  subst ev
  obtain ⟨u, u', rfl, r1, r2⟩ := vals2 rv
  cases r1
  cases r2
  obtain ⟨us, _, p1⟩ := SqK.get I1 q1
  obtain ⟨ws, _, p2⟩ := SqK.get I1 q2
  refine call_zg p1 p2 fun h' S kp => wpAny_pyIter_zip S.z ?_
  have J : Inv X pins σ H1 { s1 with heap := h' } := I1.kept (t' := s1.toks) kp
  refine ⟨s1.heap.objs.size + 4, [s1.heap.objs.size + 4, s1.heap.objs.size + 2, s1.heap.objs.size + 3, s1.heap.objs.size, s1.heap.objs.size + 1], _, _, H1, rfl, J, turn_zg (PySem.W.ktu_apart s1.heap.objs.size a b p1.lt p2.lt), S, fun c hc => ?_, q⟩
  have le : s1.heap.objs.size ≤ c := by
    simp only [List.mem_cons, List.not_mem_nil, or_false] at hc
    rcases hc with rfl | rfl | rfl | rfl | rfl
    · exact Nat.le_add_right _ _
    · exact Nat.le_add_right _ _
    · exact Nat.le_add_right _ _
    · exact Nat.le_refl _
    · exact Nat.le_add_right _ _
  exact I1.fpOk le (I1.hok.fresh le)
def IteG (t : Bool) (K : PySem.W.Frag) (a : Addr) : It :=
  ⟨fun i H => ∃ (xs : List V) (x : V), SqK t K H a xs ∧ xs[i]? = some x,
    fun i H v H' => ∃ T x, v = .ref T ∧ H T = none ∧ H' = upd H T (.tup [.int (i : Nat), x]) ∧ ∀ xs, SqK t K H a xs → xs[i]? = some x,
    fun i H => ∃ xs : List V, SqK t K H a xs ∧ xs.length ≤ i⟩
def iEnumG (K : PySem.W.Frag) (ta : TA) : TI := fun σ H R => ta σ H fun vs H1 => ∃ t a xs, vs = [.ref a] ∧ SqK t K H1 a xs ∧ R (IteG t K a) H1
/-! ### enumerate(a) -/
section
variable {prog : Program} {w : World} {A : Around} {E : Value → Shared → Prop} {s : Shared} {t : Bool}
theorem enum_yes {e i1 l : Addr} {i : Nat} {xs : Array Value} {x old : Value} {Q : Value → Shared → Prop} (N : IsEnum s.heap e i1 i old) (w1 : Wk t s.heap i1 l i) (hl : Sq t s.heap l xs) (hx : xs[i]? = some x) (ne : e ≠ i1)
    (q : ∀ h', IsEnumOut h' e i1 ((i : Int) + 1) x s.heap.objs.size → Wk t h' i1 l (i + 1) → h'.get? s.heap.objs.size = some { cls := .type "tuple", data := .seq #[.int i s.toks, x] } →
      (∀ b o, b ≠ e → b ≠ i1 → s.heap.get? b = some o → h'.get? b = some o) → Q (.ref s.heap.objs.size) { s with heap := h', toks := s.toks + 1 }) :
    wpAny (model prog w) A (Builtin.«enumerate.__next__» ⟨[.ref e], []⟩) (fun fin s' => ∃ v, fin = .done (.ret v) ∧ Q v s') E s := by
  obtain ⟨hp, g, d, tk, os⟩ := s
  have elt : e < hp.objs.size := Heap.lt_size N
  show wpAny _ _ (field (.ref e) 2 >>= _) _ _ _
  refine wpAny_bind (wpAny_field N rfl (x := .ref i1) rfl (wpAny_bind (nx_yes w1 hl hx fun ha wa sa => ?_)))
  have sa' : Heap.SameBut i1 hp ha := sa
  have Na : IsEnum ha e i1 i old := (sa'.2 e ne).trans N
  show wpAny _ _ (field (.ref e) 3 >>= _) _ _ ⟨ha, g, d, tk, os⟩
  refine wpAny_bind (wpAny_field Na rfl (x := rawInt i) rfl ?_)
  show wpAny _ _ (field (.ref e) 4 >>= _) _ _ ⟨ha, g, d, tk, os⟩
  refine wpAny_bind (wpAny_field Na rfl (x := .none) rfl ?_)
  show wpAny _ _ (mkInt i >>= _) _ _ ⟨ha, g, d, tk, os⟩
  refine wpAny_bind (wpAny_mkInt ?_)
  show wpAny _ _ (setField (.ref e) 3 (rawInt ((i : Int) + 1)) >>= _) _ _ ⟨ha, g, d, tk + 1, os⟩
  refine wpAny_bind (wpAny_setField_rec Na (by simp) fun hb Nb sb => ?_)
  have sb' : Heap.SameBut e ha hb := sb
  have Nb' : IsEnum hb e i1 ((i : Int) + 1) old := Nb
  show wpAny _ _ (setField (.ref e) 4 .none >>= _) _ _ ⟨hb, g, d, tk + 1, os⟩
  refine wpAny_bind (wpAny_setField_rec Nb' (by simp) fun hc Nc sc => ?_)
  have sc' : Heap.SameBut e hb hc := sc
  have Nc' : IsEnum hc e i1 ((i : Int) + 1) old := Nc
  show wpAny _ _ (newTuple [.int i tk, x] >>= _) _ _ ⟨hc, g, d, tk + 1, os⟩
  refine wpAny_bind (wpAny_newTuple ?_)
  have size : hc.objs.size = hp.objs.size := by rw [sc'.1, sb'.1, sa'.1]
  have wc : Wk t hc i1 l (i + 1) := (Wk.but wa sb'.extBut ne.symm).but sc'.extBut ne.symm
  have kc : ∀ b o, b ≠ e → b ≠ i1 → hp.get? b = some o → hc.get? b = some o := fun b o n1 n2 z => sc'.extBut b o n1 (sb'.extBut b o n1 (sa'.extBut b o n2 z))
  generalize hd' : hc.push { cls := .type "tuple", data := .seq #[.int i tk, x] } = hd
  have up : ∀ b o, hc.get? b = some o → hd.get? b = some o := fun b o z => by rw [← hd']; exact Heap.get?_push_of_some _ z
  have Nd : IsEnum hd e i1 ((i : Int) + 1) old := up _ _ Nc'
  have Td : hd.get? hp.objs.size = some { cls := .type "tuple", data := .seq #[.int i tk, x] } := by rw [← hd', ← size]; exact Heap.get?_push_size _ rfl
  show wpAny _ _ (Builtin.SmallTypes.ownedTupleIsFree (.ref e) >>= _) _ _ _
  rw [show ({ heap := hc, gens := g, drawn := d, toks := tk + 1, os := os } : Shared).heap.objs.size = hp.objs.size from size]
  refine wpAny_bind ?_
  unfold Builtin.SmallTypes.ownedTupleIsFree
  refine wpAny_bind (wpAny_field Nd rfl (x := .none) rfl (wpAny_pure ?_))
  simp only [if_true]
  refine wpAny_bind (wpAny_rule (wpAny_bind (wpAny_field Nd rfl (x := old) rfl (wpAny_bind (wpAny_setField_rec Nd (by simp) fun he Ne se => ?_)))))
  have se' : Heap.SameBut e hd he := se
  have Ne' : IsEnum he e i1 ((i : Int) + 1) x := Ne
  show wpAny _ _ (Builtin.SmallTypes.ownedTupleHandOut (.ref e) (.ref hp.objs.size) >>= _) _ _ ⟨he, g, d, tk + 1, os⟩
  refine wpAny_bind ?_
  unfold Builtin.SmallTypes.ownedTupleHandOut
  refine wpAny_bind (wpAny_setField_rec Ne' (by simp) fun hf Nf sf => ?_)
  have sf' : Heap.SameBut e he hf := sf
  have Nf' : IsEnumOut hf e i1 ((i : Int) + 1) x hp.objs.size := Nf
  refine wpAny_setField_rec Nf' (by simp) fun hj Nj sj => ?_
  have sj' : Heap.SameBut e hf hj := sj
  have Nj' : IsEnumOut hj e i1 ((i : Int) + 1) x hp.objs.size := Nj
  have end_ : ∀ b o, b ≠ e → hd.get? b = some o → hj.get? b = some o := fun b o n1 z => sj'.extBut b o n1 (sf'.extBut b o n1 (se'.extBut b o n1 z))
  exact wpAny_bind (wpAny_letGo (wpAny_pure ⟨_, rfl, q hj Nj' (wc.at fun o z => end_ _ o ne.symm (up _ _ z)) (end_ _ _ (Nat.ne_of_gt elt) Td) fun b o n1 n2 z => end_ b o n1 (up _ _ (kc b o n1 n2 z))⟩))
theorem next_enum_yes {e i1 l : Addr} {i : Nat} {xs : Array Value} {x old : Value} {Q : Option Value → Shared → Prop} (N : IsEnum s.heap e i1 i old) (w1 : Wk t s.heap i1 l i) (hl : Sq t s.heap l xs) (hx : xs[i]? = some x) (ne : e ≠ i1)
    (q : ∀ h', IsEnumOut h' e i1 ((i : Int) + 1) x s.heap.objs.size → Wk t h' i1 l (i + 1) → h'.get? s.heap.objs.size = some { cls := .type "tuple", data := .seq #[.int i s.toks, x] } →
      (∀ b o, b ≠ e → b ≠ i1 → s.heap.get? b = some o → h'.get? b = some o) → Q (some (.ref s.heap.objs.size)) { s with heap := h', toks := s.toks + 1 }) : wpAny (model prog w) A (pyNext (.ref e)) Q E s := by
  have ty : s.TypeIs (.ref e) "enumerate" := ⟨_, N, rfl⟩
  unfold pyNext
  refine wpAny_bind (wpAny_attempt (wpAny_callSpecial?_slot (name := Str.ofString "__next__") ty PySem.F.slot_enumerate_next (wpAny_call_entry PySem.F.slot_enumerate_next ty PySem.F.entry_enumerate_next ?_ (PySem.F.args_enumerate_next_1 _))))
  exact enum_yes N w1 hl hx ne fun h' a b c k => wpAny_pure (q h' a b c k)
theorem next_enum_no {e i1 l : Addr} {i : Nat} {xs : Array Value} {old : Value} {Q : Option Value → Shared → Prop} (hh : A.handled = none) (N : IsEnum s.heap e i1 i old) (w1 : Wk t s.heap i1 l i) (hl : Sq t s.heap l xs) (hx : xs[i]? = none)
    (q : ∀ h', Heap.ExtBut i1 s.heap h' → Q none { s with heap := h' }) : wpAny (model prog w) A (pyNext (.ref e)) Q E s := by
  have ty : s.TypeIs (.ref e) "enumerate" := ⟨_, N, rfl⟩
  unfold pyNext
  refine wpAny_bind (wpAny_attempt (wpAny_callSpecial?_slot (name := Str.ofString "__next__") ty PySem.F.slot_enumerate_next (wpAny_call_entry PySem.F.slot_enumerate_next ty PySem.F.entry_enumerate_next ?_ (PySem.F.args_enumerate_next_1 _))))
  show wpAny _ _ (field (.ref e) 2 >>= _) _ _ _
  refine wpAny_bind (wpAny_field N rfl (x := .ref i1) rfl (wpAny_bind (nx_no hh w1 hl hx fun h' z eb ⟨o, a, b⟩ => ?_)))
  exact wpAny_bind (wpAny_isInstance (T := "StopIteration") (b := true) ⟨o, a, b⟩ isSubtype_stop (wpAny_pure (q _ eb)))
end
theorem meets_eg (t : Bool) (l : Addr) (xs : Array Value) :
    Meets (Builtin.«enumerate.__new__» ⟨[.type "enumerate", .ref l], []⟩) (fun _ R s => Sq t s.heap l xs ∧ (∃ o, s.heap.get? l = some o) ∧
      R (.ok (.ret (.ref (zg1 t s.heap l).objs.size))) { s with heap := (zg1 t s.heap l).push { cls := .type "enumerate", data := .fields #[.none, .bool false, .ref s.heap.objs.size, rawInt 0, .none, .none] } }) :=
  .of_wp fun prog w A R s h => by
    obtain ⟨hp, g, d, tk, os⟩ := s
    obtain ⟨a, ⟨o, e⟩, h⟩ := h
    have sub := PySem.sub_enumerate
    have a1 : Sq t (Shared.heap ⟨hp, g, d, tk, os⟩) l xs := a
    wp_walk using PySem.AutoSeq1.wpAny_loadPart' e
    refine wpAny_stack_any fun st => wpAny_pure ?_
    split
    · rename_i c _ _ _ _ _
      cases (c == Value.type "enumerate")
      · wp_walk using PySem.AutoSeq1.wpAny_loadPart' e, iter_sq a1
        exact ⟨_, rfl, h⟩
      · wp_walk using PySem.AutoSeq1.wpAny_loadPart' e, iter_sq a1
        exact ⟨_, rfl, h⟩
    · wp_walk using PySem.AutoSeq1.wpAny_loadPart' e, iter_sq a1
      exact ⟨_, rfl, h⟩
section
variable {prog : Program} {w : World} {A : Around} {E : Value → Shared → Prop} {s : Shared} {t : Bool}
theorem call_eg {l : Addr} {xs : Array Value} {Q : Value → Shared → Prop} (a : Sq t s.heap l xs)
    (q : ∀ h', IsEnum h' (s.heap.objs.size + 1) s.heap.objs.size 0 .none → Wk t h' s.heap.objs.size l 0 → (∀ c o, s.heap.get? c = some o → h'.get? c = some o) → Q (.ref (s.heap.objs.size + 1)) { s with heap := h' }) :
    wpAny (model prog w) A (call (.type "enumerate") [.ref l]) Q E s := by
  have there : ∃ o, s.heap.get? l = some o := by
    cases t with
    | true => obtain ⟨o, e, _⟩ := a; exact ⟨o, e⟩
    | false => obtain ⟨o, e, _⟩ := a; exact ⟨o, e⟩
  refine callType_new PySem.F.called_enumerate (by decide) (PySem.F.typeCall_enumerate_1 _) (PySem.F.newCall_enumerate_1 _) (fun obj => PySem.F.args_object_init_2 obj _) PySem.F.entry_enumerate_new (meets_eg t l xs) ⟨a, there, ?_⟩
  have s1 : (zg1 t s.heap l).objs.size = s.heap.objs.size + 1 := Heap.size_push ..
  have o2 : ((zg1 t s.heap l).push { cls := .type "enumerate", data := .fields #[.none, .bool false, .ref s.heap.objs.size, rawInt 0, .none, .none] }).get? (zg1 t s.heap l).objs.size = some _ := Heap.get?_push_size _ rfl
  have o1 : ((zg1 t s.heap l).push { cls := .type "enumerate", data := .fields #[.none, .bool false, .ref s.heap.objs.size, rawInt 0, .none, .none] }).get? s.heap.objs.size = some _ := Heap.get?_push_of_some _ (Heap.get?_push_size _ rfl)
  show _ ∧ _
  rw [s1] at o2 ⊢
  exact ⟨⟨_, o2, rfl⟩, q _ o2 (Wk.new (o := default) o1) fun c o x => Heap.get?_push_of_some _ (Heap.get?_push_of_some _ x)⟩
end
theorem turn_eg {P : Program} {w : World} {K : PySem.W.Frag} {elts : List Expr} {kk : Nat} {tpos : Pos} {t : Bool} (a e i1 : Addr) :
    Turn P w K (.Tuple elts kk tpos) (IteG t K a) [e, i1] e (fun i h => (∃ old, IsEnum h e i1 ((i : Nat) : Int) old) ∧ Wk t h i1 a i ∧ e ≠ i1) where
  mem := List.mem_cons_self
  obj := fun i h S c hc => by
    simp only [List.mem_cons, List.not_mem_nil, or_false] at hc
    obtain ⟨⟨old, N⟩, w1, _⟩ := S
    rcases hc with rfl | rfl
    · exact ⟨_, N, fun v q => nomatch q⟩
    · exact w1.obj
  keep := fun i h h' S k => by
    obtain ⟨⟨old, N⟩, w1, ne⟩ := S
    exact ⟨⟨old, k e (by simp) _ N⟩, w1.at fun o => k i1 (by simp) o, ne⟩
  item := by
    intro X eP eW eK calm i pins s σ H E I free S go
    subst eP eW eK
    obtain ⟨⟨old, N⟩, w1, ne⟩ := S
    obtain ⟨xs, x, q1, hx⟩ := go
    obtain ⟨us, r1, p1⟩ := SqK.get I q1
    obtain ⟨u, hu, ru⟩ := r1.get hx
    have elt : e < s.heap.objs.size := Heap.lt_size N
    have ilt : i1 < s.heap.objs.size := w1.lt
    refine next_enum_yes N w1 p1 (x := u) (by simpa using hu) ne fun h1 N1 w2 T1 kp => ⟨_, rfl, ?_⟩
    refine wpAny_letOwnedTupleGo_enum (s := { s with heap := h1, toks := s.toks + 1 }) N1 fun h2 N2 sb => ?_
    have T2 : h2.get? s.heap.objs.size = some { cls := .type "tuple", data := .seq #[.int i s.toks, u] } := (sb.2 _ (Nat.ne_of_gt elt)).trans T1
    have pair : ObjOk X.prog X.w (upd H s.heap.objs.size (.tup [.int (i : Nat), x])) h2 s.heap.objs.size (.tup [.int (i : Nat), x]) := ⟨by show 2 ≤ sizeLine; decide, [.int i s.toks, u], .cons ⟨_, rfl⟩ (.cons ru .nil), ⟨_, T2, rfl, _, rfl⟩⟩
    have kept : ∀ c o, c ∉ [e, i1] → s.heap.get? c = some o → h2.get? c = some o := fun c o nc z => by
      simp only [List.mem_cons, List.not_mem_nil, or_false, not_or] at nc
      exact (sb.2 c nc.1).trans (kp c o nc.1 nc.2 z)
    have J : Inv X pins σ (upd H s.heap.objs.size (.tup [.int (i : Nat), x])) { s with heap := h2, toks := s.toks + 1 } := I.turnedNew (ch := [e, i1]) kept free (Nat.le_refl _) pair
    refine ⟨.ref s.heap.objs.size, _, J, rfl, ⟨_, x, rfl, I.hok.fresh (Nat.le_refl _), rfl, fun l hl => by rw [SqK.inj I hl q1]; exact hx⟩, ⟨⟨u, ?_⟩, w2.at fun o z => (sb.2 i1 ne.symm).trans z, ne⟩, fun c hc => ?_⟩
    · rw [show ((i + 1 : Nat) : Int) = (i : Int) + 1 from rfl]
      exact N2
    · have lt : c < s.heap.objs.size := by
        simp only [List.mem_cons, List.not_mem_nil, or_false] at hc
        rcases hc with rfl | rfl
        · exact elt
        · exact ilt
      rw [upd_ne (Nat.ne_of_lt lt)]
      exact (free c hc).1
  done := by
    intro X eP eW eK calm i pins s σ H E I free S stop
    subst eP eW eK
    obtain ⟨⟨old, N⟩, w1, ne⟩ := S
    obtain ⟨xs, q1, no⟩ := stop
    obtain ⟨us, r1, p1⟩ := SqK.get I q1
    have l1 := r1.length
    obtain ⟨f0, f1, f2, f3, f4, f5⟩ := free i1 (by simp)
    exact next_enum_no (I.ok.hd calm) N w1 p1 (by simp; omega) fun h1 eb => ⟨rfl, I.turned (t' := s.toks) (fun b o hb z => eb b o hb z) f0 f1 f3 f4 f5⟩
  self := fun A i s Q E S q => let ⟨⟨_, N⟩, _⟩ := S; wpAny_pyIter_enum N q
theorem pi_enumG {X : Cx} {e : Expr} {ta : TA} {p pos tpos : Pos} {elts : List Expr} {kk : Nat} (hg : Gl X "enumerate") (hm : X.mg "enumerate" = none) (ha : PA X [e] ta) (hs : starEach [e] X.env = [(false, eval e X.env)]) :
    PI X (.Tuple elts kk tpos) (.Call (.Name "enumerate" p) [e] [] pos) (iEnumG X.K ta) := by
  refine ⟨fun pins s σ H R I h => Call_ (ld_blt I hg hm boot_enumerate (callWith_type1 (thn (ha.run pos pins s σ H _ I h) fun us s1 ⟨vs, H1, I1, rv, t, a, xs, ev, q1, q⟩ => ?_) hs rfl))⟩
  subst ev
  obtain ⟨u, rfl, r1⟩ := vals1 rv
  cases r1
  obtain ⟨us, _, p1⟩ := SqK.get I1 q1
  refine call_eg p1 fun h' N w1 kp => wpAny_pyIter_enum N ?_
  have J : Inv X pins σ H1 { s1 with heap := h' } := I1.kept (t' := s1.toks) kp
  refine ⟨s1.heap.objs.size + 1, [s1.heap.objs.size + 1, s1.heap.objs.size], _, _, H1, rfl, J, turn_eg a (s1.heap.objs.size + 1) s1.heap.objs.size, ⟨⟨.none, N⟩, w1, Nat.succ_ne_self _⟩, fun c hc => ?_, q⟩
  have le : s1.heap.objs.size ≤ c := by
    simp only [List.mem_cons, List.not_mem_nil, or_false] at hc
    rcases hc with rfl | rfl
    · exact Nat.le_add_right _ _
    · exact Nat.le_refl _
  exact I1.fpOk le (I1.hok.fresh le)
end Pv

end
section
set_option Elab.async false
set_option maxRecDepth 100000
set_option maxHeartbeats 4000000
set_option autoImplicit false
set_option linter.all false
/-! Pv11: what loops walk, targets, loops, statements. -/
namespace Pv
open PySem PySem.Spec PyProof.Rows L2

/-- the walk at J gives the items of sv -/
def SvOk (g : Gd) (m : List Addr) (sv : SV) (J : It) (H : Hp) : Prop := ∀ (m' : List Addr) (H' : Hp) (h : PH), Kp g m H m' H' → HR g m' h H' → ∀ i,
  (∀ x, svAt h sv i = some (some x) → J.go i H' ∧ ∀ v H'', J.yld i H' v H'' → HR g m' h H'' ∧ Ext m' H' m' H'' ∧ VR g m' H'' x v) ∧ (svAt h sv i = some none → J.stop i H')
def pI (g : Gd) (f : PF SV) : TI := fun σ H R => ∃ m h ρ sv h', At g m h H ρ σ ∧ f ρ h = some (sv, h') ∧ ∀ J m' H', Ext m H m' H' → HR g m' h' H' → SvOk g m' sv J H' → R J H'
section
variable {g : Gd} {m m1 m2 : List Addr} {H H1 H2 : Hp} {h h1 h' : PH} {sv : SV} {J : It}
theorem Kp.trans (x : Kp g m H m1 H1) (y : Kp g m1 H1 m2 H2) : Kp g m H m2 H2 := by
  refine ⟨?_, fun a vs s => y.tup a vs (x.tup a vs s), fun a vs s => y.rol a vs (x.rol a vs s)⟩
  obtain ⟨r, rfl⟩ := x.pre
  obtain ⟨r', rfl⟩ := y.pre
  exact ⟨r ++ r', by simp⟩
theorem SvOk.kp (s : SvOk g m sv J H) (k : Kp g m H m1 H1) : SvOk g m1 sv J H1 := fun m' H' h k' r i => s m' H' h (k.trans k') r i
theorem sv_tup {a : Addr} {vs : List V} {xs : List PV} (s : SqT g.K H a vs) (rv : VRs g m H xs vs) : SvOk g m (.fix xs) (Itt g.K a) H := by
  intro m' H' h k r i
  have s' := k.tup a vs s
  have rv' := VRs.mono k _ _ rv
  refine ⟨fun x e => ?_, fun e => ?_⟩
  · have e' : xs[i]? = some x := Option.some.inj e
    obtain ⟨v, e1, e2⟩ := rv'.get e'
    refine ⟨⟨vs, v, s', e1⟩, fun w H'' y => ?_⟩
    obtain ⟨rfl, y⟩ := y
    have := y vs s'
    rw [e1] at this
    cases this
    exact ⟨r, .refl, e2⟩
  · have e' : xs[i]? = none := Option.some.inj e
    refine ⟨vs, s', ?_⟩
    have := rv'.none e'
    exact List.getElem?_eq_none_iff.mp this
theorem sv_lst {a : Addr} {p : Nat} (ep : m[p]? = some a) : SvOk g m (.lst p) (Itl g.K a) H := by
  intro m' H' h k r i
  have ep' := k.get ep
  refine ⟨fun x e => ?_, fun e => ?_⟩
  · have e' : (match h[p]? with | some (.lst xs) => some xs[i]? | _ => none) = some (some x) := e
    split at e'
    · rename_i xs hp
      have e2 : xs[i]? = some x := Option.some.inj e'
      obtain ⟨b, vs, m1, h1, rv⟩ := r.lst hp
      rw [ep'] at m1
      cases m1
      obtain ⟨v, e3, e4⟩ := rv.get e2
      refine ⟨⟨vs, v, .of h1, e3⟩, fun w H'' y => ?_⟩
      obtain ⟨rfl, y⟩ := y
      have := y vs (.of h1)
      rw [e3] at this
      cases this
      exact ⟨r, .refl, e4⟩
    · cases e'
  · have e' : (match h[p]? with | some (.lst xs) => some xs[i]? | _ => none) = some none := e
    split at e'
    · rename_i xs hp
      have e2 : xs[i]? = none := Option.some.inj e'
      obtain ⟨b, vs, m1, h1, rv⟩ := r.lst hp
      rw [ep'] at m1
      cases m1
      exact ⟨vs, .of h1, List.getElem?_eq_none_iff.mp (rv.none e2)⟩
    · cases e'
theorem sv_str {z : Str} : SvOk g m (.fix (z.cps.toList.map fun c => .str ⟨#[c]⟩)) (Its z) H := by
  intro m' H' h k r i
  refine ⟨fun x e => ?_, fun e => ?_⟩
  · have e' : (z.cps.toList.map fun c => PV.str ⟨#[c]⟩)[i]? = some x := Option.some.inj e
    rw [List.getElem?_map] at e'
    obtain ⟨c, e1, e2⟩ := Option.map_eq_some_iff.mp e'
    subst e2
    rw [Array.getElem?_toList] at e1
    refine ⟨(Array.getElem?_eq_some_iff.mp e1).1, fun w H'' y => ?_⟩
    obtain ⟨rfl, c', e3, rfl⟩ := y
    rw [e1] at e3
    cases e3
    exact ⟨r, .refl, rfl⟩
  · have e' : (z.cps.toList.map fun c => PV.str ⟨#[c]⟩)[i]? = none := Option.some.inj e
    rw [List.getElem?_map, Option.map_eq_none_iff, Array.getElem?_toList] at e'
    exact Array.getElem?_eq_none_iff.mp e'
theorem sv_rng {lo : Int} {n : Nat} : SvOk g m (.rng lo n) (Itr lo n) H := by
  intro m' H' h k r i
  have e0 : svAt h (.rng lo n) i = some (if i < n then some (.int (lo + i)) else none) := rfl
  rw [e0]
  refine ⟨fun x e => ?_, fun e => ?_⟩
  · split at e
    · rename_i hi
      cases e
      refine ⟨hi, fun w H'' y => ?_⟩
      obtain ⟨rfl, rfl⟩ := y
      exact ⟨r, .refl, rfl⟩
    · cases e
  · split at e
    · cases e
    · rename_i hi
      exact Nat.le_of_not_lt hi

/-- a list or a tuple at a gives the items of sv -/
def SqSv (g : Gd) (m : List Addr) (sv : SV) (t : Bool) (a : Addr) (H : Hp) : Prop := ∀ (m' : List Addr) (H' : Hp) (h : PH), Kp g m H m' H' → HR g m' h H' → ∀ i r, svAt h sv i = some r → ∃ vs xs, SqK t g.K H' a vs ∧ VRs g m' H' xs vs ∧ r = xs[i]?
theorem seq_sv {x : PV} {v : V} (hr : HR g m h H) (rx : VR g m H x v) (e : seqSV h x = some sv) : ∃ t a vs, v = .ref a ∧ SqK t g.K H a vs ∧ SqSv g m sv t a H := by
  cases x with
  | tup xs =>
    cases e
    obtain ⟨a, vs, rfl, s, rv⟩ := rx
    exact ⟨true, a, vs, rfl, s, fun m' H' h' k r i w e => ⟨vs, xs, k.tup a vs s, VRs.mono k _ _ rv, (Option.some.inj e).symm⟩⟩
  | ref p =>
    have e' : (match h[p]? with | some (.lst _) => some (SV.lst p) | _ => none) = some sv := e
    split at e'
    · rename_i xs hp
      cases e'
      obtain ⟨a, vs, m1, h1, rv⟩ := hr.lst hp
      refine ⟨false, a, vs, rx.ref_eq m1, .of h1, fun m' H' h' k r i w e => ?_⟩
      have e' : (match h'[p]? with | some (.lst xs) => some xs[i]? | _ => none) = some w := e
      split at e'
      · rename_i ys hp'
        cases e'
        obtain ⟨b, ws, m2, h2, rw'⟩ := r.lst hp'
        rw [k.get m1] at m2
        cases m2
        exact ⟨ws, ys, .of h2, rw', rfl⟩
      · cases e'
    · cases e'
  | _ => cases e
theorem sv_zip {s1 s2 : SV} {t1 t2 : Bool} {a b : Addr} (q1 : SqSv g m s1 t1 a H) (q2 : SqSv g m s2 t2 b H) : SvOk g m (.zip s1 s2) (ItzG t1 t2 g.K a b) H := by
  intro m' H' h k r i
  have e0 : svAt h (.zip s1 s2) i = (match svAt h s1 i, svAt h s2 i with
    | some (some x), some (some y) => some (some (.tup [x, y]))
    | some none, some _ => some none
    | some (some _), some none => some none
    | _, _ => none) := rfl
  rw [e0]
  refine ⟨fun x e => ?_, fun e => ?_⟩
  · split at e
    · rename_i x1 x2 e1 e2
      cases e
      obtain ⟨vs, xs, sq1, rv1, f1⟩ := q1 m' H' h k r i _ e1
      obtain ⟨ws, ys, sq2, rv2, f2⟩ := q2 m' H' h k r i _ e2
      obtain ⟨v1, g1, g2⟩ := rv1.get f1.symm
      obtain ⟨v2, g3, g4⟩ := rv2.get f2.symm
      refine ⟨⟨vs, ws, v1, v2, sq1, sq2, g1, g3⟩, fun w H'' y => ?_⟩
      obtain ⟨T, u1, u2, rfl, hT, rfl, y1, y2⟩ := y
      have z1 := y1 vs sq1
      have z2 := y2 ws sq2
      rw [g1] at z1
      rw [g3] at z2
      cases z1
      cases z2
      obtain ⟨r1, x1⟩ := r.tup (ys := [v1, v2]) hT
      have kp := x1.kp r
      exact ⟨r1, x1, T, [v1, v2], rfl, .inl (.inl upd_same), v1, [v2], rfl, VR.mono kp _ _ g2, v2, [], rfl, VR.mono kp _ _ g4, rfl⟩
    · cases e
    · cases e
    · cases e
  · split at e
    · cases e
    · rename_i w e1 e2
      obtain ⟨vs, xs, sq1, rv1, f1⟩ := q1 m' H' h k r i _ e1
      obtain ⟨ws, ys, sq2, rv2, f2⟩ := q2 m' H' h k r i _ e2
      exact ⟨vs, ws, sq1, sq2, .inl (List.getElem?_eq_none_iff.mp (rv1.none f1.symm))⟩
    · rename_i w e1 e2
      obtain ⟨vs, xs, sq1, rv1, f1⟩ := q1 m' H' h k r i _ e1
      obtain ⟨ws, ys, sq2, rv2, f2⟩ := q2 m' H' h k r i _ e2
      exact ⟨vs, ws, sq1, sq2, .inr (List.getElem?_eq_none_iff.mp (rv2.none f2.symm))⟩
    · cases e
theorem sv_enum {s1 : SV} {t1 : Bool} {a : Addr} (q1 : SqSv g m s1 t1 a H) : SvOk g m (.enum s1) (IteG t1 g.K a) H := by
  intro m' H' h k r i
  have e0 : svAt h (.enum s1) i = (match svAt h s1 i with
    | some (some x) => some (some (.tup [.int i, x]))
    | some none => some none
    | none => none) := rfl
  rw [e0]
  refine ⟨fun x e => ?_, fun e => ?_⟩
  · split at e
    · rename_i x1 e1
      cases e
      obtain ⟨vs, xs, sq1, rv1, f1⟩ := q1 m' H' h k r i _ e1
      obtain ⟨v1, g1, g2⟩ := rv1.get f1.symm
      refine ⟨⟨vs, v1, sq1, g1⟩, fun w H'' y => ?_⟩
      obtain ⟨T, u1, rfl, hT, rfl, y1⟩ := y
      have z1 := y1 vs sq1
      rw [g1] at z1
      cases z1
      obtain ⟨r1, x1⟩ := r.tup (ys := [.int (i : Nat), v1]) hT
      have kp := x1.kp r
      exact ⟨r1, x1, T, [.int (i : Nat), v1], rfl, .inl (.inl upd_same), .int i, [v1], rfl, rfl, v1, [], rfl, VR.mono kp _ _ g2, rfl⟩
    · cases e
    · cases e
  · split at e
    · cases e
    · rename_i e1
      obtain ⟨vs, xs, sq1, rv1, f1⟩ := q1 m' H' h k r i _ e1
      exact ⟨vs, sq1, List.getElem?_eq_none_iff.mp (rv1.none f1.symm)⟩
    · cases e
end

section
variable {g : Gd} {C : Cl} {bn : List Str} {S : Sg} {X : Cx} {pos p1 p2 tpos : Pos} {a b : IE} {tg x y : Expr}
theorem i_it (o : Ok g C bn S X) (ha : PE X x (pE g (evE C a))) : PI X tg x (pI g (evS C (.it a))) := by
  refine ⟨fun pins s σ H R I ⟨m, h, ρ, sv, h', a', e, k⟩ => ?_⟩
  unfold evS at e
  split at e
  · rename_i w h1 e1
    obtain ⟨s1, e2, e3⟩ := Option.map_eq_some_iff.mp e
    cases e3
    cases w with
    | tup xs =>
      cases e2
      refine (pi_tup ha).run pins s σ H R I (.mk a' e1 fun x' m1 H1 x1 r1 rv => ?_)
      obtain ⟨p, vs, rfl, sq, rvs⟩ := rv
      rw [← o.v.K] at sq
      refine ⟨p, rfl, ⟨vs, sq⟩, k _ m1 H1 x1 r1 ?_⟩
      rw [o.v.K] at sq ⊢
      exact sv_tup sq rvs
    | str z =>
      cases e2
      refine (pi_str ha).run pins s σ H R I (.mk a' e1 fun x' m1 H1 x1 r1 rv => ⟨z, rv, k _ m1 H1 x1 r1 sv_str⟩)
    | ref p =>
      have e' : (match h'[p]? with | some (.lst _) => some (SV.lst p) | _ => none) = some sv := e2
      split at e'
      · rename_i xs hp
        cases e'
        refine (pi_list ha).run pins s σ H R I (.mk a' e1 fun x' m1 H1 x1 r1 rv => ?_)
        obtain ⟨q, vs, m2, h2, rvs⟩ := r1.lst hp
        refine ⟨q, rv.ref_eq m2, ⟨vs, .of h2⟩, k _ m1 H1 x1 r1 ?_⟩
        rw [o.v.K]
        exact sv_lst m2
      · cases e'
    | _ => cases e2
  · cases e
theorem i_rng (o : Ok g C bn S X) (hn : bnB S bn "range" = true) (hs : noStar x = true) (ha : PE X x (pE g (evE C a))) : PI X tg (.Call (.Name "range" p1) [x] [] pos) (pI g (evS C (.rng a))) := by
  obtain ⟨h1, h2, h3⟩ := o.bl hn
  refine ⟨fun pins s σ H R I ⟨m, h, ρ, sv, h', a', e, k⟩ => ?_⟩
  unfold evS at e
  split at e
  · rename_i i h1' e1
    split at e
    · rename_i hz
      cases e
      exact (pi_range1 h1 h2 (pa_cons ha pa_nil (star_cons hs)) (star_cons hs)).run pins s σ H R I (.mk a' e1 fun x' m1 H1 x1 r1 rv => ⟨i, by rw [show x' = V.int i from rv], hz.1, hz.2, k _ m1 H1 x1 r1 sv_rng⟩)
    · cases e
  · cases e
theorem i_rng2 (o : Ok g C bn S X) (hn : bnB S bn "range" = true) (hs : noStar x = true) (hs2 : noStar y = true) (ha : PE X x (pE g (evE C a))) (hb : PE X y (pE g (evE C b))) : PI X tg (.Call (.Name "range" p1) [x, y] [] pos) (pI g (evS C (.rng2 a b))) := by
  obtain ⟨h1, h2, h3⟩ := o.bl hn
  refine ⟨fun pins s σ H R I ⟨m, h, ρ, sv, h', a', e, k⟩ => ?_⟩
  unfold evS at e
  split at e
  · rename_i i h1' e1
    split at e
    · rename_i j h2' e2
      split at e
      · rename_i hz
        cases e
        refine (pi_range2 h1 h2 (pa_cons ha (pa_cons hb pa_nil (star_cons hs2)) (star_cons hs)) (by rw [star_cons hs, star_cons hs2]; rfl) (by rw [star_cons hs2]; rfl)).run pins s σ H R I (.mk a' e1 fun x' m1 H1 x1 r1 rv => ?_)
        refine .mk (a'.to x1 r1) e2 fun y' m2 H2 x2 r2 rv2 => ⟨i, j, by rw [show x' = V.int i from rv, show y' = V.int j from rv2], hz, k _ m2 H2 (x1.then x2) r2 sv_rng⟩
      · cases e
    · cases e
  · cases e
theorem i_zip {es : List Expr} {j : Nat} (o : Ok g C bn S X) (hn : bnB S bn "zip" = true) (hs : noStar x = true) (hs2 : noStar y = true) (ha : PE X x (pE g (evE C a))) (hb : PE X y (pE g (evE C b))) :
    PI X (.Tuple es j tpos) (.Call (.Name "zip" p1) [x, y] [] pos) (pI g (evS C (.zip a b))) := by
  obtain ⟨h1, h2, h3⟩ := o.bl hn
  refine ⟨fun pins s σ H R I ⟨m, h, ρ, sv, h', a', e, k⟩ => ?_⟩
  unfold evS at e
  split at e
  · rename_i u h1' e1
    split at e
    · rename_i w h2' e2
      split at e
      · rename_i s1 s2 f1 f2
        cases e
        refine (pi_zipG h1 h2 (pa_cons ha (pa_cons hb pa_nil (star_cons hs2)) (star_cons hs)) (star_cons hs) (by rw [star_cons hs2]; rfl)).run pins s σ H R I (.mk a' e1 fun x' m1 H1 x1 r1 rv => ?_)
        refine .mk (a'.to x1 r1) e2 fun y' m2 H2 x2 r2 rv2 => ?_
        obtain ⟨t1, a1, vs, rfl, sq1, q1⟩ := seq_sv r2 (VR.mono (x2.kp r1) _ _ rv) f1
        obtain ⟨t2, a2, ws, rfl, sq2, q2⟩ := seq_sv r2 rv2 f2
        rw [o.v.K]
        exact ⟨t1, t2, a1, a2, vs, ws, rfl, sq1, sq2, k _ m2 H2 (x1.then x2) r2 (sv_zip q1 q2)⟩
      · cases e
    · cases e
  · cases e
theorem i_enum {es : List Expr} {j : Nat} (o : Ok g C bn S X) (hn : bnB S bn "enumerate" = true) (hs : noStar x = true) (ha : PE X x (pE g (evE C a))) :
    PI X (.Tuple es j tpos) (.Call (.Name "enumerate" p1) [x] [] pos) (pI g (evS C (.enum a))) := by
  obtain ⟨h1, h2, h3⟩ := o.bl hn
  refine ⟨fun pins s σ H R I ⟨m, h, ρ, sv, h', a', e, k⟩ => ?_⟩
  unfold evS at e
  split at e
  · rename_i u h1' e1
    obtain ⟨s1, e2, e3⟩ := Option.map_eq_some_iff.mp e
    cases e3
    refine (pi_enumG h1 h2 (pa_cons ha pa_nil (star_cons hs)) (by rw [star_cons hs]; rfl)).run pins s σ H R I (.mk a' e1 fun x' m1 H1 x1 r1 rv => ?_)
    obtain ⟨t1, a1, vs, rfl, sq1, q1⟩ := seq_sv r1 rv e2
    rw [o.v.K]
    exact ⟨t1, a1, vs, rfl, sq1, k _ m1 H1 x1 r1 (sv_enum q1)⟩
  · cases e
end
end Pv

end
section
set_option Elab.async false
set_option maxRecDepth 100000
set_option maxHeartbeats 4000000
set_option autoImplicit false
set_option linter.all false
/-! Pv12: targets, loops, statements. -/
namespace Pv
open PySem PySem.Spec PyProof.Rows L2

/-! ### targets -/
theorem wipe_set {σ : L2.St} {i : Nat} {v : Option V} : ∀ {vs : List Nat}, i ∈ vs → wipe (σ.set i v) vs = wipe σ vs
  | [], h => by cases h
  | j :: vs, h => by
    unfold wipe
    by_cases hj : i ∈ vs
    · rw [wipe_set hj]
    · have e : i = j := (List.mem_cons.mp h).resolve_right hj
      subst e
      have key : ∀ (τ : L2.St) (ws : List Nat), i ∉ ws → wipe (τ.set i v) ws = (wipe τ ws).set i v := fun τ ws => by
        induction ws with
        | nil => intro _; rfl
        | cons k ws ih =>
          intro hn
          have n1 : i ≠ k := fun z => hn (by rw [z]; exact List.mem_cons_self)
          have n2 : i ∉ ws := fun z => hn (List.mem_cons_of_mem _ z)
          unfold wipe
          rw [ih n2, List.set_comm _ _ n1]
      rw [key σ vs hj, List.set_set]
theorem wipe_idem {σ : L2.St} : ∀ {vs : List Nat}, wipe (wipe σ vs) vs = wipe σ vs := by
  have nn : ∀ (τ : L2.St) (vs : List Nat), (∀ i, i ∈ vs → ∀ x, τ[i]? = some x → x = none) → wipe τ vs = τ := fun τ vs => by
    induction vs with
    | nil => intro _; rfl
    | cons k vs ih =>
      intro h
      unfold wipe
      rw [ih fun i hi => h i (List.mem_cons_of_mem _ hi)]
      by_cases hk : k < τ.length
      · have e : τ[k]? = some none := by
          have := h k List.mem_cons_self τ[k] (by simp [hk])
          rw [← this]; simp [hk]
        apply List.ext_getElem?
        intro j
        by_cases hj : k = j
        · subst hj; rw [List.getElem?_set_self hk, e]
        · rw [List.getElem?_set_ne hj]
      · rw [List.set_eq_of_length_le (by omega)]
  intro vs
  refine nn _ vs fun i hi x e => ?_
  cases x with
  | none => rfl
  | some y => exact absurd hi (wipe_some e).2

section
variable {g : Gd} {C : Cl} {bn : List Str} {S : Sg} {X : Cx} {pos p1 p2 tpos : Pos} {a b c : IE} {x y z : Expr} {m m1 : List Addr} {h h1 h' : PH} {H H1 : Hp} {ρ ρ' : PEnv} {σ : L2.St}

theorem SR.wipe (s : SR g m H ρ σ) (vs : List Nat) : SR g m H (wipeP ρ vs) (L2.wipe σ vs) := by
  induction vs with
  | nil => exact s
  | cons i vs ih =>
    unfold wipeP L2.wipe
    refine ⟨by rw [List.length_set, List.length_set]; exact ih.1, fun j u e => ?_⟩
    by_cases hj : i = j
    · subst hj
      by_cases hl : i < (wipeP ρ vs).length
      · rw [List.getElem?_set_self hl] at e; cases e
      · rw [List.getElem?_eq_none (by rw [List.length_set]; omega)] at e; cases e
    · rw [List.getElem?_set_ne hj] at e ⊢
      exact ih.2 j u e

def pG (g : Gd) (tg : Tg) : TG := fun v σ H Q => ∃ m h ρ x ρ', At g m h H ρ σ ∧ VR g m H x v ∧ bindTg ρ tg x = some ρ' ∧ ∀ σ', SR g m H ρ' σ' → (∀ vs, tgIn vs tg = true → wipe σ' vs = wipe σ vs) → Q σ' H
def pGs (g : Gd) (is : List Nat) : TGs := fun vs σ H Q => ∃ m h ρ xs ρ', At g m h H ρ σ ∧ VRs g m H xs vs ∧ setSlots ρ is xs = some ρ' ∧ ∀ σ', SR g m H ρ' σ' → (∀ vs, (is.all fun i => vs.contains i) = true → wipe σ' vs = wipe σ vs) → Q σ' H
theorem _root_.L2.PGs.by {e : List Expr} {t t' : TGs} (p : PGs X e t) (i : ∀ vs σ H Q, t' vs σ H Q → t vs σ H Q) : PGs X e t' := ⟨fun pins s σ H vs us Q I r q => p.run pins s σ H vs us Q I r (i vs σ H Q q)⟩
theorem _root_.L2.PG.by {e : Expr} {t t' : TG} (p : PG X e t) (i : ∀ vs σ H Q, t' vs σ H Q → t vs σ H Q) : PG X e t' := ⟨fun pins s σ H vs us Q I r q => p.run pins s σ H vs us Q I r (i vs σ H Q q)⟩
theorem g_nms (o : Ok g C bn S X) : ∀ {is : List Nat} {es : List Expr}, matNs S is es = true → PGs X es (pGs g is)
  | [], [], _ => pgs_nil.by fun vs σ H Q ⟨m, h, ρ, xs, ρ', a', rv, e, k⟩ => by
    cases xs with
    | nil => cases e; exact ⟨rv, k σ a'.sr fun _ _ => rfl⟩
    | cons _ _ => cases e
  | [], _ :: _, h => by unfold matNs at h; cases h
  | _ :: _, [], h => by unfold matNs at h; cases h
  | i :: is, e :: es, hm => by
    unfold matNs at hm
    split at hm
    · rename_i heq1 heq2
      cases heq1
    · rename_i i' is' n p es' heq1 heq2
      cases heq1
      cases heq2
      simp only [Bool.and_eq_true] at hm
      obtain ⟨⟨h1, h2⟩, h3⟩ := hm
      obtain ⟨l1, l2⟩ := o.st h2
      refine (pgs_cons (pg_name o.ndX (o.at h1) l1 l2) (g_nms o h3)).by fun vs σ H Q ⟨m, h, ρ, xs, ρ', a', rv, e, k⟩ => ?_
      cases xs with
      | nil => cases e
      | cons u us =>
        obtain ⟨v, vs', rfl, r1, r2⟩ := rv
        refine ⟨v, vs', rfl, ?_⟩
        refine ⟨m, h, ρ.set i (some u), us, ρ', ⟨a'.hr, a'.sr.set i r1⟩, r2, e, fun σ' sr hw => k σ' sr fun ws hi => ?_⟩
        rw [List.all_cons, Bool.and_eq_true] at hi
        rw [hw ws hi.2]
        exact wipe_set (by simpa using hi.1)
    · cases hm
theorem ns_len (env : Env) : ∀ {is : List Nat} {es : List Expr}, matNs S is es = true → (assignEach es env).length = is.length ∧ (assignEach es env).findIdx? (·.1) = none
  | [], [], _ => ⟨rfl, rfl⟩
  | [], _ :: _, h => by unfold matNs at h; cases h
  | _ :: _, [], h => by unfold matNs at h; cases h
  | i :: is, e :: es, hm => by
    unfold matNs at hm
    split at hm
    · rename_i heq1 heq2
      cases heq1
    · rename_i i' is' n p es' heq1 heq2
      cases heq1
      cases heq2
      simp only [Bool.and_eq_true] at hm
      obtain ⟨h1, h2⟩ := ns_len env hm.2
      have e1 : assignEach (.Name n p :: es) env = (false, assign (.Name n p) env) :: assignEach es env := rfl
      rw [e1, List.length_cons, List.findIdx?_cons, h1, h2]
      exact ⟨rfl, rfl⟩
    · cases hm
theorem slots_len {ρ ρ' : PEnv} : ∀ {is : List Nat} {xs : List PV} {ρ : PEnv}, setSlots ρ is xs = some ρ' → xs.length = is.length
  | [], [], _, _ => rfl
  | [], _ :: _, _, h => by cases h
  | _ :: _, [], _, h => by cases h
  | i :: is, x :: xs, ρ, h => by
    rw [List.length_cons, List.length_cons, slots_len (ρ' := ρ') (show setSlots (ρ.set i (some x)) is xs = some ρ' from h)]
    exact ρ
theorem r_tg {tg : Tg} (o : Ok g C bn S X) (hm : matTg S tg x = true) : PG X x (pG g tg) := by
  cases tg with
  | one i =>
    unfold matTg at hm
    split at hm
    · rename_i heq1 heq2
      cases heq2
      simp only [Bool.and_eq_true] at hm
      obtain ⟨l1, l2⟩ := o.st hm.2
      refine (pg_name o.ndX (o.at hm.1) l1 l2).by fun v σ H Q ⟨m, h, ρ, u, ρ', a', rv, e, k⟩ => ?_
      cases e
      exact k _ (a'.sr.set i rv) fun vs hi => wipe_set (by simpa [tgIn] using hi)
    · rename_i heq1 heq2
      cases heq2
    · cases hm
  | tup is =>
    unfold matTg at hm
    split at hm
    · rename_i heq1 heq2
      cases heq2
    · rename_i heq1 heq2
      cases heq2
      obtain ⟨h1, h2⟩ := ns_len X.env hm
      refine (pg_tup o.v.calm (g_nms o hm) h1 h2).by fun v σ H Q ⟨m, h, ρ, u, ρ', a', rv, e, k⟩ => ?_
      cases u with
      | tup us =>
        obtain ⟨p, vs, rfl, sq, r⟩ := rv
        have e' : setSlots ρ is us = some ρ' := e
        exact ⟨p, vs, rfl, by rw [o.v.K]; exact sq, by rw [r.len]; exact slots_len (ρ := ρ) e', m, h, ρ, us, ρ', a', r, e', fun σ' sr hw => k σ' sr fun ws hi => hw ws hi⟩
      | _ => cases e
    · cases hm

/-! ### for -/
theorem set_ok' {s : Expr} (h : noSet s = true) (env : Env) : ∀ x, foldedSetIterable s env x = pure x := by
  intro x
  cases s <;> first | rfl | cases h
theorem fr_in {tg : Tg} {s : IS} {body : ITs} (D : Ends) (σ : L2.St) (H : Hp) (q : pS g (evT C (.fr tg s body)) D σ H) : tFor (pI g (evS C s)) (pG g tg) (pS g (evTs C body)) D σ H := by
  obtain ⟨m, h, ρ, fl, h', a', e, k⟩ := q
  unfold evT at e
  split at e
  · rename_i sv h1 e1
    refine ⟨m, h, ρ, sv, h1, a', e1, fun J m1 H1 x1 r1 ok => ?_⟩
    refine ⟨fun i n σ2 H2 => ∃ m2 h2 ρ2, Ext m1 H1 m2 H2 ∧ At g m2 h2 H2 ρ2 σ2 ∧ frLoop sv (fun ρ x => bindTg ρ tg x) (fun ρ h => evTs C body ρ h) n i ρ2 h2 = some (fl, h'), ⟨TURNS, m1, h1, ρ, .refl, a'.to x1 r1, e⟩, ?_⟩
    rintro i n σ2 H2 ⟨m2, h2, ρ2, x2, a2, e2⟩
    have k2 : KF g m2 H2 h' fl D := k.ext (x1.then x2)
    obtain ⟨okY, okN⟩ := ok m2 H2 h2 (x2.kp r1) a2.hr i
    cases n with
    | zero => cases e2
    | succ n =>
      unfold frLoop at e2
      split at e2
      · cases e2
      · rename_i e3
        cases e2
        exact .inl ⟨okN e3, k2 σ2 m2 H2 .refl a2⟩
      · rename_i u e3
        obtain ⟨go, yl⟩ := okY u e3
        split at e2
        · cases e2
        · rename_i ρ3 e4
          refine .inr ⟨go, fun σ5 H5 => ∃ m5 h5 ρ5, Ext m1 H1 m5 H5 ∧ At g m5 h5 H5 ρ5 σ5 ∧ frLoop sv (fun ρ x => bindTg ρ tg x) (fun ρ h => evTs C body ρ h) n (i + 1) ρ5 h5 = some (fl, h'), fun σ' H' w => ⟨n, Nat.lt_succ_self n, w⟩, fun v H3 y => ?_⟩
          obtain ⟨r3, x3, rv⟩ := yl v H3 y
          refine ⟨m2, h2, ρ2, u, ρ3, a2.to x3 r3, rv, e4, fun σ4 sr _ => ?_⟩
          have x13 := x2.then x3
          have k3 := k2.ext x3
          split at e2
          · cases e2
          · rename_i v' h5 e5
            cases e2
            exact .mk ⟨r3, sr⟩ e5 k3
          · rename_i ρ5 h5 e5
            cases e2
            exact .mk ⟨r3, sr⟩ e5 k3
          · rename_i ρ5 h5 e5
            exact .mk ⟨r3, sr⟩ e5 fun σ6 m6 H6 x6 a6 => ⟨m6, h5, ρ5, x13.then x6, a6, e2⟩
          · rename_i ρ5 h5 e5
            exact .mk ⟨r3, sr⟩ e5 fun σ6 m6 H6 x6 a6 => ⟨m6, h5, ρ5, x13.then x6, a6, e2⟩
  · cases e
theorem s_for {tg : Tg} {s : IS} {body : ITs} {ys : List Stmt} (o : Ok g C bn S X) (hm : matTg S tg x = true) (hs : noSet y = true) (hi : PI X x y (pI g (evS C s))) (hb : PSs X ys (pS g (evTs C body))) : PS X (.For x y ys [] pos) (pS g (evT C (.fr tg s body))) :=
  (ps_for o.own o.v.calm hi (r_tg o hm) hb (set_ok' hs _)).by fr_in

/-! ### while -/
theorem wh_in {body : ITs} (D : Ends) (σ : L2.St) (H : Hp) (q : pS g (evT C (.wh c body)) D σ H) : tWhile (pT g (evE C c)) (pS g (evTs C body)) D σ H := by
  obtain ⟨m, h, ρ, fl, h', a', e, k⟩ := q
  unfold evT at e
  refine ⟨fun n σ2 H2 => ∃ m2 h2 ρ2, Ext m H m2 H2 ∧ At g m2 h2 H2 ρ2 σ2 ∧ whLoop (fun ρ h => bool? (evE C c ρ h)) (fun ρ h => evTs C body ρ h) n ρ2 h2 = some (fl, h'), ⟨TURNS, m, h, ρ, .refl, a', e⟩, ?_⟩
  rintro n σ2 H2 ⟨m2, h2, ρ2, x2, a2, e2⟩
  have k2 : KF g m2 H2 h' fl D := k.ext x2
  cases n with
  | zero => cases e2
  | succ n =>
    unfold whLoop at e2
    split at e2
    · cases e2
    · rename_i h3 e3
      cases e2
      refine .mk a2 e3 fun m3 H3 x3 r3 => ?_
      rw [if_neg Bool.false_ne_true]
      exact k2 σ2 m3 H3 x3 (a2.to x3 r3)
    · rename_i h3 e3
      refine .mk a2 e3 fun m3 H3 x3 r3 => ?_
      rw [if_pos rfl]
      refine ⟨fun σ5 H5 => ∃ m5 h5 ρ5, Ext m H m5 H5 ∧ At g m5 h5 H5 ρ5 σ5 ∧ whLoop (fun ρ h => bool? (evE C c ρ h)) (fun ρ h => evTs C body ρ h) n ρ5 h5 = some (fl, h'), fun σ' H' w => ⟨n, Nat.lt_succ_self n, w⟩, ?_⟩
      have x13 := x2.then x3
      have k3 := k2.ext x3
      have a3 := a2.to x3 r3
      split at e2
      · cases e2
      · rename_i v' h5 e5
        cases e2
        exact .mk a3 e5 k3
      · rename_i ρ5 h5 e5
        cases e2
        exact .mk a3 e5 k3
      · rename_i ρ5 h5 e5
        exact .mk a3 e5 fun σ6 m6 H6 x6 a6 => ⟨m6, h5, ρ5, x13.then x6, a6, e2⟩
      · rename_i ρ5 h5 e5
        exact .mk a3 e5 fun σ6 m6 H6 x6 a6 => ⟨m6, h5, ρ5, x13.then x6, a6, e2⟩
theorem s_wh {body : ITs} {ys : List Stmt} (o : Ok g C bn S X) (hc : PT X x (pT g (evE C c))) (hb : PSs X ys (pS g (evTs C body))) : PS X (.While x ys [] pos) (pS g (evT C (.wh c body))) :=
  (ps_while o.own hc hb).by wh_in
end
end Pv

end
section
set_option Elab.async false
set_option maxRecDepth 100000
set_option maxHeartbeats 4000000
set_option autoImplicit false
set_option linter.all false
/-! Pv13: comprehensions, statements. -/
namespace Pv
open PySem PySem.Spec PyProof.Rows L2
section
variable {g : Gd} {C : Cl} {bn : List Str} {S : Sg} {X : Cx} {pos p1 p2 tpos : Pos} {a b c : IE} {x y z : Expr} {m m1 : List Addr} {h h1 h' : PH} {H H1 : Hp} {ρ ρ' : PEnv} {σ : L2.St}

def pC (g : Gd) (f : PF Bool) : TT := fun σ H Q => ∃ m h ρ b h', At g m h H ρ σ ∧ f ρ h = some (b, h') ∧ KT g m H h' b Q
theorem _root_.L2.PTs.by {e : List Expr} {t t' : TT} (p : PTs X e t) (i : ∀ σ H Q, t' σ H Q → t σ H Q) : PTs X e t' := ⟨fun pins s σ H Q I q => p.run pins s σ H Q I (i σ H Q q)⟩
theorem c_none : PTs X [] (pC g (evC C .none)) := pts_nil.by fun σ H Q ⟨m, h, ρ, b, h', a', e, k⟩ => by
  unfold evC at e
  cases e
  exact k m H .refl a'.hr
theorem c_some (ha : PT X x (pT g (evE C a))) : PTs X [x] (pC g (evC C (.some a))) := (pts_one ha).by fun σ H Q ⟨m, h, ρ, b, h', a', e, k⟩ => by
  unfold evC at e
  exact .mk a' e k

theorem era_upd2 {H : Hp} {p : Addr} {o : HO} : era (upd H p o) p = era H p := by
  funext b
  by_cases e : b = p
  · subst e; rw [era_same, era_same]
  · rw [era_ne e, era_ne e, upd_ne e]
theorem upd_self {H : Hp} {p : Addr} {o : HO} (e : H p = some o) : upd H p o = H := by
  funext b
  by_cases q : b = p
  · subst q; rw [upd_same, e]
  · rw [upd_ne q]
theorem loose_lst {xs : List V} : Loose (.lst xs) := ⟨fun _ z => (nomatch z), fun _ _ z => (nomatch z)⟩
theorem turns : TURNS = sizeLine := by rw [sizeLine_eq]; rfl

theorem lc_in {tg : Tg} {s : IS} {cnd : IO} {own : List Nat} (hin : tgIn own tg = true) (σ : L2.St) (H : Hp) (Q : VK) (q : pE g (evE C (.lc a tg s own cnd)) σ H Q) : tLc (pI g (evS C s)) (pG g tg) (pC g (evC C cnd)) (pE g (evE C a)) own σ H Q := by
  obtain ⟨m, h, ρ, v, h', a', e, k⟩ := q
  unfold evE at e
  split at e
  · rename_i sv h1 e1
    split at e
    · rename_i out hz e2
      cases e
      refine ⟨m, h, ρ, sv, h1, a', e1, fun J m1 H1 x1 r1 ok D hD => ?_⟩
      have kk := k.ext x1
      have sr0 : SR g m1 H1 (wipeP ρ own) (wipe σ own) := (a'.to x1 r1).sr.wipe own
      refine ⟨fun i n H2 => ∃ m2 h2 acc accV, D ∉ m2 ∧ H2 D = some (.lst accV) ∧ Ext m1 H1 m2 (era H2 D) ∧ HR g m2 h2 H2 ∧ VRs g m2 H2 acc accV ∧ n + i = TURNS ∧ accV.length ≤ i ∧
        lcLoop sv (fun x => bindTg (wipeP ρ own) tg x) (fun ρ' h => match evC C cnd ρ' h with
          | some (true, h) => (match evE C a ρ' h with | some (v, h) => some (some v, h) | none => none)
          | some (false, h) => some (none, h)
          | none => none) n i acc h2 = some (out, hz), ⟨TURNS, m1, h1, [], [], ?_, upd_same, ?_, ?_, rfl, rfl, Nat.le_refl _, e2⟩, ?_⟩
      · exact r1.free hD
      · rw [era_upd hD]; exact .refl
      · exact (r1.lay (o := .lst []) hD).1
      · rintro i n H2 ⟨m2, h2, acc, accV, nD, eD, x2, r2, rv, hn, hl, e3⟩
        have rE : HR g m2 h2 (era H2 D) := r2.era nD eD loose_lst
        have kp2 : Kp g m1 H1 m2 H2 := (x2.kp r1).trans kp_unera
        obtain ⟨okY, okN⟩ := ok m2 H2 h2 kp2 r2 i
        cases n with
        | zero => cases e3
        | succ n =>
          unfold lcLoop at e3
          split at e3
          · cases e3
          · rename_i e4
            cases e3
            refine .inl ⟨okN e4, ?_⟩
            have q := (kk.ext x2).lst rE (VRs.mono (kp_era eD loose_lst) _ _ rv) era_same
            rw [upd_era, upd_self eD] at q
            exact q
          · rename_i u e4
            obtain ⟨go, yl⟩ := okY u e4
            split at e3
            · cases e3
            · rename_i ρ3 e5
              refine .inr ⟨go, fun H5 => ∃ m5 h5 acc5 accV5, D ∉ m5 ∧ H5 D = some (.lst accV5) ∧ Ext m1 H1 m5 (era H5 D) ∧ HR g m5 h5 H5 ∧ VRs g m5 H5 acc5 accV5 ∧ n + (i + 1) = TURNS ∧ accV5.length ≤ i + 1 ∧
                lcLoop sv (fun x => bindTg (wipeP ρ own) tg x) (fun ρ' h => match evC C cnd ρ' h with
                  | some (true, h) => (match evE C a ρ' h with | some (v, h) => some (some v, h) | none => none)
                  | some (false, h) => some (none, h)
                  | none => none) n (i + 1) acc5 h5 = some (out, hz), fun H' w => ⟨n, Nat.lt_succ_self n, w⟩, fun v3 H3 y3 => ?_⟩
              obtain ⟨r3, x3, rv3⟩ := yl v3 H3 y3
              obtain ⟨nD3, eD3⟩ := x3.stays nD eD
              have sr3 : SR g m2 H3 (wipeP ρ own) (wipe σ own) := (sr0.mono kp2).mono (x3.kp r2)
              refine ⟨m2, h2, wipeP ρ own, u, ρ3, ⟨r3, sr3⟩, rv3, e5, fun σ4 sr4 hw => ⟨by rw [hw own hin, wipe_idem], ?_⟩⟩
              have a3 : At g m2 h2 H3 ρ3 σ4 := ⟨r3, sr4⟩
              have go2 : ∀ {m4 : List Addr} {H4 : Hp}, Ext m2 H3 m4 H4 → Ext m1 H1 m4 (era H4 D) := fun x4 => x2.then ((x3.era (p := D)).then x4.era)
              split at e3
              · cases e3
              · rename_i h4 e6
                -- left out
                split at e6
                · split at e6
                  · cases e6
                  · cases e6
                · rename_i h5 e7
                  cases e6
                  refine ⟨m2, h2, ρ3, false, h4, a3, e7, fun m4 H4 x4 r4 => ?_⟩
                  refine Eq.mpr (if_neg Bool.false_ne_true) ?_
                  obtain ⟨nD4, eD4⟩ := x4.stays nD3 eD3
                  exact ⟨m4, h4, acc, accV, nD4, eD4, go2 x4, r4, VRs.mono (x4.kp r3) _ _ (VRs.mono (x3.kp r2) _ _ rv), by omega, by omega, e3⟩
                · cases e6
              · rename_i w h4 e6
                split at e6
                · rename_i h5 e7
                  split at e6
                  · rename_i w' h6 e8
                    cases e6
                    refine ⟨m2, h2, ρ3, true, h5, a3, e7, fun m4 H4 x4 r4 => ?_⟩
                    refine Eq.mpr (if_pos rfl) ?_
                    obtain ⟨nD4, eD4⟩ := x4.stays nD3 eD3
                    refine .mk (a3.to x4 r4) e8 fun w2 m5 H5 x5 r5 rw5 => ?_
                    obtain ⟨nD5, eD5⟩ := x5.stays nD4 eD4
                    refine ⟨accV, eD5, by have := turns; omega, ?_⟩
                    have rv5 := VRs.mono (x5.kp r4) _ _ (VRs.mono (x4.kp r3) _ _ (VRs.mono (x3.kp r2) _ _ rv))
                    have r6 : HR g m5 h4 (upd H5 D (.lst (accV ++ [w2]))) := by
                      refine HR.unera (p := D) ?_ nD5
                      rw [era_upd2]
                      exact r5.era nD5 eD5 loose_lst
                    have kp6 : Kp g m5 H5 m5 (upd H5 D (.lst (accV ++ [w2]))) := by
                      have k1 := kp_era (g := g) (m := m5) eD5 loose_lst
                      have k2 := kp_unera (g := g) (m := m5) (H := upd H5 D (.lst (accV ++ [w2]))) (p := D)
                      rw [era_upd2] at k2
                      exact k1.trans k2
                    refine ⟨m5, h4, acc ++ [w], accV ++ [w2], nD5, upd_same, ?_, r6, VRs.mono kp6 _ _ (rv5.app ⟨w2, [], rfl, rw5, rfl⟩), by omega, by rw [List.length_append]; simp; omega, e3⟩
                    rw [era_upd2]
                    exact go2 (x4.then x5)
                  · cases e6
                · cases e6
                · cases e6
    · cases e
  · cases e
theorem own_ix {own : List Nat} : (ownP S own).map (·.2) = own := by
  unfold ownP
  rw [List.map_map]
  exact List.map_id own
theorem r_lc {tg : Tg} {s : IS} {cnd : IO} {own : List Nat} {t it : Expr} {ifs : List Expr} {scope : Scope} (o : Ok g C bn S X) (hi : PI X t it (pI g (evS C s))) (hs : noSet it = true) (hb : blkC S.N S.sc scope (ownP S own) = true) (ht : matTg (S.blk scope) tg t = true) (hin : tgIn own tg = true)
    (hc : ∀ Y : Cx, Ok g C bn (S.blk scope) Y → PTs Y ifs (pC g (evC C cnd))) (he : ∀ Y : Cx, Ok g C bn (S.blk scope) Y → PE Y x (pE g (evE C a))) :
    PE X (.ListComp x [⟨t, it, ifs, 0⟩] scope pos) (pE g (evE C (.lc a tg s own cnd))) := by
  have bo : BlkOk X.N X.env.scope scope (ownP S own) := by rw [o.N, o.sc]; exact blkOk_by hb
  have p := pe_lc (pos := pos) o.v.calm o.ndX hi bo (fun s H Ca cl fp => r_tg (o.blk s H scope cl Ca fp) ht) (fun s H Ca cl fp => hc _ (o.blk s H scope cl Ca fp)) (fun s H Ca cl fp => he _ (o.blk s H scope cl Ca fp)) (set_ok' hs _)
  rw [own_ix] at p
  exact p.by (lc_in hin)
theorem s_lc {i : Nat} {n : Str} {py : Pos} {tg : Tg} {s : IS} {cnd : IO} {own : List Nat} {t it : Expr} {ifs : List Expr} {scope : Scope} (o : Ok g C bn S X) (hN : (S.N[i]? == some n) = true) (hl : lcOk S.sc n py (.ListComp x [⟨t, it, ifs, 0⟩] scope pos) = true)
    (hi : PI X t it (pI g (evS C s))) (hs : noSet it = true) (hb : blkC S.N S.sc scope (ownP S own) = true) (ht : matTg (S.blk scope) tg t = true) (hin : tgIn own tg = true)
    (hc : ∀ Y : Cx, Ok g C bn (S.blk scope) Y → PTs Y ifs (pC g (evC C cnd))) (he : ∀ Y : Cx, Ok g C bn (S.blk scope) Y → PE Y x (pE g (evE C a))) :
    PS X (.Assign [.Name n py] (.ListComp x [⟨t, it, ifs, 0⟩] scope pos) tpos) (pS g (evT C (.asg i (.lc a tg s own cnd)))) := by
  have bo : BlkOk X.N X.env.scope scope (ownP S own) := by rw [o.N, o.sc]; exact blkOk_by hb
  unfold lcOk at hl
  simp only [Bool.and_eq_true] at hl
  obtain ⟨⟨⟨l0, l1⟩, l2⟩, l3⟩ := hl
  have hloc : X.env.scope.names.lookup n = some .local := by
    unfold locB at l1
    rw [o.sc]
    split at l1
    · assumption
    · cases l1
  have hk : X.env.scope.kind = .function := by
    rw [o.sc]
    split at l0
    · assumption
    · cases l0
  have p := ps_setLc (py := py) (pos := pos) (spos := tpos) o.v.calm o.ndX (o.at hN) hloc (sw_true hk hloc l2 (by simpa using l3)) hi bo (fun s H Ca cl fp => r_tg (o.blk s H scope cl Ca fp) ht) (fun s H Ca cl fp => hc _ (o.blk s H scope cl Ca fp)) (fun s H Ca cl fp => he _ (o.blk s H scope cl Ca fp)) (set_ok' hs _)
  rw [own_ix] at p
  refine p.by fun D σ H ⟨m, h, ρ, fl, h', a', e, k⟩ => ?_
  unfold evT at e
  split at e
  · rename_i v h1 e1
    cases e
    exact lc_in hin σ H _ (.mk a' e1 fun v' m1 H1 x1 r1 rv => k _ m1 H1 x1 ⟨r1, (a'.to x1 r1).sr.set i rv⟩)
  · cases e
end
end Pv

end
section
set_option Elab.async false
set_option maxRecDepth 100000
set_option maxHeartbeats 4000000
set_option autoImplicit false
set_option linter.all false
/-! Pv14: statements, one rule each. -/
namespace Pv
open PySem PySem.Spec PyProof.Rows L2
section
variable {g : Gd} {C : Cl} {bn : List Str} {S : Sg} {X : Cx} {pos p1 p2 tpos : Pos} {a b c oi ii : IE} {x y z ox ix : Expr}

theorem sw_no {t : Option Expr} {l : Nat} {env : Env} (h : noSw x = true) : swapsWith x t l env = pure false := by
  cases x <;> first | rfl | cases h
theorem s_asg {i : Nat} {n : Str} (o : Ok g C bn S X) (hN : (S.N[i]? == some n) = true) (hst : stB S n = true) (hs : noSw x = true) (ha : PE X x (pE g (evE C a))) : PS X (.Assign [.Name n p1] x pos) (pS g (evT C (.asg i a))) := by
  obtain ⟨l1, l2⟩ := o.st hst
  refine (ps_set (pos' := p1) o.ndX (o.at hN) l1 ha (sw_no hs) l2).by fun D σ H ⟨m, h, ρ, fl, h', a', e, k⟩ => ?_
  unfold evT at e
  split at e
  · rename_i v h1 e1
    cases e
    exact .mk a' e1 fun v' m1 H1 x1 r1 rv => k _ m1 H1 x1 ⟨r1, (a'.to x1 r1).sr.set i rv⟩
  · cases e
theorem s_asgT {is : List Nat} {es : List Expr} {j : Nat} (o : Ok g C bn S X) (hm : matNs S is es = true) (hs : noSw x = true) (ht : noTu x = true) (ha : PE X x (pE g (evE C a))) : PS X (.Assign [.Tuple es j p1] x pos) (pS g (evT C (.asgT is a))) := by
  have hg : PG X (.Tuple es j p1) (pG g (.tup is)) := r_tg o (show matTg S (.tup is) (.Tuple es j p1) = true from hm)
  have sw : swapsWithSole [.Tuple es j p1] x pos.line X.env = pure false := by
    show swapsWith x (some (.Tuple es j p1)) pos.line X.env = pure false
    exact sw_no hs
  have sp : swappedStores [.Tuple es j p1] x X.env = pure none := by cases x <;> first | rfl | cases ht
  refine (ps_asg ha hg sw sp rfl).by fun D σ H ⟨m, h, ρ, fl, h', a', e, k⟩ => ?_
  unfold evT at e
  split at e
  · rename_i xs h1 e1
    split at e
    · rename_i ρ' e2
      cases e
      exact .mk a' e1 fun v' m1 H1 x1 r1 rv => ⟨m1, h', ρ, .tup xs, ρ', a'.to x1 r1, rv, e2, fun σ' sr _ => k σ' m1 H1 x1 ⟨r1, sr⟩⟩
    · cases e
  · cases e
theorem s_sub (o : Ok g C bn S X) (hs : noSw x = true) (hi : noSl ix = true) (h1 : PE X ox (pE g (evE C oi))) (h2 : PE X ix (pE g (evE C ii))) (ha : PE X x (pE g (evE C a))) : PS X (.Assign [.Subscript ox ix p1] x pos) (pS g (evT C (.sub oi ii a))) := by
  have hg : PG X (.Subscript ox ix p1) (gSub (pE g (evE C oi)) (pE g (evE C ii)) rSetK) := pg_sub h1 h2 (set_any (by have := o.v.un; omega)) (by intro v; cases ix <;> first | rfl | cases hi)
  have sp : swappedStores [.Subscript ox ix p1] x X.env = pure none := by cases x <;> rfl
  have sw : swapsWithSole [.Subscript ox ix p1] x pos.line X.env = pure false := by
    show swapsWith x (some (.Subscript ox ix p1)) pos.line X.env = pure false
    exact sw_no hs
  refine (ps_asg ha hg sw sp rfl).by fun D σ H ⟨m, h, ρ, fl, h', a', e, k⟩ => ?_
  unfold evT at e
  split at e
  · rename_i v h1 e1
    split at e
    · rename_i u h2 e2
      split at e
      · rename_i w h3 e3
        split at e
        · rename_i h4 e4
          cases e
          refine .mk a' e1 fun v' m1 H1 x1 r1 rv => ?_
          refine .mk (a'.to x1 r1) e2 fun u' m2 H2 x2 r2 ru => ?_
          refine .mk ((a'.to x1 r1).to x2 r2) e3 fun w' m3 H3 x3 r3 rw' => ?_
          refine set_ok o.v r3 (VR.mono (x3.kp r2) _ _ ru) rw' (VR.mono (x3.kp r2) _ _ (VR.mono (x2.kp r1) _ _ rv)) e4 fun m4 H4 x4 r4 => ?_
          have x14 := x1.then (x2.then (x3.then x4))
          exact k σ m4 H4 x14 (a'.to x14 r4)
        · cases e
      · cases e
    · cases e
  · cases e
theorem guard_pure {p : Prop} [Decidable p] {u v : PV} {h h' : PH} (e : (if p then some (u, h) else none) = some (v, h')) : h' = h ∧ (if p then some (u, ([] : PH)) else none) = some (v, []) := by
  split at e
  · rename_i hp
    cases e
    exact ⟨rfl, by rw [if_pos hp]⟩
  · cases e
theorem guard_int {p : Prop} [Decidable p] {i : Int} {v : PV} (e : (if p then some (PV.int i, ([] : PH)) else none) = some (v, [])) : ∃ z, v = .int z := by
  split at e
  · cases e; exact ⟨_, rfl⟩
  · cases e
theorem bin_pure {o' : Bo} {h : PH} {x y v : PV} {h' : PH} (nr : (∃ i j, x = .int i ∧ y = .int j) ∨ ∃ i j, x = .str i ∧ y = .str j) (e : binPV o' h x y = some (v, h')) : h' = h ∧ binPV o' [] x y = some (v, []) := by
  rcases nr with ⟨i, j, rfl, rfl⟩ | ⟨i, j, rfl, rfl⟩
  · cases o' with
    | add => cases e; exact ⟨rfl, rfl⟩
    | sub => cases e; exact ⟨rfl, rfl⟩
    | mul => exact guard_pure e
    | fdiv => exact guard_pure e
    | mod => exact guard_pure e
    | pow => exact guard_pure e
  · cases o' with
    | add => exact guard_pure e
    | _ => cases e
theorem ip_in {o' : Bo} {h h' : PH} {x y v : PV} {u w : V} {m : List Addr} {H : Hp} {Q : VK} (nr : (∃ i j, x = .int i ∧ y = .int j) ∨ ∃ i j, x = .str i ∧ y = .str j) (rx : VR g m H x u) (ry : VR g m H y w) (e : binPV o' h x y = some (v, h'))
    (k : ∀ v', VR g m H v v' → Q v' H) : ipR o' u w H Q := by
  have nr' := nr
  obtain ⟨_, e1⟩ := bin_pure nr e
  rcases nr with ⟨i, j, rfl, rfl⟩ | ⟨i, j, rfl, rfl⟩
  · have hv : ∃ z, v = .int z := by
      cases o' with
      | add => cases e1; exact ⟨_, rfl⟩
      | sub => cases e1; exact ⟨_, rfl⟩
      | mul => exact guard_int e1
      | fdiv => exact guard_int e1
      | mod => exact guard_int e1
      | pow => exact guard_int e1
    obtain ⟨z, rfl⟩ := hv
    exact .inl ⟨i, j, z, rx, ry, e1, k _ rfl⟩
  · cases o' with
    | add =>
      have e2 : (if i.length + j.length ≤ SZ then some (PV.str (i ++ j), ([] : PH)) else none) = some (v, []) := e1
      split at e2
      · rename_i hz
        cases e2
        exact .inr ⟨rfl, i, j, rx, ry, by rw [← SZ_eq]; exact hz, k _ rfl⟩
      · cases e2
    | _ => cases e1
theorem s_aug {i : Nat} {n : Str} {o' : Bo} (o : Ok g C bn S X) (hN : (S.N[i]? == some n) = true) (hst : stB S n = true) (hp : o' ≠ .pow) (ha : PE X x (pE g (evE C a))) : PS X (.AugAssign (.Name n p1) (opOf o') x pos) (pS g (evT C (.aug i o' a))) := by
  obtain ⟨l1, l2⟩ := o.st hst
  refine (ps_aug o.ndX (o.at hN) l1 ha (ip_ok o' hp) l2).by fun D σ H ⟨m, h, ρ, fl, h', a', e, k⟩ => ?_
  unfold evT at e
  split at e
  · rename_i u hu
    obtain ⟨w, e1, rw1⟩ := a'.sr.2 i u hu
    refine ⟨w, e1, ?_⟩
    split at e
    · rename_i y1 h1 e2
      have fin : ∀ {z : PV} {h2 : PH}, ((∃ i j, u = .int i ∧ y1 = .int j) ∨ ∃ i j, u = .str i ∧ y1 = .str j) → binPV o' h1 u y1 = some (z, h2) → fl = .nx (ρ.set i (some z)) → h' = h2 → pE g (evE C a) σ H fun y H1 => ipR o' w y H1 fun z H2 => D.nx (σ.set i (some z)) H2 := fun {z h2} nr e3 e4 e5 => by
        subst e4 e5
        obtain ⟨rfl, _⟩ := bin_pure nr e3
        refine .mk a' e2 fun y' m1 H1 x1 r1 ry => ip_in nr (VR.mono (x1.kp a'.hr) _ _ rw1) ry e3 fun v' rv => ?_
        exact k _ m1 H1 x1 ⟨r1, (a'.to x1 r1).sr.set i rv⟩
      split at e
      · split at e
        · rename_i z h2 e3
          cases e
          exact fin (.inl ⟨_, _, rfl, rfl⟩) e3 rfl rfl
        · cases e
      · split at e
        · rename_i z h2 e3
          cases e
          exact fin (.inr ⟨_, _, rfl, rfl⟩) e3 rfl rfl
        · cases e
      · cases e
    · cases e
  · cases e
theorem get_in (o : Okv g X) {m : List Addr} {h : PH} {H : Hp} {x y v : PV} {u w : V} {Q : VK} (hr : HR g m h H) (rx : VR g m H x u) (ry : VR g m H y w) (e : ixPV h x y = some v) (hx : ∃ p, x = .ref p) (h0 : ∀ i, y = .int i → 0 ≤ i) (k : ∀ v', VR g m H v v' → Q v' H) : rGetK X.K u w H Q := by
  obtain ⟨p, rfl⟩ := hx
  have e' : (match h[p]? with
      | some (.lst xs) => (match (generalizing := false) y with | .int i => (ixOf xs.length i).bind fun j => xs[j]? | _ => none)
      | some (.dct kvs) => (keyV y).bind fun k => getK kvs k
      | _ => none) = some v := by cases y <;> exact e
  split at e'
  · rename_i xs hp
    obtain ⟨q, vs, m1, h1, r⟩ := hr.lst hp
    cases y with
    | int i =>
      obtain ⟨j, e1, e2⟩ := Option.bind_eq_some_iff.mp e'
      obtain ⟨w', e3, e4⟩ := r.get e2
      refine .inl ⟨q, vs, i, w', rx.ref_eq m1, ry, .of h1, h0 i rfl, ?_, k _ e4⟩
      unfold atI
      rw [r.len]
      exact Option.bind_eq_some_iff.mpr ⟨j, e1, e3⟩
    | _ => cases e'
  · rename_i kvs hp
    obtain ⟨q, vs, m1, h1, r⟩ := hr.dct hp
    obtain ⟨j, e1, e2⟩ := Option.bind_eq_some_iff.mp e'
    obtain ⟨w', e3, e4⟩ := (r.val (k := j)).1 v e2
    refine .inr ⟨q, w', rx.ref_eq m1, ?_, k _ e4⟩
    rw [keyV_rel e1 ry, ← e3]
    exact .k h1
  · cases e'
theorem set_ref {h h' : PH} {x i v : PV} (e : setI h x i v = some h') : ∃ p, x = .ref p := by
  cases x with
  | ref p => exact ⟨p, rfl⟩
  | _ => cases e
theorem s_augS {o' : Bo} (o : Ok g C bn S X) (hi : noSl ix = true) (hp : o' ≠ .pow) (h1 : PE X ox (pE g (evE C oi))) (h2 : PE X ix (pE g (evE C ii))) (ha : PE X x (pE g (evE C a))) : PS X (.AugAssign (.Subscript ox ix p1) (opOf o') x pos) (pS g (evT C (.augS oi ii o' a))) := by
  refine (ps_augS h1 h2 (get_any (by have := o.v.un; omega)) ha (ip_ok o' hp) (set_any (by have := o.v.un; omega)) (by intros; cases ix <;> first | rfl | cases hi)).by fun D σ H ⟨m, h, ρ, fl, h', a', e, k⟩ => ?_
  unfold evT at e
  split at e
  · rename_i u h1 e1
    split at e
    · rename_i w h2 e2
      split at e
      · rename_i i1 e3
        split at e
        · rename_i e4
          split at e
          · rename_i i2 h3 e5
            split at e
            · rename_i z h4 e6
              split at e
              · rename_i h5 e7
                cases e
                obtain ⟨hh, _⟩ := bin_pure (.inl ⟨_, _, rfl, rfl⟩) e6
                subst hh
                refine .mk a' e1 fun u' m1 H1 x1 r1 ru => ?_
                refine .mk (a'.to x1 r1) e2 fun w' m2 H2 x2 r2 rw2 => ?_
                have ru2 := VR.mono (x2.kp r1) _ _ ru
                refine get_in o.v r2 ru2 rw2 e3 (set_ref e7) (fun i hi' => by subst hi'; simpa [nnB] using e4) fun v' rv => ?_
                refine .mk ((a'.to x1 r1).to x2 r2) e5 fun c' m3 H3 x3 r3 rc => ?_
                refine ip_in (.inl ⟨_, _, rfl, rfl⟩) (VR.mono (x3.kp r2) _ _ rv) rc e6 fun z' rz => ?_
                refine set_ok o.v r3 (VR.mono (x3.kp r2) _ _ ru2) (VR.mono (x3.kp r2) _ _ rw2) rz e7 fun m4 H4 x4 r4 => ?_
                have x14 := x1.then (x2.then (x3.then x4))
                exact k σ m4 H4 x14 (a'.to x14 r4)
              · cases e
            · cases e
          · cases e
        · cases e
      · cases e
    · cases e
  · cases e
theorem s_exp (hs : noSw x = true) (ha : PE X x (pE g (evE C a))) : PS X (.Expr x pos) (pS g (evT C (.exp a))) := by
  refine (ps_expr ha (sw_no hs)).by fun D σ H ⟨m, h, ρ, fl, h', a', e, k⟩ => ?_
  unfold evT at e
  split at e
  · rename_i v h1 e1
    cases e
    exact .mk a' e1 fun v' m1 H1 x1 r1 rv => k σ m1 H1 x1 (a'.to x1 r1)
  · cases e
theorem s_ret (ha : PE X x (pE g (evE C a))) : PS X (.Return (some x) pos) (pS g (evT C (.ret a))) := by
  refine (ps_ret ha).by fun D σ H ⟨m, h, ρ, fl, h', a', e, k⟩ => ?_
  unfold evT at e
  split at e
  · rename_i v h1 e1
    cases e
    exact .mk a' e1 k
  · cases e
theorem s_ret0 : PS X (.Return none pos) (pS g (evT C .ret0)) := ps_retN.by fun D σ H ⟨m, h, ρ, fl, h', a', e, k⟩ => by
  unfold evT at e
  cases e
  exact k .non m H .refl a'.hr rfl
theorem s_brk : PS X (.Break pos) (pS g (evT C .brk)) := ps_break.by fun D σ H ⟨m, h, ρ, fl, h', a', e, k⟩ => by
  unfold evT at e
  cases e
  exact k σ m H .refl a'
theorem s_cnt : PS X (.Continue pos) (pS g (evT C .cnt)) := ps_continue.by fun D σ H ⟨m, h, ρ, fl, h', a', e, k⟩ => by
  unfold evT at e
  cases e
  exact k σ m H .refl a'
theorem s_pass : PS X (.Pass pos) (pS g (evT C .pass)) := ps_pass.by fun D σ H ⟨m, h, ρ, fl, h', a', e, k⟩ => by
  unfold evT at e
  cases e
  exact k σ m H .refl a'
theorem s_ite {ta tb : ITs} {ys zs : List Stmt} (hc : PT X x (pT g (evE C c))) (h1 : PSs X ys (pS g (evTs C ta))) (h2 : PSs X zs (pS g (evTs C tb))) : PS X (.If x ys zs pos) (pS g (evT C (.ite c ta tb))) := by
  refine (ps_if hc h1 h2).by fun D σ H ⟨m, h, ρ, fl, h', a', e, k⟩ => ?_
  unfold evT at e
  split at e
  · rename_i h1 e1
    refine .mk a' e1 fun m1 H1 x1 r1 => ?_
    rw [if_pos rfl]
    exact .mk (a'.to x1 r1) e (k.ext x1)
  · rename_i h1 e1
    refine .mk a' e1 fun m1 H1 x1 r1 => ?_
    rw [if_neg Bool.false_ne_true]
    exact .mk (a'.to x1 r1) e (k.ext x1)
  · cases e
theorem ss_nil : PSs X [] (pS g (evTs C .nil)) := pss_nil.by fun D σ H ⟨m, h, ρ, fl, h', a', e, k⟩ => by
  unfold evTs at e
  cases e
  exact k σ m H .refl a'
theorem ss_cons {t : IT} {ts : ITs} {s : Stmt} {ss : List Stmt} (h1 : PS X s (pS g (evT C t))) (h2 : PSs X ss (pS g (evTs C ts))) : PSs X (s :: ss) (pS g (evTs C (.cons t ts))) := by
  refine (pss_cons h1 h2).by fun D σ H ⟨m, h, ρ, fl, h', a', e, k⟩ => ?_
  unfold evTs at e
  split at e
  · rename_i ρ1 h1 e1
    exact .mk a' e1 fun σ1 m1 H1 x1 a1 => .mk a1 e (k.ext x1)
  · rename_i hn
    cases fl with
    | nx ρ1 => exact absurd e (hn ρ1 h')
    | rt v => exact .mk a' e k
    | bk ρ1 => exact .mk a' e k
    | ct ρ1 => exact .mk a' e k
end
end Pv

end
section
set_option Elab.async false
set_option maxRecDepth 100000
set_option maxHeartbeats 4000000
set_option autoImplicit false
set_option linter.all false
/-! Pv15: the small language is sound: by its own structure. -/
namespace Pv
open PySem PySem.Spec PyProof.Rows L2
section
variable {g : Gd} {C : Cl} {bn : List Str}

structure GE (g : Gd) (C : Cl) (a : IE) (X : Cx) (e : Expr) : Prop where
  pe : PE X e (pE g (evE C a))
  pt : PT X e (pT g (evE C a))
  pw : ∀ op es pos, e = .BoolOp op es pos → PW X e (pT g (evE C a))
structure GEs (g : Gd) (C : Cl) (es : IEs) (X : Cx) (xs : List Expr) : Prop where
  pa : PA X xs (pA g (evEs C es))
  pp : ∀ (ks : List Str) (keys : List (Option Expr)) (pos : Pos), es.flat = true → btKeys ks keys = true → keys.length = xs.length → PPs X pos keys xs (trs g C ks es)

theorem ge_plain {S : Sg} {X : Cx} {e : Expr} {a : IE} (o : Ok g C bn S X) (h : PE X e (pE g (evE C a))) (he : ∀ whole, isTrue e X.env whole = (do let v ← whole; standAt e.pos; holding [v] (truthy v))) (hn : ∀ op es pos, e ≠ .BoolOp op es pos) : GE g C a X e :=
  ⟨h, pt_of o h he, fun op es pos z => (hn op es pos z).elim⟩
theorem bt_isSome : ∀ {ks : List Str} {keys : List (Option Expr)}, btKeys ks keys = true → keys.all (·.isSome) = true ∧ keys.length = ks.length
  | [], [], _ => ⟨rfl, rfl⟩
  | [], _ :: _, h => by cases h
  | _ :: _, [], h => by cases h
  | k :: ks, none :: es, h => by cases h
  | k :: ks, some e :: es, h => by
    cases e with
    | Constant c j p =>
      cases c with
      | str x =>
        have h' : (k == x && btKeys ks es) = true := h
        rw [Bool.and_eq_true] at h'
        obtain ⟨h1, h2⟩ := bt_isSome h'.2
        exact ⟨by rw [List.all_cons, h1]; rfl, by rw [List.length_cons, List.length_cons, h2]⟩
      | _ => cases h
    | _ => cases h

mutual
theorem okE : ∀ (a : IE) {S : Sg} {e : Expr} {X : Cx}, matE S bn a e = true → Ok g C bn S X → GE g C a X e
  | .var i, S, e, X, hm, o => by
    unfold matE at hm
    split at hm
    · simp only [Bool.and_eq_true] at hm
      exact ge_plain o (r_var o hm.1.1 hm.1.2 hm.2) (fun _ => rfl) (fun _ _ _ z => nomatch z)
    · cases hm
  | .gl x, S, e, X, hm, o => by
    unfold matE at hm
    split at hm
    · simp only [Bool.and_eq_true, beq_iff_eq] at hm
      obtain ⟨⟨rfl, h2⟩, h3⟩ := hm
      exact ge_plain o (r_gl o h2 h3) (fun _ => rfl) (fun _ _ _ z => nomatch z)
    · cases hm
  | .bt _, S, e, X, hm, o => by unfold matE at hm; cases hm
  | .con c, S, e, X, hm, o => by
    unfold matE at hm
    split at hm
    · rw [decide_eq_true_eq] at hm
      subst hm
      exact ge_plain o r_con (fun _ => rfl) (fun _ _ _ z => nomatch z)
    · cases hm
  | .neg a, S, e, X, hm, o => by
    unfold matE at hm
    split at hm
    · exact ge_plain o (r_neg (okE a hm o).pe) (fun _ => rfl) (fun _ _ _ z => nomatch z)
    · cases hm
  | .not a, S, e, X, hm, o => by
    unfold matE at hm
    split at hm
    · have p := okE a hm o
      exact ⟨r_not o p.pe, t_not p.pt, fun _ _ _ z => nomatch z⟩
    · cases hm
  | .and a b, S, e, X, hm, o => by
    unfold matE at hm
    split at hm
    · rename_i x y pos
      rw [Bool.and_eq_true] at hm
      have p := okE a hm.1 o
      have q := okE b hm.2 o
      have w := w_and (pos := pos) p.pt (pw_and1 q.pt)
      exact ⟨r_and p.pe (pe_one q.pe), w.pt, fun _ _ _ _ => w⟩
    · rw [Bool.and_eq_true] at hm
      have p := okE a hm.1 o
      have q := okE b hm.2 o
      have w := w_and p.pt (q.pw _ _ _ rfl)
      exact ⟨r_and p.pe q.pe, w.pt, fun _ _ _ _ => w⟩
    · cases hm
  | .or a b, S, e, X, hm, o => by
    unfold matE at hm
    split at hm
    · rename_i x y pos
      rw [Bool.and_eq_true] at hm
      have p := okE a hm.1 o
      have q := okE b hm.2 o
      have w := w_or (pos := pos) p.pt (pw_or1 q.pt)
      exact ⟨r_or p.pe (pe_one q.pe), w.pt, fun _ _ _ _ => w⟩
    · rw [Bool.and_eq_true] at hm
      have p := okE a hm.1 o
      have q := okE b hm.2 o
      have w := w_or p.pt (q.pw _ _ _ rfl)
      exact ⟨r_or p.pe q.pe, w.pt, fun _ _ _ _ => w⟩
    · cases hm
  | .ite c a b, S, e, X, hm, o => by
    unfold matE at hm
    split at hm
    · simp only [Bool.and_eq_true] at hm
      have p := okE c hm.1.1 o
      have q := okE a hm.1.2 o
      have r := okE b hm.2 o
      exact ⟨r_ite p.pt q.pe r.pe, t_ite p.pt q.pt r.pt, fun _ _ _ z => nomatch z⟩
    · cases hm
  | .bin o' a b, S, e, X, hm, o => by
    unfold matE at hm
    split at hm
    · simp only [Bool.and_eq_true, decide_eq_true_eq] at hm
      obtain ⟨⟨rfl, h2⟩, h3⟩ := hm
      exact ge_plain o (r_bin o (okE a h2 o).pe (okE b h3 o).pe) (fun _ => rfl) (fun _ _ _ z => nomatch z)
    · cases hm
  | .cmp o' a b, S, e, X, hm, o => by
    unfold matE at hm
    split at hm
    · simp only [Bool.and_eq_true, decide_eq_true_eq, Bool.not_eq_true'] at hm
      obtain ⟨⟨⟨rfl, h1⟩, h2⟩, h3⟩ := hm
      have p := okE a h2 o
      have q := okE b h3 o
      exact ⟨r_cmp o h1 p.pe q.pe, t_cmp o h1 p.pe q.pe, fun _ _ _ z => nomatch z⟩
    · cases hm
  | .cmp2 o1 o2 a b c, S, e, X, hm, o => by
    unfold matE at hm
    split at hm
    · simp only [Bool.and_eq_true, decide_eq_true_eq, Bool.not_eq_true'] at hm
      obtain ⟨⟨⟨⟨⟨rfl, rfl⟩, h1⟩, h2⟩, h3⟩, h4⟩ := hm
      have p := okE a h2 o
      have q := okE b h3 o
      have r := okE c h4 o
      exact ⟨r_cmp2 o h1 p.pe q.pe r.pe, t_cmp2 o h1 p.pe q.pe r.pe, fun _ _ _ z => nomatch z⟩
    · cases hm
  | .ix a i, S, e, X, hm, o => by
    unfold matE at hm
    split at hm
    · simp only [Bool.and_eq_true] at hm
      exact ge_plain o (r_ix o hm.1.1 (okE a hm.1.2 o).pe (okE i hm.2 o).pe) (fun _ => rfl) (fun _ _ _ z => nomatch z)
    · cases hm
  | .sl a lo hi, S, e, X, hm, o => by
    unfold matE at hm
    split at hm
    · simp only [Bool.and_eq_true] at hm
      exact ge_plain o (r_sl o (okE a hm.1.1 o).pe (okO lo hm.1.2 o) (okO hi hm.2 o)) (fun _ => rfl) (fun _ _ _ z => nomatch z)
    · cases hm
  | .tup es, S, e, X, hm, o => by
    unfold matE at hm
    split at hm
    · exact ge_plain o (r_tup (okEs es hm o).pa) (fun _ => rfl) (fun _ _ _ z => nomatch z)
    · cases hm
  | .lst es, S, e, X, hm, o => by
    unfold matE at hm
    split at hm
    · exact ge_plain o (r_lst (okEs es hm o).pa) (fun _ => rfl) (fun _ _ _ z => nomatch z)
    · cases hm
  | .dct ks es, S, e, X, hm, o => by
    unfold matE at hm
    split at hm
    · simp only [Bool.and_eq_true, decide_eq_true_eq, Bool.not_eq_true'] at hm
      obtain ⟨⟨⟨⟨h1, h2⟩, h3⟩, h4⟩, h5⟩ := hm
      obtain ⟨i1, i2⟩ := bt_isSome h1
      have fl := mat_flat h5
      refine ge_plain o (r_dct ((okEs es h5 o).pp ks _ _ fl h1 (by rw [i2, h4])) fl i1 (by rw [i2, h4]) ?_ (by rw [i2]; exact h2)) (fun _ => rfl) (fun _ _ _ z => nomatch z)
      intro z
      rw [z, List.length_nil] at i2
      rw [← i2] at h4
      rw [List.isEmpty_eq_false_iff] at h3
      exact h3 (List.eq_nil_of_length_eq_zero h4)
    · cases hm
  | .dct0, S, e, X, hm, o => by
    unfold matE at hm
    split at hm
    · exact ge_plain o r_dct0 (fun _ => rfl) (fun _ _ _ z => nomatch z)
    · cases hm
  | .call f es, S, e, X, hm, o => by
    unfold matE at hm
    split at hm
    · simp only [Bool.and_eq_true, beq_iff_eq] at hm
      obtain ⟨⟨⟨rfl, h1⟩, h2⟩, h3⟩ := hm
      exact ge_plain o (r_call o h1 h2 h3 (okEs es h3 o).pa) (fun _ => rfl) (fun _ _ _ z => nomatch z)
    · cases hm
  | .callV f es, S, e, X, hm, o => by
    unfold matE at hm
    split at hm
    · simp only [Bool.and_eq_true] at hm
      exact ge_plain o (r_callV o hm.1.1 (okE f hm.1.2 o).pe hm.2 (okEs es hm.2 o).pa) (fun _ => rfl) (fun _ _ _ z => nomatch z)
    · cases hm
  | .b1 b a, S, e, X, hm, o => by
    unfold matE at hm
    split at hm
    · simp only [Bool.and_eq_true, beq_iff_eq] at hm
      obtain ⟨⟨⟨rfl, h1⟩, h2⟩, h3⟩ := hm
      exact ge_plain o (r_b1 o h1 h2 (okE a h3 o).pe) (fun _ => rfl) (fun _ _ _ z => nomatch z)
    · cases hm
  | .isi a t, S, e, X, hm, o => by
    unfold matE at hm
    split at hm
    · simp only [Bool.and_eq_true, beq_iff_eq] at hm
      obtain ⟨⟨⟨⟨⟨⟨rfl, h1⟩, h2⟩, rfl⟩, h4⟩, h5⟩, h6⟩ := hm
      exact ge_plain o (r_isi o h1 h2 h4 h5 (okE a h6 o).pe) (fun _ => rfl) (fun _ _ _ z => nomatch z)
    · cases hm
  | .lenset a, S, e, X, hm, o => by
    unfold matE at hm
    split at hm
    · simp only [Bool.and_eq_true, beq_iff_eq] at hm
      obtain ⟨⟨⟨⟨⟨rfl, h1⟩, rfl⟩, h3⟩, h4⟩, h5⟩ := hm
      exact ge_plain o (r_lenset o h1 h3 h4 (okE a h5 o).pe) (fun _ => rfl) (fun _ _ _ z => nomatch z)
    · cases hm
  | .sortset a, S, e, X, hm, o => by
    unfold matE at hm
    split at hm
    · simp only [Bool.and_eq_true, beq_iff_eq] at hm
      obtain ⟨⟨⟨⟨⟨rfl, h1⟩, rfl⟩, h3⟩, h4⟩, h5⟩ := hm
      exact ge_plain o (r_sortset o h1 h3 h4 (okE a h5 o).pe) (fun _ => rfl) (fun _ _ _ z => nomatch z)
    · cases hm
  | .split a, S, e, X, hm, o => by
    unfold matE at hm
    split at hm
    · simp only [Bool.and_eq_true] at hm
      obtain ⟨⟨⟨h0, h1⟩, h2⟩, h3⟩ := hm
      rw [beq_iff_eq] at h0
      subst h0
      exact ge_plain o (r_split h1 h2 (okE a h3 o).pe) (fun _ => rfl) (fun _ _ _ z => nomatch z)
    · cases hm
  | .app a b, S, e, X, hm, o => by
    unfold matE at hm
    split at hm
    · simp only [Bool.and_eq_true] at hm
      obtain ⟨⟨⟨⟨⟨h0, h1⟩, h2⟩, h3⟩, h4⟩, h5⟩ := hm
      rw [beq_iff_eq] at h0
      subst h0
      exact ge_plain o (r_app o h1 h2 h3 (okE a h4 o).pe (okE b h5 o).pe) (fun _ => rfl) (fun _ _ _ z => nomatch z)
    · cases hm
  | .ext a b, S, e, X, hm, o => by
    unfold matE at hm
    split at hm
    · simp only [Bool.and_eq_true] at hm
      obtain ⟨⟨⟨⟨⟨h0, h1⟩, h2⟩, h3⟩, h4⟩, h5⟩ := hm
      rw [beq_iff_eq] at h0
      subst h0
      exact ge_plain o (r_ext o h1 h2 h3 (okE a h4 o).pe (okE b h5 o).pe) (fun _ => rfl) (fun _ _ _ z => nomatch z)
    · cases hm
  | .upd a b, S, e, X, hm, o => by
    unfold matE at hm
    split at hm
    · simp only [Bool.and_eq_true] at hm
      obtain ⟨⟨⟨⟨⟨h0, h1⟩, h2⟩, h3⟩, h4⟩, h5⟩ := hm
      rw [beq_iff_eq] at h0
      subst h0
      exact ge_plain o (r_upd o h1 h2 h3 (okE a h4 o).pe (okE b h5 o).pe) (fun _ => rfl) (fun _ _ _ z => nomatch z)
    · cases hm
  | .lc a tg s own c, S, e, X, hm, o => by
    unfold matE at hm
    split at hm
    · rename_i elt t it ifs k scope pos
      simp only [Bool.and_eq_true, decide_eq_true_eq] at hm
      obtain ⟨⟨⟨⟨⟨⟨⟨h0, h1⟩, h2⟩, h3⟩, h4⟩, h5⟩, h6⟩, h7⟩ := hm
      subst h0
      have hc : ∀ Y : Cx, Ok g C bn (S.blk scope) Y → PTs Y ifs (pC g (evC C c)) := fun Y oY => by
        split at h7
        · exact okC0 c h7
        · exact okC1 c h7 oY
        · cases h7
      exact ge_plain o (r_lc o (okS s h1 ⟨_, h4⟩ o) h2 h3 h4 h5 hc fun Y oY => (okE a h6 oY).pe) (fun _ => rfl) (fun _ _ _ z => nomatch z)
    · cases hm
theorem okEs : ∀ (es : IEs) {S : Sg} {st : Bool} {xs : List Expr} {X : Cx}, matEs S bn st es xs = true → Ok g C bn S X → GEs g C es X xs
  | .nil, S, st, xs, X, hm, o => by
    unfold matEs at hm
    cases xs with
    | nil =>
      refine ⟨a_nil, fun ks keys pos _ hk hl => ?_⟩
      have : keys = [] := List.eq_nil_of_length_eq_zero hl
      subst this
      cases ks with
      | nil => exact pps_nil
      | cons _ _ => cases hk
    | cons _ _ => cases hm
  | .cons a es, S, st, xs, X, hm, o => by
    unfold matEs at hm
    split at hm
    · rename_i x r
      simp only [Bool.and_eq_true] at hm
      have p := (okE a hm.1.2 o).pe
      have q := okEs es hm.2 o
      refine ⟨a_cons hm.1.1 p q.pa, fun ks keys pos fl hk hl => ?_⟩
      cases ks with
      | nil =>
        cases keys with
        | nil => cases hl
        | cons _ _ => cases hk
      | cons k ks =>
        cases keys with
        | nil => cases hk
        | cons e keys =>
          cases e with
          | none => cases hk
          | some e =>
            cases e with
            | Constant c j p' =>
              cases c with
              | str y =>
                have hk' : (k == y && btKeys ks keys) = true := hk
                rw [Bool.and_eq_true, beq_iff_eq] at hk'
                obtain ⟨rfl, h2⟩ := hk'
                exact pps_cons pe_str p (q.pp ks keys pos fl h2 (by simpa using hl))
              | _ => cases hk
            | _ => cases hk
    · cases hm
  | .star a es, S, st, xs, X, hm, o => by
    unfold matEs at hm
    split at hm
    · simp only [Bool.and_eq_true] at hm
      exact ⟨a_star o (okE a hm.1.2 o).pe (okEs es hm.2 o).pa, fun _ _ _ fl => nomatch fl⟩
    · cases hm
theorem okO : ∀ (a : IO) {S : Sg} {e : Option Expr} {X : Cx}, matO S bn a e = true → Ok g C bn S X → L2.PO X e (pO g (evO C a))
  | .none, S, e, X, hm, o => by
    unfold matO at hm
    cases e with
    | none => exact o_none
    | some _ => cases hm
  | .some a, S, e, X, hm, o => by
    unfold matO at hm
    split at hm
    · exact o_some (okE a hm o).pe
    · cases hm
theorem okC0 : ∀ (a : IO) {S : Sg} {X : Cx}, matC S bn a none = true → PTs X [] (pC g (evC C a))
  | .none, S, X, hm => c_none
  | .some a, S, X, hm => by unfold matC at hm; cases hm
theorem okC1 : ∀ (a : IO) {S : Sg} {e : Expr} {X : Cx}, matC S bn a (some e) = true → Ok g C bn S X → PTs X [e] (pC g (evC C a))
  | .none, S, e, X, hm, o => by unfold matC at hm; cases hm
  | .some a, S, e, X, hm, o => by
    unfold matC at hm
    exact c_some (okE a hm o).pt
theorem okS : ∀ (s : IS) {S : Sg} {tg : Tg} {t e : Expr} {X : Cx}, matS S bn tg s e = true → (∃ S', matTg S' tg t = true) → Ok g C bn S X → PI X t e (pI g (evS C s))
  | .it a, S, tg, t, e, X, hm, _, o => by
    unfold matS at hm
    exact i_it o (okE a hm o).pe
  | .rng a, S, tg, t, e, X, hm, _, o => by
    unfold matS at hm
    split at hm
    · simp only [Bool.and_eq_true, beq_iff_eq] at hm
      obtain ⟨⟨⟨rfl, h1⟩, h2⟩, h3⟩ := hm
      exact i_rng o h1 h2 (okE a h3 o).pe
    · cases hm
  | .rng2 a b, S, tg, t, e, X, hm, _, o => by
    unfold matS at hm
    split at hm
    · simp only [Bool.and_eq_true, beq_iff_eq] at hm
      obtain ⟨⟨⟨⟨⟨rfl, h1⟩, h2⟩, h3⟩, h4⟩, h5⟩ := hm
      exact i_rng2 o h1 h2 h3 (okE a h4 o).pe (okE b h5 o).pe
    · cases hm
  | .zip a b, S, tg, t, e, X, hm, ht, o => by
    obtain ⟨S', ht⟩ := ht
    unfold matS at hm
    cases tg with
    | one _ => cases hm
    | tup is =>
      unfold matTg at ht
      split at ht
      · rename_i heq
        cases heq
      · simp only at hm
        split at hm
        · simp only [Bool.and_eq_true, beq_iff_eq] at hm
          obtain ⟨⟨⟨⟨⟨rfl, h1⟩, h2⟩, h3⟩, h4⟩, h5⟩ := hm
          exact i_zip o h1 h2 h3 (okE a h4 o).pe (okE b h5 o).pe
        · cases hm
      · cases ht
  | .enum a, S, tg, t, e, X, hm, ht, o => by
    obtain ⟨S', ht⟩ := ht
    unfold matS at hm
    cases tg with
    | one _ => cases hm
    | tup is =>
      unfold matTg at ht
      split at ht
      · rename_i heq
        cases heq
      · simp only at hm
        split at hm
        · simp only [Bool.and_eq_true, beq_iff_eq] at hm
          obtain ⟨⟨⟨rfl, h1⟩, h2⟩, h3⟩ := hm
          exact i_enum o h1 h2 (okE a h3 o).pe
        · cases hm
      · cases ht
end

theorem lc_mat {a : IE} {i : Nat} {n : Str} {py p pos : Pos} {S : Sg} {X : Cx} {elt : Expr} {gs : List Comprehension} {scope : Scope} (o : Ok g C bn S X) (hN : (S.N[i]? == some n) = true) (hst : stB S n = true) (hl : lcOk S.sc n py (.ListComp elt gs scope p) = true) (hm : matE S bn a (.ListComp elt gs scope p) = true) :
    PS X (.Assign [.Name n py] (.ListComp elt gs scope p) pos) (pS g (evT C (.asg i a))) := by
  cases a with
  | lc a tg s own c =>
    unfold matE at hm
    split at hm
    · rename_i elt t it ifs k scope pos heq
      cases heq
      simp only [Bool.and_eq_true, decide_eq_true_eq] at hm
      obtain ⟨⟨⟨⟨⟨⟨⟨h0, h1⟩, h2⟩, h3⟩, h4⟩, h5⟩, h6⟩, h7⟩ := hm
      subst h0
      have hc : ∀ Y : Cx, Ok g C bn (S.blk scope) Y → PTs Y ifs (pC g (evC C c)) := fun Y oY => by
        split at h7
        · exact okC0 c h7
        · exact okC1 c h7 oY
        · cases h7
      exact s_lc o hN hl (okS s h1 ⟨_, h4⟩ o) h2 h3 h4 h5 hc fun Y oY => (okE a h6 oY).pe
    · cases hm
  | _ => unfold matE at hm; cases hm
theorem lcOk_is {sc : Scope} {n : Str} {py : Pos} {e : Expr} (h : lcOk sc n py e = true) : ∃ elt gs scope p, e = .ListComp elt gs scope p := by
  cases e with
  | ListComp elt gs scope p => exact ⟨elt, gs, scope, p, rfl⟩
  | _ => cases h
mutual
theorem okT : ∀ (t : IT) {S : Sg} {s : Stmt} {X : Cx}, matT S bn t s = true → Ok g C bn S X → PS X s (pS g (evT C t))
  | .asg i a, S, s, X, hm, o => by
    unfold matT at hm
    split at hm
    · simp only [Bool.and_eq_true, Bool.or_eq_true] at hm
      obtain ⟨⟨⟨h1, h2⟩, h3⟩, h4⟩ := hm
      rcases h3 with h3 | h3
      · exact s_asg o h1 h2 h3 (okE a h4 o).pe
      · obtain ⟨elt, gs, scope, p, rfl⟩ := lcOk_is h3
        exact lc_mat o h1 h2 h3 h4
    · cases hm
  | .asgT is a, S, s, X, hm, o => by
    unfold matT at hm
    split at hm
    · simp only [Bool.and_eq_true] at hm
      obtain ⟨⟨⟨h1, h2⟩, h3⟩, h4⟩ := hm
      exact s_asgT o h3 h1 h2 (okE a h4 o).pe
    · cases hm
  | .sub u i a, S, s, X, hm, o => by
    unfold matT at hm
    split at hm
    · simp only [Bool.and_eq_true] at hm
      obtain ⟨⟨⟨⟨h1, h2⟩, h3⟩, h4⟩, h5⟩ := hm
      exact s_sub o h1 h2 (okE u h3 o).pe (okE i h4 o).pe (okE a h5 o).pe
    · cases hm
  | .aug i b a, S, s, X, hm, o => by
    unfold matT at hm
    split at hm
    · simp only [Bool.and_eq_true, decide_eq_true_eq] at hm
      obtain ⟨⟨⟨⟨h1, h2⟩, rfl⟩, h4⟩, h5⟩ := hm
      exact s_aug o h1 h2 h4 (okE a h5 o).pe
    · cases hm
  | .augS u i b a, S, s, X, hm, o => by
    unfold matT at hm
    split at hm
    · simp only [Bool.and_eq_true, decide_eq_true_eq] at hm
      obtain ⟨⟨⟨⟨⟨h1, rfl⟩, h2⟩, h3⟩, h4⟩, h5⟩ := hm
      exact s_augS o h1 h2 (okE u h3 o).pe (okE i h4 o).pe (okE a h5 o).pe
    · cases hm
  | .exp a, S, s, X, hm, o => by
    unfold matT at hm
    split at hm
    · rw [Bool.and_eq_true] at hm
      exact s_exp hm.1 (okE a hm.2 o).pe
    · cases hm
  | .ret a, S, s, X, hm, o => by
    unfold matT at hm
    split at hm
    · exact s_ret (okE a hm o).pe
    · cases hm
  | .ret0, S, s, X, hm, o => by
    unfold matT at hm
    split at hm
    · exact s_ret0
    · cases hm
  | .ite c a b, S, s, X, hm, o => by
    unfold matT at hm
    split at hm
    · simp only [Bool.and_eq_true] at hm
      exact s_ite (okE c hm.1.1 o).pt (okTs a hm.1.2 o) (okTs b hm.2 o)
    · cases hm
  | .fr tg s' b, S, s, X, hm, o => by
    unfold matT at hm
    split at hm
    · simp only [Bool.and_eq_true] at hm
      obtain ⟨⟨⟨h1, h2⟩, h3⟩, h4⟩ := hm
      exact s_for o h1 h2 (okS s' h3 ⟨_, h1⟩ o) (okTs b h4 o)
    · cases hm
  | .wh c b, S, s, X, hm, o => by
    unfold matT at hm
    split at hm
    · rw [Bool.and_eq_true] at hm
      exact s_wh o (okE c hm.1 o).pt (okTs b hm.2 o)
    · cases hm
  | .brk, S, s, X, hm, o => by
    unfold matT at hm
    split at hm
    · exact s_brk
    · cases hm
  | .cnt, S, s, X, hm, o => by
    unfold matT at hm
    split at hm
    · exact s_cnt
    · cases hm
  | .pass, S, s, X, hm, o => by
    unfold matT at hm
    split at hm
    · exact s_pass
    · cases hm
theorem okTs : ∀ (t : ITs) {S : Sg} {s : List Stmt} {X : Cx}, matTs S bn t s = true → Ok g C bn S X → PSs X s (pS g (evTs C t))
  | .nil, S, s, X, hm, o => by
    unfold matTs at hm
    cases s with
    | nil => exact ss_nil
    | cons _ _ => cases hm
  | .cons a r, S, s, X, hm, o => by
    unfold matTs at hm
    split at hm
    · rw [Bool.and_eq_true] at hm
      exact ss_cons (okT a hm.1 o) (okTs r hm.2 o)
    · cases hm
end
end
end Pv

end
section
set_option Elab.async false
set_option maxRecDepth 100000
set_option maxHeartbeats 4000000
set_option autoImplicit false
set_option linter.all false
/-! Pv16: calls of the own defs, by depth. -/
namespace Pv
open PySem PySem.Spec PyProof.Rows L2

section
variable {g : Gd} {m m' : List Addr} {h h' : PH} {H H' : Hp}
theorem sr_start {vs : List PV} {us : List V} {N : List Str} {np nl : Nat} (rv : VRs g m H vs us) (h1 : vs.length = np) (h2 : nl = N.length) : SR g m H (vs.map some ++ List.replicate (nl - np) none) (L2.start N us) := by
  have hl := rv.len
  unfold L2.start
  subst h1 h2
  refine ⟨by rw [List.length_append, List.length_append, List.length_map, List.length_map, List.length_replicate, List.length_replicate]; omega, fun i x e => ?_⟩
  by_cases hi : i < vs.length
  · rw [List.getElem?_append_left (by rw [List.length_map]; exact hi), List.getElem?_map] at e
    obtain ⟨y, e1, e2⟩ := Option.map_eq_some_iff.mp e
    cases e2
    obtain ⟨v, e3, r⟩ := rv.get e1
    refine ⟨v, ?_, r⟩
    rw [List.getElem?_append_left (by rw [List.length_map]; omega), List.getElem?_map, e3]
    rfl
  · rw [List.getElem?_append_right (by rw [List.length_map]; omega), List.getElem?_replicate] at e
    split at e <;> cases e
end

/-! ### the table -/
/-- one def, as the table has it -/
structure DI where
  d : He.DefD
  ps : List Str
  N : List Str
  fn : Fn
structure DI.Ok (bn : List Str) (x : DI) : Prop where
  sc : FnScope x.N x.ps x.d.scope
  np : x.fn.np = x.ps.length
  nl : x.fn.nl = x.N.length
  mat : matTs ⟨x.N, x.d.scope, fun _ => true⟩ bn x.fn.body x.d.body = true
  bind : ∀ (kV doc pm : Value) (an : Option Addr) (cdv ct : Value) (us : List Value), us.length = x.ps.length → bindArgs (PySem.W.fnOf x.d.name x.d.qual x.d.params x.d.body x.d.scope .none kV doc pm an cdv ct) ⟨us, []⟩ = pure (x.ps.zip us)
  dfl : x.d.dfl = []
/-- the ground: all the defs at their places -/
structure Gnd (g : Gd) (P : Program) (w : World) (mg : Str → Option Value) (base : Heap) (bn : List Str) (tab : Str → Option Fn) (gl : Str → Option PV) : Prop where
  blt : ∀ x, bn.contains x = true → mg x = none
  gl : ∀ x u, gl x = some u → ∃ (v : V) (w : Value), mg x = some w ∧ RelV v w ∧ ∀ m H, VR g m H u v
  has : ∀ f fn, tab f = some fn → ∃ a, g.fa f = some a
  fn : ∀ f a, g.fa f = some a → ∃ (x : DI) (fd : FuncData), tab f = some x.fn ∧ x.Ok bn ∧ FunD g.K x.d.name x.d.qual x.d.params x.d.body x.d.scope [] (x.d.kws g.K) a fd ∧ mg f = some (.ref a)

theorem tab_of {tab : Str → Option Fn} {gl : Str → Option PV} {n : Nat} {f : Str} {vs : List PV} {h : PH} {r : PV × PH} (e : evCall tab gl n f vs h = some r) : ∃ fn, tab f = some fn := by
  cases n with
  | zero => cases e
  | succ n =>
    unfold evCall at e
    split at e
    · cases e
    · rename_i fn hf
      exact ⟨fn, hf⟩
theorem callee {g : Gd} {P : Program} {w : World} {mg : Str → Option Value} {base : Heap} {bn : List Str} {tab : Str → Option Fn} {gl : Str → Option PV} (G : Gnd g P w mg base bn tab gl) :
    ∀ (n : Nat) (A : Around), Room n A → A.guards = some [] → ∀ f a, g.fa f = some a → FnC g (evCall tab gl n f) P w mg base A a := by
  intro n
  induction n with
  | zero => intro A _ _ f a _ outer s H us vs m h pvs v h' Q _ _ _ _ e; cases e
  | succ n ih =>
    intro A room hg f a hf outer s H us vs m h pvs v h' Q e0 ru hr rv e k
    obtain ⟨x, fd, ht, ok, F, hm⟩ := G.fn f a hf
    unfold evCall at e
    rw [ht] at e
    simp only at e
    split at e
    · rename_i hlen
      have bnd := FunD.bindsA (ps := x.ps) F ok.bind s us (by rw [← ru.length, rv.len, hlen.1, ok.np])
      obtain ⟨oc, od, dV, kV, doc, pm, an, cdv, ct, osl, rfl, lk, hcd, _, _⟩ := F.ex
      have inK : g.K.In s.heap := PySem.W.Frag.In.keeps e0.mod.kin fun b o q => (e0.bs b o q).1
      have unlim : s.heap.NoLimit := Heap.NoLimit.keeps e0.mod.nolimit fun b o q => (e0.bs b o q).1
      have kinds : ∀ y ∈ x.ps.zip us, x.d.scope.names.lookup y.1 = some .local ∨ (x.d.scope.names.lookup y.1 = some .cell ∧ ((cellsFrom (s.heap.objs.size + 1) x.d.scope.names []).lookup y.1).isSome = true) := by
        intro y hy
        obtain ⟨y1, y2⟩ := y
        refine (ok.sc.par y1 (List.of_mem_zip hy).1).imp id fun q => ⟨q, PySem.W.cellsFrom_some _ _ _ (.inl q)⟩
      refine codeAny_call_function room.depth (inK _ _ lk) rfl ok.sc.co ok.sc.gen rfl (PySem.W.codeRec_of inK hcd) (bnd _ _ _ _ (wpAny_newFunctionEnv_cells ok.sc.kind kinds ?_))
      intro env he s1 ic
      subst he
      refine ⟨unlim.keeps ic.toInCall.keep, codeAny_func ?_⟩
      have I := inv_start (CX := fun _ _ _ _ _ _ => False) (P := P) (w := w) (mg := mg) (E := fun _ _ _ => False) ok.sc room.hd e0 (by rw [rv.len, hlen.1, ok.np]) ru ic
      have room' : Room n (A.deeper (envOfC x.d.qual x.d.scope s.heap.objs.size a cdv)) := room.deeper _
      have o : Ok g ⟨evCall tab gl n, gl⟩ bn ⟨x.N, x.d.scope, fun _ => true⟩ (cxOf (fun _ _ _ _ _ _ => False) P w g.K mg base x.N x.d.qual x.d.scope a cdv A outer s H (fun _ _ _ => False)).nox := {
        v := ⟨rfl, rfl, by have := room'.un; show (A.deeper _).units + 100 < cLine; omega, hg⟩
        N := rfl
        nd := ok.sc.nd
        sc := rfl
        fn := fun _ _ => rfl
        xe := rfl
        blt := G.blt
        gl := G.gl
        has := fun f' vs' h' r' e' => let ⟨fn, hf'⟩ := tab_of e'; G.has f' fn hf'
        fa := fun f' a' e' => by
          obtain ⟨x', fd', _, _, F', hm'⟩ := G.fn f' a' e'
          exact ⟨hm', F'.kp⟩
        run := fun f' a' e' => ih _ room' hg f' a' e' }
      have ps := (okTs x.fn.body ok.mat o).nox
      have sr : SR g m H (pvs.map some ++ List.replicate (x.fn.nl - x.fn.np) none) (L2.start x.N vs) := sr_start rv hlen.1 ok.nl
      have run := fun D q => ps.run [] s1 (L2.start x.N vs) H D I q
      split at e
      · rename_i v0 h0 e1
        have et : trim h.length v0 h0 = (v, h') := Option.some.inj e
        have k : Kt g m H (trim h.length v0 h0).2 (trim h.length v0 h0).1 Q := by rw [et]; exact k
        refine wpAny_mono (run { nx := fun _ H' => Q .non H', rt := Q } (.mk ⟨hr, sr⟩ e1 (kt_trim hr k))) (fun fl s' hs => ?_) fun e s' hs => ?_
        · cases fl with
          | ret u => obtain ⟨v1, σ1, H1, J, r1, q1⟩ := hs; exact ⟨v1, H1, J.os, J.bare, J.base, J.hok, r1, q1⟩
          | next => obtain ⟨σ1, H1, J, q1⟩ := hs; exact ⟨.non, H1, J.os, J.bare, J.base, J.hok, rfl, q1⟩
          | brk => obtain ⟨_, _, _, z⟩ := hs; exact False.elim z
          | cont => obtain ⟨_, _, _, z⟩ := hs; exact False.elim z
        · exact wpAny_mono hs (fun _ _ z => False.elim z) fun _ _ z => False.elim z
      · rename_i ρ0 h0 e1
        have et : trim h.length .non h0 = (v, h') := Option.some.inj e
        have k : Kt g m H (trim h.length .non h0).2 (trim h.length .non h0).1 Q := by rw [et]; exact k
        refine wpAny_mono (run { nx := fun _ H' => Q .non H', rt := Q } (.mk ⟨hr, sr⟩ e1 fun σ1 m1 H1 x1 a1 => kt_trim (v := .non) hr k .non m1 H1 x1 a1.hr rfl)) (fun fl s' hs => ?_) fun e s' hs => ?_
        · cases fl with
          | ret u => obtain ⟨v1, σ1, H1, J, r1, q1⟩ := hs; exact ⟨v1, H1, J.os, J.bare, J.base, J.hok, r1, q1⟩
          | next => obtain ⟨σ1, H1, J, q1⟩ := hs; exact ⟨.non, H1, J.os, J.bare, J.base, J.hok, rfl, q1⟩
          | brk => obtain ⟨_, _, _, z⟩ := hs; exact False.elim z
          | cont => obtain ⟨_, _, _, z⟩ := hs; exact False.elim z
        · exact wpAny_mono hs (fun _ _ z => False.elim z) fun _ _ z => False.elim z
      · cases e
    · cases e
end Pv

end
section
set_option Elab.async false
set_option maxRecDepth 100000
set_option maxHeartbeats 4000000
set_option autoImplicit false
set_option linter.all false
/-! Pv17: the law's call, from what the evaluator gives. -/
namespace Pv
open PySem PySem.Spec PyProof.Rows L2

theorem ints_vrs {g : Gd} {m : List Addr} {H : Hp} : ∀ ns : List Int, VRs g m H (ns.map PV.int) (ns.map V.int)
  | [] => rfl
  | _ :: ns => ⟨_, _, rfl, rfl, ints_vrs ns⟩
/-- the script as the law has it -/
abbrev scriptV (ns : List Int) : PV := .rol (ns.map PV.int)
theorem law_run {P : Program} {w : World} {g : Gd} {mg mb : Str → Option Value} {fa a : Addr} {f : Str} {s₁ : Shared} {vs : List Value} {ns : List Int} {bn : List Str} {tab : Str → Option Fn} {gl : Str → Option PV} {n : Nat} {h' : PH}
    (inK : g.K.In s₁.heap) (nsG : s₁.heap.Ns mainGlobals mg) (nsB : s₁.heap.Ns builtinsNs mb) (bts : ∀ x : Str, x ≠ "__name__" → mb x = bootBuiltins x) (nolim : s₁.heap.NoLimit) (ge : s₁.gens = #[])
    (obj : s₁.heap.get? a = some { cls := .type "list", data := .seq vs.toArray }) (whole : IntsAre vs ns) (short : ns.length ≤ sizeLine) (room : Room n callerA)
    (G : ∀ base : Heap, g.K.In base → base.Ns mainGlobals mg → Gnd g P w mg base bn tab gl) (hf : g.fa f = some fa) (ev : evCall tab gl n f [scriptV ns] [] = some (.bl true, h')) :
    codeAny (model P w) callerA (.call (.ref fa) ⟨[.ref a], []⟩) (fun r s' => r = .ok (.ret (.bool true)) ∧ OldK s₁.heap s'.heap ∧ s'.os = s₁.os ∧ AllBare s'.gens) s₁ := by
  have vals := vals_ints whole
  have many := whole.length
  -- H: nothing, or the script alone
  have main : ∀ H : Hp, (∀ b u, H b = some u → b = a ∧ u = .frz { cls := .type "list", data := .seq vs.toArray } (.lst (ns.map V.int)) ∧ g.K.lookup a = none) → RoL g.K H a (ns.map V.int) → HOk P w H s₁.heap →
      codeAny (model P w) callerA (.call (.ref fa) ⟨[.ref a], []⟩) (fun r s' => r = .ok (.ret (.bool true)) ∧ OldK s₁.heap s'.heap ∧ s'.os = s₁.os ∧ AllBare s'.gens) s₁ := by
    intro H alone ro held
    have out : ∀ {b : Addr} {o : Obj}, s₁.heap.get? b = some o → b ≠ a → (hidT s₁.heap H).get? b = some o := fun {b o} e ne => hidT_get e (by
      cases q : H b with
      | none => rfl
      | some u => exact absurd (alone b u q).1 ne)
    have nsOut : ∀ {b : Addr} {m : Str → Option Value}, s₁.heap.Ns b m → (hidT s₁.heap H).Ns b m := fun {b m} ⟨o, es, ep, e, d, r⟩ => ⟨o, es, ep, out e (fun z => by
      subst z
      rw [obj] at e
      cases e
      cases (show Data.seq vs.toArray _ = Data.dict es ep from d)), d, r⟩
    have inK' : g.K.In (hidT s₁.heap H) := fun b o e => hidT_get (inK b o e) (by
      cases q : H b with
      | none => rfl
      | some u =>
        obtain ⟨rfl, _, z⟩ := alone b u q
        rw [z] at e
        cases e)
    have md : Mod g.K mg (hidT s₁.heap H) := ⟨inK', nsOut nsG, ⟨mb, nsOut nsB, bts⟩, let ⟨mc, p, q⟩ := nolim; ⟨mc, nsOut p, q⟩⟩
    have e0 : Env0 P w g.K mg (hidT s₁.heap H) callerA [] s₁ H := ⟨rfl, md, fun b o e => of_hidT e, Nat.le_of_eq (hidT_size _ _), trivial, fun b hb => (by cases hb), held, .of_eq ge⟩
    have hr : HR g [] [] H := ⟨rfl, List.nodup_nil, fun p o b e _ => by simp at e⟩
    have rel : VRs g [] H [scriptV ns] [.ref a] := ⟨.ref a, [], rfl, ⟨a, ns.map V.int, rfl, ro, ints_vrs ns⟩, rfl⟩
    have go := callee (G _ inK' (nsOut nsG)) n callerA room rfl f fa hf [] s₁ H [.ref a] [.ref a] [] [] [scriptV ns] (.bl true) h' (fun v _ => v = .bl true) e0 (.cons rfl .nil) hr rel ev fun v' m' H' _ _ rv => rv
    refine codeAny_mono go fun r s' z => ?_
    cases r with
    | error e => exact False.elim z
    | ok fl =>
      cases fl with
      | next => exact False.elim z
      | brk => exact False.elim z
      | cont => exact False.elim z
      | ret u =>
        obtain ⟨v, H', os, bare, un, held', ru, q⟩ := z
        have q' : v = .bl true := q
        subst q'
        have hu : u = Value.bool true := ru
        subst hu
        refine ⟨rfl, OldK.of_keep fun b o e => ?_, os, bare⟩
        cases q : H b with
        | none => exact un.keep b o e q (fun z => nomatch z) (fun z => nomatch z)
        | some u =>
          obtain ⟨_, rfl, _⟩ := alone b u q
          obtain ⟨e1, _⟩ := held b _ q
          obtain ⟨e2, _⟩ := held' b _ (un.frzs b _ _ q)
          rw [e] at e1
          cases e1
          exact e2
  cases hk : g.K.lookup a with
  | some o =>
    have e := inK a o hk
    rw [obj] at e
    cases e
    exact main (fun _ => none) (fun b u z => nomatch z) (.inr ⟨_, vs.toArray, _, hk, rfl, rfl, rfl, by rw [List.size_toArray, many]; exact short, by simpa using vals⟩) fun b u z => nomatch z
  | none =>
    have at_ : (upd (fun _ => none) a (.frz { cls := .type "list", data := .seq vs.toArray } (.lst (ns.map V.int))) : Hp) a = some (.frz { cls := .type "list", data := .seq vs.toArray } (.lst (ns.map V.int))) := upd_same
    have off : ∀ b u, (upd (fun _ => none) a (.frz { cls := .type "list", data := .seq vs.toArray } (.lst (ns.map V.int))) : Hp) b = some u → b = a ∧ u = .frz { cls := .type "list", data := .seq vs.toArray } (.lst (ns.map V.int)) := fun b u z => by
      by_cases hb : b = a
      · subst hb
        rw [at_] at z
        cases z
        exact ⟨rfl, rfl⟩
      · rw [upd_ne hb] at z
        cases z
    refine main _ (fun b u z => ⟨(off b u z).1, (off b u z).2, hk⟩) (.inl ⟨_, at_⟩) fun b u z => ?_
    obtain ⟨rfl, rfl⟩ := off b u z
    exact ⟨obj, by rw [List.length_map]; exact short, vs, _, vals, obj⟩

/-- the goal behind the head -/
theorem walk_ev {l : PySem.W.OpenLaw} {most n : Nat} {q : Program} {loose : List Str} {XP : (Str → Option Value) → Heap → Prop} {YP : World → Heap → Prop} {d : DefRec} {f : Str} {bn : List Str} {tab : Str → Option Fn} {gl : Str → Option PV}
    (hn : l.most = some most) (hn2 : most ≤ sizeLine) (hdf : d.params.defaults = []) (room : Room n callerA)
    (F : ∀ (w : World) (mg : Str → Option Value) (fa : Addr) (h : Heap), YP w h → h.Ns mainGlobals mg → mg d.name = some (.ref fa) →
      ∃ g : Gd, g.K.In h ∧ g.fa f = some fa ∧ ∀ base : Heap, g.K.In base → base.Ns mainGlobals mg → Gnd g l.prog w mg base bn tab gl)
    (ev : ∀ ns : List Int, ns.length ≤ most → ∃ h', evCall tab gl n f [scriptV ns] [] = some (.bl true, h')) :
    PySem.W.WalkO q loose XP YP l.row.toRowW d [] (fun f vs => PySem.call f vs) := by
  refine Att.attach_call hn hdf fun w s₀ s₁ mg mb fa o pm cd doc a vs ns G Y ho hd hcd hmg hobj hints hlen hg => ?_
  obtain ⟨g, inK, hf, gnd⟩ := F w mg fa _ Y G.T.g hmg
  obtain ⟨h', e⟩ := ev ns hlen
  exact law_run inK G.T.g G.T.b G.T.builtins G.T.nolimit hg hobj hints (Nat.le_trans hlen hn2) room gnd hf e
end Pv

end
section
set_option Elab.async false
set_option maxRecDepth 100000
set_option maxHeartbeats 4000000
set_option autoImplicit false
set_option linter.all false
/-! Pv18: a law's data: its defs, its module's constants, what the head has to see; from that the ground. -/
namespace Pv
open PySem PySem.Spec PyProof.Rows L2

/-- a module's constant -/
inductive GC where
  | int (i : Int) | str (s : Str) | fn | txs (vs : List Str)
def GC.pv (x : Str) : GC → PV
  | .int i => .int i
  | .str s => .str s
  | .fn => .fn x
  | .txs vs => .tup (vs.map .str)
def GC.fas (x : Str) : GC → List He.Fa
  | .int i => [.int x i]
  | .str s => [.str x s]
  | .fn => []
  | .txs _ => [.glo x]
def GC.tbs (x : Str) : GC → List (Str × List He.Dv)
  | .txs vs => [(x, vs.map .str)]
  | _ => []
structure LD where
  dl : List DI
  gc : List (Str × GC)
  bn : List Str
def LD.tabL (L : LD) : List (Str × Fn) := L.dl.map fun x => (x.d.name, x.fn)
def LD.glL (L : LD) : List (Str × PV) := L.gc.map fun c => (c.1, c.2.pv c.1)
def LD.fas (L : LD) : List He.Fa := L.dl.map (fun x => .glo x.d.name) ++ L.bn.map .free ++ L.gc.flatMap fun c => c.2.fas c.1
def LD.fns (L : LD) : List He.DefD := L.dl.map (·.d)
def LD.tbs (L : LD) : List (Str × List He.Dv) := L.gc.flatMap fun c => c.2.tbs c.1

/-! ### what the head sees -/
def obsP (tb : List (Str × List He.Dv)) (fa : List He.Fa) (fn : List He.DefD) (K : PySem.W.Frag) : He.AlD := ((tb.all fun t => He.tupB K t.1 t.2) && (He.obsD fa fn K).1, (He.obsD fa fn K).2)
def SaysP (tb : List (Str × List He.Dv)) (fa : List He.Fa) (fn : List He.DefD) (K : PySem.W.Frag) : Prop := obsP tb fa fn K = He.valD fn
def obsPG (n : Nat) (tb : List (Str × List He.Dv)) (fa : List He.Fa) (fn : List He.DefD) (g : Addr → Option Obj) : He.AlD := obsP tb fa fn (He.frG g (He.asD g n))
def hookP (n : Nat) (tb : List (Str × List He.Dv)) (fa : List He.Fa) (fn : List He.DefD) : PySem.W.Hook where
  α := He.AlD
  obs := fun s => obsPG n tb fa fn s.heap.get?
  val := fun _ => He.valD fn
  says := fun _ h => ∃ K : PySem.W.Frag, K.In h ∧ SaysP tb fa fn K
  of := fun _ _ e => ⟨_, He.frG_in, e⟩
  keeps := fun _ _ _ ⟨K, hK, c⟩ k => ⟨K, PySem.W.Frag.In.keeps hK k, c⟩
theorem obsPG_eq {n : Nat} {tb : List (Str × List He.Dv)} {fa : List He.Fa} {fn : List He.DefD} {g : Addr → Option Obj} {s : Shared} (h : ∀ a, g a = s.heap.get? a) : obsPG n tb fa fn g = (hookP n tb fa fn).obs s := by
  have e : g = s.heap.get? := funext h
  rw [e]
  rfl
section
variable {tb : List (Str × List He.Dv)} {fa : List He.Fa} {fn : List He.DefD} {K : PySem.W.Frag}
theorem SaysP.d (c : SaysP tb fa fn K) : He.SaysD fa fn K := by
  have c1 : ((tb.all fun t => He.tupB K t.1 t.2) && (He.obsD fa fn K).1) = true := congrArg (fun z : He.AlD => z.1) c
  have c2 : (He.obsD fa fn K).2 = fn.map He.DefD.val := congrArg (fun z : He.AlD => z.2) c
  exact Prod.ext (Bool.and_eq_true_iff.mp c1).2 c2
theorem SaysP.t (c : SaysP tb fa fn K) {t : Str × List He.Dv} (h : t ∈ tb) : He.tupB K t.1 t.2 = true := by
  have c1 : ((tb.all fun t => He.tupB K t.1 t.2) && (He.obsD fa fn K).1) = true := congrArg (fun z : He.AlD => z.1) c
  exact List.all_eq_true.mp (Bool.and_eq_true_iff.mp c1).1 t h
theorem SaysP.f (c : SaysP tb fa fn K) {f : He.Fa} (h : f ∈ fa) : f.ok K = true := by
  obtain ⟨i, hi, e⟩ := List.getElem_of_mem h
  exact c.d.fact i (by simp [hi, e])
theorem SaysP.n (c : SaysP tb fa fn K) {d : He.DefD} (h : d ∈ fn) : ∃ fd, FunD K d.name d.qual d.params d.body d.scope (d.dvs K) (d.kws K) (He.fAd K d.at_) fd := by
  obtain ⟨i, hi, e⟩ := List.getElem_of_mem h
  exact c.d.def_ i (by simp [hi, e])
end

/-! ### the ground -/
def LD.gd (L : LD) (K : PySem.W.Frag) : Gd := ⟨K, fun x => (L.tabL.lookup x).map fun _ => He.ga K x⟩
theorem look_mem {α : Type} : ∀ {l : List (Str × α)} {x : Str} {y : α}, l.lookup x = some y → (x, y) ∈ l
  | [], _, _, h => by cases h
  | (k, v) :: r, x, y, h => by
    rw [List.lookup_cons] at h
    split at h
    · rename_i e
      have e' : x = k := by simpa using e
      cases h
      rw [e']
      exact List.mem_cons_self
    · exact List.mem_cons_of_mem _ (look_mem h)
/-- the table is in order -/
structure LD.Ok (L : LD) : Prop where
  ok : ∀ x ∈ L.dl, x.Ok L.bn
  at_ : ∀ x ∈ L.dl, x.d.at_ = (x.d.name, none)
  fns : (L.gc.all fun c => match c.2 with | .fn => (L.tabL.lookup c.1).isSome | _ => true) = true
theorem strs_v {g : Gd} {m : List Addr} {H : Hp} {K : PySem.W.Frag} : ∀ vs : List Str, VRs g m H (vs.map PV.str) ((vs.map He.Dv.str).map (He.Dv.v K))
  | [] => rfl
  | _ :: vs => ⟨_, _, rfl, rfl, strs_v vs⟩
theorem ground {L : LD} (ok : L.Ok) {P : Program} {w : World} {K : PySem.W.Frag} {mg : Str → Option Value} {h base : Heap} (inK : K.In h) (G : h.Ns mainGlobals mg) (c : SaysP L.tbs L.fas L.fns K) :
    Gnd (L.gd K) P w mg base L.bn (fun f => L.tabL.lookup f) (fun f => L.glL.lookup f) where
  blt := fun x hx => He.free_ok inK G (c.f (List.mem_append_left _ (List.mem_append_right _ (List.mem_map.mpr ⟨x, by simpa using hx, rfl⟩))))
  gl := fun x u e => by
    obtain ⟨q, hq, e1⟩ := List.mem_map.mp (look_mem e)
    obtain ⟨y, z⟩ := q
    cases e1
    have hf : ∀ f ∈ z.fas y, He.Fa.ok K f = true := fun f hf => c.f (List.mem_append_right _ (List.mem_flatMap.mpr ⟨_, hq, hf⟩))
    cases z with
    | int i =>
      obtain ⟨t, e2⟩ := He.int_ok inK G (hf _ List.mem_cons_self)
      exact ⟨.int i, _, e2, ⟨t, rfl⟩, fun _ _ => rfl⟩
    | str s =>
      obtain ⟨t, e2⟩ := He.str_ok inK G (hf _ List.mem_cons_self)
      exact ⟨.str s, _, e2, ⟨t, rfl⟩, fun _ _ => rfl⟩
    | fn =>
      have hs : (L.tabL.lookup y).isSome = true := List.all_eq_true.mp ok.fns _ hq
      obtain ⟨fn, e3⟩ := Option.isSome_iff_exists.mp hs
      obtain ⟨x, hx, e4⟩ := List.mem_map.mp (look_mem e3)
      have e5 : x.d.name = y := congrArg Prod.fst e4
      have e2 := He.glo_ok inK G (c.f (f := .glo y) (List.mem_append_left _ (List.mem_append_left _ (List.mem_map.mpr ⟨x, hx, by rw [e5]⟩))))
      exact ⟨.ref (He.ga K y), _, e2, rfl, fun _ _ => ⟨He.ga K y, by show (L.tabL.lookup y).map _ = _; rw [show L.tabL.lookup y = some fn from e3]; rfl, rfl⟩⟩
    | txs vs =>
      have e2 := He.glo_ok inK G (hf _ List.mem_cons_self)
      have tb := c.t (List.mem_flatMap.mpr ⟨_, hq, List.mem_cons_self⟩)
      exact ⟨.ref (He.ga K y), _, e2, rfl, fun m H => ⟨He.ga K y, _, rfl, He.tupB_ok tb H, strs_v vs⟩⟩
  has := fun f fn e => ⟨He.ga K f, by show (L.tabL.lookup f).map _ = _; rw [e]; rfl⟩
  fn := fun f a e => by
    obtain ⟨fn, e1, rfl⟩ := Option.map_eq_some_iff.mp (show (L.tabL.lookup f).map (fun _ => He.ga K f) = some a from e)
    obtain ⟨x, hx, e2⟩ := List.mem_map.mp (look_mem e1)
    have n1 : x.d.name = f := congrArg Prod.fst e2
    have n2 : x.fn = fn := congrArg Prod.snd e2
    obtain ⟨fd, F⟩ := c.n (d := x.d) (List.mem_map.mpr ⟨x, hx, rfl⟩)
    have dv : x.d.dvs K = [] := by unfold He.DefD.dvs; rw [(ok.ok x hx).dfl]; rfl
    have ad : He.fAd K x.d.at_ = He.ga K f := by rw [ok.at_ x hx, n1]; rfl
    rw [dv, ad] at F
    exact ⟨x, fd, by rw [e1, n2], ok.ok x hx, F, He.glo_ok inK G (c.f (List.mem_append_left _ (List.mem_append_left _ (List.mem_map.mpr ⟨x, hx, by rw [n1]⟩))))⟩
end Pv

end
section
set_option Elab.async false
set_option maxRecDepth 100000
set_option maxHeartbeats 4000000
set_option autoImplicit false
set_option linter.all false
/-! K20i: the defs, printed. -/
namespace K20
open PySem Pv
def f_is_integer : Fn := ⟨1, 1, (.cons (.ret (.and (.isi (.var 0) "int") (.not (.isi (.var 0) "bool")))) .nil)⟩
def f_is_count : Fn := ⟨1, 1, (.cons (.ret (.and (.call "is_integer" (.cons (.var 0) .nil)) (.cmp .ge (.var 0) (.con (.int 0))))) .nil)⟩
def f_is_name : Fn := ⟨1, 2, (.cons (.ite (.or (.not (.isi (.var 0) "str")) (.or (.not (.cmp2 .le .le (.con (.int 1)) (.b1 .len (.var 0)) (.gl "MOST_SIGNS"))) (.cmp .notin (.ix (.var 0) (.con (.int 0))) (.gl "LETTERS")))) (.cons (.ret (.con (.bl false))) .nil) .nil) (.cons (.ret (.and (.b1 .all (.lc (.cmp .isin (.var 1) (.bin .add (.gl "LETTERS") (.gl "DIGITS"))) (.one 1) (.it (.var 0)) [1] .none)) (.cmp .notin (.var 0) (.gl "RESERVED")))) .nil))⟩
def f_is_told_name : Fn := ⟨1, 1, (.cons (.ret (.or (.call "is_name" (.cons (.var 0) .nil)) (.and (.isi (.var 0) "str") (.cmp .eq (.var 0) (.con (.str "result")))))) .nil)⟩
def f_is_own_name : Fn := ⟨1, 2, (.cons (.ite (.or (.not (.isi (.var 0) "str")) (.or (.cmp .lt (.b1 .len (.var 0)) (.con (.int 2))) (.cmp .notin (.ix (.var 0) (.neg (.con (.int 1)))) (.con (.str "ab"))))) (.cons (.ret (.con (.bl false))) .nil) .nil) (.cons (.ret (.and (.b1 .all (.lc (.cmp .isin (.var 1) (.gl "DIGITS")) (.one 1) (.it (.sl (.var 0) .none (.some (.neg (.con (.int 1)))))) [1] .none)) (.or (.cmp .ne (.ix (.var 0) (.con (.int 0))) (.con (.str "0"))) (.cmp .eq (.b1 .len (.var 0)) (.con (.int 2)))))) .nil))⟩
def f_is_cut_name : Fn := ⟨1, 1, (.cons (.ret (.or (.call "is_told_name" (.cons (.var 0) .nil)) (.call "is_own_name" (.cons (.var 0) .nil)))) .nil)⟩
def f_is_register : Fn := ⟨1, 1, (.cons (.ret (.and (.call "is_count" (.cons (.var 0) .nil)) (.cmp .lt (.var 0) (.gl "MOST_REGISTERS")))) .nil)⟩
def f_is_word : Fn := ⟨2, 2, (.cons (.ret (.and (.isi (.var 0) "str") (.cmp .isin (.var 0) (.var 1)))) .nil)⟩
def f_is_sized : Fn := ⟨2, 2, (.cons (.ret (.and (.isi (.var 0) "tuple") (.cmp .eq (.b1 .len (.var 0)) (.var 1)))) .nil)⟩
def f_is_tuple_of : Fn := ⟨2, 3, (.cons (.ret (.and (.isi (.var 0) "tuple") (.b1 .all (.lc (.callV (.var 1) (.cons (.var 2) .nil)) (.one 2) (.it (.var 0)) [2] .none)))) .nil)⟩
def f_is_key : Fn := ⟨1, 1, (.cons (.ret (.and (.call "is_sized" (.cons (.var 0) (.cons (.con (.int 2)) .nil))) (.and (.call "is_name" (.cons (.ix (.var 0) (.con (.int 0))) .nil)) (.call "is_name" (.cons (.ix (.var 0) (.con (.int 1))) .nil))))) .nil)⟩
def f_are_rising : Fn := ⟨1, 3, (.cons (.ret (.b1 .all (.lc (.cmp .lt (.var 1) (.var 2)) (.tup [1, 2]) (.zip (.var 0) (.sl (.var 0) (.some (.con (.int 1))) .none)) [1, 2] .none))) .nil)⟩
def f_is_names : Fn := ⟨1, 1, (.cons (.ret (.and (.call "is_tuple_of" (.cons (.var 0) (.cons (.gl "is_name") .nil))) (.call "are_rising" (.cons (.var 0) .nil)))) .nil)⟩
def f_is_names_list : Fn := ⟨1, 1, (.cons (.ret (.and (.call "is_tuple_of" (.cons (.var 0) (.cons (.gl "is_name") .nil))) (.cmp .eq (.lenset (.var 0)) (.b1 .len (.var 0))))) .nil)⟩
def f_is_params : Fn := ⟨1, 1, (.cons (.ret (.and (.call "is_names_list" (.cons (.var 0) .nil)) (.cmp2 .le .le (.gl "LEAST_PARAMS") (.b1 .len (.var 0)) (.gl "MOST_PARAMS")))) .nil)⟩
def f_is_args : Fn := ⟨1, 1, (.cons (.ret (.and (.call "is_tuple_of" (.cons (.var 0) (.cons (.gl "is_name") .nil))) (.cmp2 .le .le (.gl "LEAST_PARAMS") (.b1 .len (.var 0)) (.gl "MOST_PARAMS")))) .nil)⟩
def f_is_row : Fn := ⟨1, 1, (.cons (.ret (.call "is_tuple_of" (.cons (.var 0) (.cons (.gl "is_integer") .nil)))) .nil)⟩
def f_is_told : Fn := ⟨1, 1, (.cons (.ret (.and (.call "is_sized" (.cons (.var 0) (.cons (.con (.int 2)) .nil))) (.and (.call "is_cut_name" (.cons (.ix (.var 0) (.con (.int 0))) .nil)) (.call "is_count" (.cons (.ix (.var 0) (.con (.int 1))) .nil))))) .nil)⟩
def f_is_memory_form : Fn := ⟨1, 1, (.cons (.ret (.and (.call "is_sized" (.cons (.var 0) (.cons (.con (.int 2)) .nil))) (.and (.call "is_row" (.cons (.ix (.var 0) (.con (.int 0))) .nil)) (.call "is_tuple_of" (.cons (.ix (.var 0) (.con (.int 1))) (.cons (.gl "is_told") .nil)))))) .nil)⟩
def f_is_order : Fn := ⟨1, 1, (.cons (.ret (.and (.call "is_sized" (.cons (.var 0) (.cons (.con (.int 3)) .nil))) (.and (.call "is_word" (.cons (.ix (.var 0) (.con (.int 0))) (.cons (.gl "ORDERS") .nil))) (.and (.call "is_told_name" (.cons (.ix (.var 0) (.con (.int 1))) .nil)) (.call "is_told_name" (.cons (.ix (.var 0) (.con (.int 2))) .nil)))))) .nil)⟩
def f_is_stretch : Fn := ⟨1, 1, (.cons (.ret (.and (.call "is_tuple_of" (.cons (.var 0) (.cons (.gl "is_told_name") .nil))) (.cmp2 .le .le (.con (.int 1)) (.b1 .len (.var 0)) (.con (.int 2))))) .nil)⟩
def f_is_fact : Fn := ⟨1, 1, (.cons (.ite (.not (.call "is_sized" (.cons (.var 0) (.cons (.con (.int 3)) .nil)))) (.cons (.ret (.con (.bl false))) .nil) .nil) (.cons (.ite (.call "is_word" (.cons (.ix (.var 0) (.con (.int 0))) (.cons (.tup (.cons (.con (.str "atmost")) (.cons (.con (.str "below")) .nil))) .nil))) (.cons (.ret (.and (.call "is_stretch" (.cons (.ix (.var 0) (.con (.int 1))) .nil)) (.call "is_stretch" (.cons (.ix (.var 0) (.con (.int 2))) .nil)))) .nil) .nil) (.cons (.ret (.and (.call "is_word" (.cons (.ix (.var 0) (.con (.int 0))) (.cons (.tup (.cons (.con (.str "rising")) .nil)) .nil))) (.and (.call "is_told_name" (.cons (.ix (.var 0) (.con (.int 1))) .nil)) (.call "is_told_name" (.cons (.ix (.var 0) (.con (.int 2))) .nil))))) .nil)))⟩
def f_is_saying_form : Fn := ⟨1, 1, (.cons (.ret (.and (.call "is_sized" (.cons (.var 0) (.cons (.con (.int 2)) .nil))) (.and (.call "is_tuple_of" (.cons (.ix (.var 0) (.con (.int 0))) (.cons (.gl "is_order") .nil))) (.call "is_tuple_of" (.cons (.ix (.var 0) (.con (.int 1))) (.cons (.gl "is_fact") .nil)))))) .nil)⟩
def f_told_names_of : Fn := ⟨1, 5, (.cons (.asg 1 (.lst .nil)) (.cons (.fr (.tup [2, 3, 4]) (.it (.ix (.var 0) (.con (.int 0)))) (.cons (.exp (.ext (.var 1) (.lst (.cons (.var 3) (.cons (.var 4) .nil))))) .nil)) (.cons (.fr (.tup [2, 3, 4]) (.it (.ix (.var 0) (.con (.int 1)))) (.cons (.exp (.ext (.var 1) (.ite (.cmp .eq (.var 2) (.con (.str "rising"))) (.lst (.cons (.var 3) (.cons (.var 4) .nil))) (.lst (.star (.var 3) (.star (.var 4) .nil)))))) .nil)) (.cons (.ret (.b1 .tuple (.sortset (.var 1)))) .nil))))⟩
def f_is_plain_saying : Fn := ⟨1, 1, (.cons (.ret (.and (.call "is_saying_form" (.cons (.var 0) .nil)) (.cmp .notin (.con (.str "result")) (.call "told_names_of" (.cons (.var 0) .nil))))) .nil)⟩
def f_is_give : Fn := ⟨1, 1, (.cons (.ret (.and (.call "is_tuple_of" (.cons (.var 0) (.cons (.gl "is_name") .nil))) (.cmp .le (.b1 .len (.var 0)) (.con (.int 1))))) .nil)⟩
def f_is_gap : Fn := ⟨1, 1, (.cons (.ret (.and (.call "is_count" (.cons (.var 0) .nil)) (.cmp2 .le .le (.con (.int 1)) (.var 0) (.con (.int 3))))) .nil)⟩
def f_is_known : Fn := ⟨1, 1, (.cons (.ret (.and (.call "is_count" (.cons (.var 0) .nil)) (.cmp .le (.var 0) (.con (.int 2))))) .nil)⟩
def f_is_cut : Fn := ⟨1, 1, (.cons (.ret (.and (.call "is_tuple_of" (.cons (.var 0) (.cons (.gl "is_cut_name") .nil))) (.call "are_rising" (.cons (.var 0) .nil)))) .nil)⟩
def f_is_known_row : Fn := ⟨1, 1, (.cons (.ret (.call "is_tuple_of" (.cons (.var 0) (.cons (.gl "is_known") .nil)))) .nil)⟩
def f_is_world_form : Fn := ⟨1, 1, (.cons (.ite (.or (.not (.call "is_sized" (.cons (.var 0) (.cons (.con (.int 3)) .nil)))) (.or (.not (.call "is_tuple_of" (.cons (.ix (.var 0) (.con (.int 0))) (.cons (.gl "is_cut") .nil)))) (.not (.call "is_tuple_of" (.cons (.ix (.var 0) (.con (.int 1))) (.cons (.gl "is_gap") .nil)))))) (.cons (.ret (.con (.bl false))) .nil) .nil) (.cons (.ret (.call "is_tuple_of" (.cons (.ix (.var 0) (.con (.int 2))) (.cons (.gl "is_known_row") .nil)))) .nil))⟩
def f__law_bag : Fn := ⟨1, 2, (.cons (.ret (.lst (.cons (.con (.int 0)) (.cons (.con (.int 1234567891)) (.cons (.con (.int 0)) (.cons (.lc (.b1 .abs (.var 1)) (.one 1) (.it (.sl (.var 0) .none (.some (.con (.int 63))))) [1] .none) .nil)))))) .nil)⟩
def f__law_take : Fn := ⟨2, 7, (.cons (.ite (.cmp .eq (.ix (.var 0) (.con (.int 0))) (.con (.int 0))) (.cons (.asg 4 (.ix (.bin .add (.sl (.ix (.var 0) (.con (.int 3))) (.some (.ix (.var 0) (.con (.int 2)))) .none) (.lst (.cons (.con (.int 0)) .nil))) (.con (.int 0)))) (.cons (.augS (.var 0) (.con (.int 2)) .add (.con (.int 1))) (.cons (.ite (.cmp .ge (.var 4) (.bin .pow (.con (.int 10)) (.con (.int 18)))) (.cons (.sub (.var 0) (.con (.int 0)) (.var 4)) .nil) .nil) (.cons (.asg 5 (.bin .add (.bin .add (.bin .mul (.ix (.var 0) (.con (.int 1))) (.con (.int 48271))) (.bin .mod (.b1 .int (.var 4)) (.con (.int 2147483647)))) (.bin .mul (.con (.int 7919)) (.ix (.var 0) (.con (.int 2)))))) (.cons (.sub (.var 0) (.con (.int 1)) (.bin .mod (.b1 .int (.var 5)) (.con (.int 2147483647)))) .nil))))) .nil) (.cons (.ite (.cmp .gt (.ix (.var 0) (.con (.int 0))) (.con (.int 0))) (.cons (.asg 6 (.bin .mod (.b1 .int (.ix (.var 0) (.con (.int 0)))) (.var 1))) (.cons (.sub (.var 0) (.con (.int 0)) (.bin .fdiv (.b1 .int (.ix (.var 0) (.con (.int 0)))) (.var 1))) (.cons (.ret (.var 6)) .nil))) .nil) (.cons (.asg 2 (.bin .mod (.b1 .int (.bin .mul (.bin .add (.ix (.var 0) (.con (.int 1))) (.con (.int 1))) (.con (.int 39373)))) (.con (.int 1000000007)))) (.cons (.asg 3 (.bin .mod (.b1 .int (.bin .mul (.bin .mod (.b1 .int (.bin .mul (.var 2) (.var 2))) (.con (.int 998244353))) (.con (.int 30011)))) (.con (.int 998244353)))) (.cons (.ret (.bin .mod (.b1 .int (.bin .fdiv (.var 3) (.con (.int 7)))) (.var 1))) .nil)))))⟩
def f__law_some : Fn := ⟨2, 2, (.cons (.ret (.ix (.var 1) (.call "_law_take" (.cons (.var 0) (.cons (.b1 .len (.var 1)) .nil))))) .nil)⟩
def f__law_alike : Fn := ⟨2, 2, (.cons (.ret (.and (.cmp .eq (.b1 .repr (.var 0)) (.b1 .repr (.var 1))) (.cmp .eq (.var 0) (.var 1)))) .nil)⟩
def f__law_is_integer : Fn := ⟨1, 1, (.cons (.ret (.and (.isi (.var 0) "int") (.not (.isi (.var 0) "bool")))) .nil)⟩
def f__law_is_count : Fn := ⟨1, 1, (.cons (.ret (.and (.call "_law_is_integer" (.cons (.var 0) .nil)) (.cmp .ge (.var 0) (.con (.int 0))))) .nil)⟩
def f__law_is_register : Fn := ⟨1, 1, (.cons (.ret (.and (.call "_law_is_integer" (.cons (.var 0) .nil)) (.cmp2 .le .le (.con (.int 0)) (.var 0) (.con (.int 7))))) .nil)⟩
def f__law_is_name : Fn := ⟨1, 3, (.cons (.asg 1 (.tup (.cons (.con (.str "after")) (.cons (.con (.str "atmost")) (.cons (.con (.str "before")) (.cons (.con (.str "call")) (.cons (.con (.str "else")) (.cons (.con (.str "end")) (.cons (.con (.str "fun")) (.cons (.con (.str "give")) (.cons (.con (.str "if")) (.cons (.con (.str "is")) (.cons (.con (.str "keep")) (.cons (.con (.str "less")) (.cons (.con (.str "module")) (.cons (.con (.str "not")) (.cons (.con (.str "result")) (.cons (.con (.str "rising")) (.cons (.con (.str "swap")) (.cons (.con (.str "use")) (.cons (.con (.str "while")) .nil))))))))))))))))))))) (.cons (.ite (.or (.not (.isi (.var 0) "str")) (.or (.not (.cmp2 .le .le (.con (.int 1)) (.b1 .len (.var 0)) (.con (.int 8)))) (.or (.cmp .isin (.var 0) (.var 1)) (.not (.cmp2 .le .le (.con (.str "a")) (.ix (.var 0) (.con (.int 0))) (.con (.str "z"))))))) (.cons (.ret (.con (.bl false))) .nil) .nil) (.cons (.ret (.cmp .eq (.lc (.var 2) (.one 2) (.it (.var 0)) [2] (.some (.not (.or (.cmp2 .le .le (.con (.str "a")) (.var 2) (.con (.str "z"))) (.cmp2 .le .le (.con (.str "0")) (.var 2) (.con (.str "9"))))))) (.lst .nil))) .nil)))⟩
def f__law_is_told_name : Fn := ⟨1, 1, (.cons (.ret (.or (.and (.isi (.var 0) "str") (.cmp .eq (.var 0) (.con (.str "result")))) (.call "_law_is_name" (.cons (.var 0) .nil)))) .nil)⟩
def f__law_is_own_name : Fn := ⟨1, 3, (.cons (.ite (.or (.not (.isi (.var 0) "str")) (.or (.cmp .lt (.b1 .len (.var 0)) (.con (.int 2))) (.cmp .notin (.ix (.var 0) (.neg (.con (.int 1)))) (.con (.str "ab"))))) (.cons (.ret (.con (.bl false))) .nil) .nil) (.cons (.asg 1 (.sl (.var 0) .none (.some (.neg (.con (.int 1)))))) (.cons (.ret (.and (.cmp .eq (.lc (.var 2) (.one 2) (.it (.var 1)) [2] (.some (.cmp .notin (.var 2) (.con (.str "0123456789"))))) (.lst .nil)) (.or (.cmp .ne (.ix (.var 1) (.con (.int 0))) (.con (.str "0"))) (.cmp .eq (.var 1) (.con (.str "0")))))) .nil)))⟩
def f__law_is_cut_name : Fn := ⟨1, 1, (.cons (.ret (.or (.call "_law_is_told_name" (.cons (.var 0) .nil)) (.call "_law_is_own_name" (.cons (.var 0) .nil)))) .nil)⟩
def f__law_is_sized : Fn := ⟨2, 2, (.cons (.ret (.and (.isi (.var 0) "tuple") (.cmp .eq (.b1 .len (.var 0)) (.var 1)))) .nil)⟩
def f__law_are : Fn := ⟨3, 4, (.cons (.ret (.and (.isi (.var 0) "tuple") (.and (.cmp .ge (.b1 .len (.var 0)) (.var 2)) (.cmp .eq (.lc (.var 3) (.one 3) (.it (.var 0)) [3] (.some (.not (.call "_law_is_of" (.cons (.var 3) (.cons (.var 1) .nil)))))) (.lst .nil))))) .nil)⟩
def f__law_is_of : Fn := ⟨2, 4, (.cons (.asg 2 (.dct ["n", "N", "c", "r"] (.cons (.gl "_law_is_name") (.cons (.gl "_law_is_told_name") (.cons (.gl "_law_is_count") (.cons (.gl "_law_is_register") .nil)))))) (.cons (.ite (.cmp .isin (.var 1) (.var 2)) (.cons (.ret (.callV (.ix (.var 2) (.var 1)) (.cons (.var 0) .nil))) .nil) .nil) (.cons (.ite (.cmp .isin (.var 1) (.tup (.cons (.con (.str "n?")) (.cons (.con (.str "r?")) .nil)))) (.cons (.ret (.or (.cmp .isN (.var 0) (.con .non)) (.callV (.ix (.var 2) (.ix (.var 1) (.con (.int 0)))) (.cons (.var 0) .nil)))) .nil) .nil) (.cons (.ite (.cmp .eq (.var 1) (.con (.str "k"))) (.cons (.ret (.and (.call "_law_is_sized" (.cons (.var 0) (.cons (.con (.int 2)) .nil))) (.and (.call "_law_is_name" (.cons (.ix (.var 0) (.con (.int 0))) .nil)) (.call "_law_is_name" (.cons (.ix (.var 0) (.con (.int 1))) .nil))))) .nil) .nil) (.cons (.ite (.cmp .isin (.var 1) (.tup (.cons (.con (.str "args")) (.cons (.con (.str "regs")) .nil)))) (.cons (.ret (.and (.call "_law_are" (.cons (.var 0) (.cons (.ite (.cmp .eq (.var 1) (.con (.str "args"))) (.con (.str "n")) (.con (.str "r"))) (.cons (.con (.int 2)) .nil)))) (.cmp .le (.b1 .len (.var 0)) (.con (.int 6))))) .nil) .nil) (.cons (.ite (.cmp .eq (.var 1) (.con (.str "test"))) (.cons (.ret (.call "_law_is_worded" (.cons (.var 0) (.cons (.b1 .dict (.lc (.tup (.cons (.var 3) (.cons (.con (.str "n n")) .nil))) (.one 3) (.it (.tup (.cons (.con (.str "same")) (.cons (.con (.str "unlike")) (.cons (.con (.str "ahead")) (.cons (.con (.str "atmost")) (.cons (.con (.str "below")) .nil))))))) [3] .none)) .nil)))) .nil) .nil) (.cons (.ite (.cmp .eq (.var 1) (.con (.str "less"))) (.cons (.ret (.and (.call "_law_is_sized" (.cons (.var 0) (.cons (.con (.int 2)) .nil))) (.call "_law_are" (.cons (.var 0) (.cons (.con (.str "n")) (.cons (.con (.int 2)) .nil)))))) .nil) .nil) (.cons (.ite (.cmp .eq (.var 1) (.con (.str "body"))) (.cons (.ret (.call "_law_are" (.cons (.var 0) (.cons (.con (.str "statement")) (.cons (.con (.int 0)) .nil))))) .nil) .nil) (.cons (.ite (.cmp .isin (.var 1) (.tup (.cons (.con (.str "saying")) (.cons (.con (.str "plain")) .nil)))) (.cons (.ret (.and (.call "_law_is_saying" (.cons (.var 0) .nil)) (.or (.cmp .eq (.var 1) (.con (.str "saying"))) (.cmp .notin (.con (.str "result")) (.call "_law_spoken" (.cons (.var 0) .nil)))))) .nil) .nil) (.cons (.ite (.cmp .eq (.var 1) (.con (.str "lot"))) (.cons (.ret (.and (.call "_law_are" (.cons (.var 0) (.cons (.con (.str "N")) (.cons (.con (.int 1)) .nil)))) (.cmp .le (.b1 .len (.var 0)) (.con (.int 2))))) .nil) .nil) (.cons (.ret (.call "_law_is_worded" (.cons (.var 0) (.cons (.call "_law_words" (.cons (.var 1) .nil)) .nil)))) .nil)))))))))))⟩
def f__law_words : Fn := ⟨1, 2, (.cons (.ite (.cmp .eq (.var 0) (.con (.str "place"))) (.cons (.ret (.dct ["same", "ahead", "upto"] (.cons (.con (.str "N N")) (.cons (.con (.str "N N")) (.cons (.con (.str "N N")) .nil))))) .nil) .nil) (.cons (.ite (.cmp .eq (.var 0) (.con (.str "fact"))) (.cons (.ret (.dct ["rising", "atmost", "below"] (.cons (.con (.str "N N")) (.cons (.con (.str "lot lot")) (.cons (.con (.str "lot lot")) .nil))))) .nil) .nil) (.cons (.ite (.cmp .eq (.var 0) (.con (.str "statement"))) (.cons (.ret (.dct ["set", "next", "last", "swap", "call", "if", "while"] (.cons (.con (.str "n n")) (.cons (.con (.str "n n")) (.cons (.con (.str "n n")) (.cons (.con (.str "n n")) (.cons (.con (.str "n? n args")) (.cons (.con (.str "test body body")) (.cons (.con (.str "test plain less body")) .nil))))))))) .nil) .nil) (.cons (.ite (.cmp .eq (.var 0) (.con (.str "point"))) (.cons (.asg 1 (.dct ["set", "next", "last", "swap", "call", "keep", "go", "end"] (.cons (.con (.str "n n c")) (.cons (.con (.str "n n c")) (.cons (.con (.str "n n c")) (.cons (.con (.str "n n c")) (.cons (.con (.str "n? k args c")) (.cons (.con (.str "plain less c c")) (.cons (.con (.str "c")) (.cons (.con (.str "")) .nil)))))))))) (.cons (.ret (.var 1)) .nil)) .nil) (.cons (.asg 1 (.dct ["move", "step", "back", "swap", "same", "ahead", "atmost", "below"] (.cons (.con (.str "r r")) (.cons (.con (.str "r r")) (.cons (.con (.str "r r")) (.cons (.con (.str "r r")) (.cons (.con (.str "r r c")) (.cons (.con (.str "r r c")) (.cons (.con (.str "r r c")) (.cons (.con (.str "r r c")) .nil)))))))))) (.cons (.exp (.upd (.var 1) (.dct ["jump", "call", "ret"] (.cons (.con (.str "c")) (.cons (.con (.str "c regs r?")) (.cons (.con (.str "r?")) .nil)))))) (.cons (.ret (.var 1)) .nil)))))))⟩
def f__law_is_worded : Fn := ⟨2, 5, (.cons (.ite (.or (.not (.isi (.var 0) "tuple")) (.or (.cmp .eq (.var 0) (.tup .nil)) (.or (.not (.isi (.ix (.var 0) (.con (.int 0))) "str")) (.cmp .notin (.ix (.var 0) (.con (.int 0))) (.var 1))))) (.cons (.ret (.con (.bl false))) .nil) .nil) (.cons (.asg 2 (.split (.ix (.var 1) (.ix (.var 0) (.con (.int 0)))))) (.cons (.ret (.and (.cmp .eq (.b1 .len (.var 0)) (.bin .add (.b1 .len (.var 2)) (.con (.int 1)))) (.cmp .eq (.lc (.con (.int 1)) (.tup [3, 4]) (.zip (.sl (.var 0) (.some (.con (.int 1))) .none) (.var 2)) [3, 4] (.some (.not (.call "_law_is_of" (.cons (.var 3) (.cons (.var 4) .nil)))))) (.lst .nil)))) .nil)))⟩
def f__law_is_saying : Fn := ⟨1, 1, (.cons (.ret (.and (.call "_law_is_sized" (.cons (.var 0) (.cons (.con (.int 2)) .nil))) (.and (.call "_law_are" (.cons (.ix (.var 0) (.con (.int 0))) (.cons (.con (.str "place")) (.cons (.con (.int 0)) .nil)))) (.call "_law_are" (.cons (.ix (.var 0) (.con (.int 1))) (.cons (.con (.str "fact")) (.cons (.con (.int 0)) .nil))))))) .nil)⟩
def f__law_spoken : Fn := ⟨1, 5, (.cons (.asg 1 (.lst .nil)) (.cons (.fr (.tup [2, 3, 4]) (.it (.ix (.var 0) (.con (.int 0)))) (.cons (.exp (.ext (.var 1) (.lst (.cons (.var 3) (.cons (.var 4) .nil))))) .nil)) (.cons (.fr (.tup [2, 3, 4]) (.it (.ix (.var 0) (.con (.int 1)))) (.cons (.exp (.ext (.var 1) (.ite (.cmp .eq (.var 2) (.con (.str "rising"))) (.lst (.cons (.var 3) (.cons (.var 4) .nil))) (.bin .add (.b1 .list (.var 3)) (.b1 .list (.var 4)))))) .nil)) (.cons (.ret (.sortset (.var 1))) .nil))))⟩
def f__law_is_give : Fn := ⟨1, 1, (.cons (.ret (.and (.isi (.var 0) "tuple") (.or (.cmp .eq (.var 0) (.tup .nil)) (.and (.cmp .eq (.b1 .len (.var 0)) (.con (.int 1))) (.call "_law_is_name" (.cons (.ix (.var 0) (.con (.int 0))) .nil)))))) .nil)⟩
def f__law_odds : Fn := ⟨2, 5, (.cons (.asg 2 (.lst (.cons (.var 0) (.cons (.con .non) (.cons (.b1 .list (.var 0)) (.cons (.bin .add (.var 0) (.tup (.cons (.con (.int 0)) .nil))) (.cons (.sl (.var 0) .none (.some (.neg (.con (.int 1))))) (.cons (.sl (.var 0) (.some (.con (.int 1))) .none) .nil)))))))) (.cons (.fr (.one 3) (.rng (.b1 .len (.var 0))) (.cons (.exp (.ext (.var 2) (.lc (.bin .add (.bin .add (.sl (.var 0) .none (.some (.var 3))) (.tup (.cons (.var 4) .nil))) (.sl (.var 0) (.some (.bin .add (.var 3) (.con (.int 1)))) .none)) (.one 4) (.it (.var 1)) [4] .none))) .nil)) (.cons (.ret (.var 2)) .nil)))⟩
def f__law_rises_up : Fn := ⟨1, 3, (.cons (.ret (.cmp .eq (.lc (.con (.int 1)) (.tup [1, 2]) (.zip (.var 0) (.sl (.var 0) (.some (.con (.int 1))) .none)) [1, 2] (.some (.not (.cmp .lt (.var 1) (.var 2))))) (.lst .nil))) .nil)⟩
def f_law : Fn := ⟨1, 23, (.cons (.asg 1 (.call "_law_bag" (.cons (.var 0) .nil))) (.cons (.asg 2 (.lst (.cons (.con .non) (.cons (.con (.bl true)) (.cons (.con (.bl false)) (.cons (.con (.int 0)) (.cons (.con (.int 7)) (.cons (.con (.int 8)) (.cons (.neg (.con (.int 1))) (.cons (.bin .pow (.con (.int 10)) (.con (.int 12))) (.cons (.con (.str "x")) (.cons (.con (.str "result")) (.cons (.con (.str "rising")) (.cons (.con (.str "less")) (.cons (.con (.str "x9")) (.cons (.con (.str "9x")) (.cons (.con (.str "0a")) (.cons (.con (.str "12b")) (.cons (.con (.str "01a")) (.cons (.con (.str "a")) (.cons (.con (.str "X")) (.cons (.con (.str "")) (.cons (.con (.str "abcdefgh")) (.cons (.con (.str "abcdefghi")) (.cons (.con (.str "a b")) (.cons (.tup .nil) .nil)))))))))))))))))))))))))) (.cons (.asg 2 (.bin .add (.var 2) (.lst (.cons (.tup (.cons (.con (.str "x")) .nil)) (.cons (.lst (.cons (.con (.str "x")) .nil)) (.cons .dct0 (.cons (.tup (.cons (.con (.str "x")) (.cons (.con (.str "y")) .nil))) (.cons (.tup (.cons (.con (.str "y")) (.cons (.con (.str "x")) .nil))) (.cons (.tup (.cons (.con (.str "x")) (.cons (.con (.str "x")) .nil))) (.cons (.tup (.cons (.con (.str "x")) (.cons (.con .non) .nil))) .nil)))))))))) (.cons (.asg 2 (.bin .add (.var 2) (.lst (.cons (.tup (.cons (.con (.str "result")) (.cons (.con (.str "x")) .nil))) (.cons (.tup (.cons (.con (.int 1)) (.cons (.con (.int 2)) .nil))) (.cons (.tup (.cons (.con (.int 1)) (.cons (.con (.bl true)) .nil))) (.cons (.tup (.cons (.con (.str "a")) (.cons (.con (.str "b")) (.cons (.con (.str "c")) (.cons (.con (.str "d")) (.cons (.con (.str "e")) (.cons (.con (.str "f")) .nil))))))) (.cons (.tup (.cons (.con (.str "a")) (.cons (.con (.str "b")) (.cons (.con (.str "c")) (.cons (.con (.str "d")) (.cons (.con (.str "e")) (.cons (.con (.str "f")) (.cons (.con (.str "g")) .nil)))))))) (.cons (.tup (.cons (.neg (.con (.int 3))) (.cons (.con (.int 0)) (.cons (.con (.int 9)) .nil)))) (.cons (.lst (.cons (.con (.int 1)) .nil)) .nil)))))))))) (.cons (.fr (.one 3) (.it (.var 2)) (.cons (.asg 5 (.lst (.cons (.call "is_integer" (.cons (.var 3) .nil)) (.cons (.call "is_count" (.cons (.var 3) .nil)) (.cons (.call "is_register" (.cons (.var 3) .nil)) (.cons (.call "is_name" (.cons (.var 3) .nil)) (.cons (.call "is_told_name" (.cons (.var 3) .nil)) (.cons (.call "is_own_name" (.cons (.var 3) .nil)) (.cons (.call "is_cut_name" (.cons (.var 3) .nil)) (.cons (.call "is_key" (.cons (.var 3) .nil)) .nil)))))))))) (.cons (.asg 6 (.lst (.cons (.call "_law_is_integer" (.cons (.var 3) .nil)) (.cons (.call "_law_is_count" (.cons (.var 3) .nil)) (.cons (.call "_law_is_register" (.cons (.var 3) .nil)) (.cons (.call "_law_is_name" (.cons (.var 3) .nil)) (.cons (.call "_law_is_told_name" (.cons (.var 3) .nil)) (.cons (.call "_law_is_own_name" (.cons (.var 3) .nil)) .nil)))))))) (.cons (.asg 6 (.bin .add (.var 6) (.lst (.cons (.call "_law_is_cut_name" (.cons (.var 3) .nil)) (.cons (.call "_law_is_of" (.cons (.var 3) (.cons (.con (.str "k")) .nil))) .nil))))) (.cons (.ite (.not (.call "_law_alike" (.cons (.var 5) (.cons (.var 6) .nil)))) (.cons (.ret (.con (.bl false))) .nil) .nil) (.cons (.asg 7 (.call "_law_are" (.cons (.var 3) (.cons (.con (.str "n")) (.cons (.con (.int 0)) .nil))))) (.cons (.asg 8 (.and (.isi (.var 3) "tuple") (.cmp .eq (.b1 .len (.var 3)) (.b1 .len (.lc (.var 21) (.tup [21, 18]) (.enum (.var 3)) [21, 18] (.some (.cmp .notin (.var 18) (.sl (.var 3) .none (.some (.var 21)))))))))) (.cons (.asg 9 (.and (.isi (.var 3) "tuple") (.cmp .eq (.lc (.var 18) (.one 18) (.it (.var 3)) [18] (.some (.not (.call "_law_is_integer" (.cons (.var 18) .nil))))) (.lst .nil)))) (.cons (.asg 5 (.lst (.cons (.call "is_names_list" (.cons (.var 3) .nil)) (.cons (.call "is_names" (.cons (.var 3) .nil)) (.cons (.call "is_tuple_of" (.cons (.var 3) (.cons (.gl "is_name") .nil))) (.cons (.call "is_args" (.cons (.var 3) .nil)) (.cons (.call "is_params" (.cons (.var 3) .nil)) (.cons (.call "is_row" (.cons (.var 3) .nil)) (.cons (.call "is_give" (.cons (.var 3) .nil)) .nil))))))))) (.cons (.ite (.not (.call "_law_alike" (.cons (.var 5) (.cons (.lst (.cons (.and (.var 7) (.var 8)) (.cons (.and (.var 7) (.call "_law_rises_up" (.cons (.var 3) .nil))) (.cons (.var 7) (.cons (.call "_law_is_of" (.cons (.var 3) (.cons (.con (.str "args")) .nil))) (.cons (.and (.call "_law_is_of" (.cons (.var 3) (.cons (.con (.str "args")) .nil))) (.var 8)) (.cons (.var 9) (.cons (.call "_law_is_give" (.cons (.var 3) .nil)) .nil)))))))) .nil)))) (.cons (.ret (.con (.bl false))) .nil) .nil) .nil)))))))))) (.cons (.fr (.one 4) (.rng (.con (.int 4))) (.cons (.asg 7 (.lst (.cons (.con (.str "x")) (.cons (.con (.str "y")) (.cons (.con (.str "result")) .nil))))) (.cons (.asg 10 (.tup (.cons (.call "_law_some" (.cons (.var 1) (.cons (.lst (.cons (.con (.str "same")) (.cons (.con (.str "ahead")) (.cons (.con (.str "upto")) .nil)))) .nil))) (.cons (.call "_law_some" (.cons (.var 1) (.cons (.var 7) .nil))) (.cons (.call "_law_some" (.cons (.var 1) (.cons (.var 7) .nil))) .nil))))) (.cons (.asg 11 (.lst (.cons (.tup (.cons (.con (.str "x")) .nil)) (.cons (.tup (.cons (.con (.str "x")) (.cons (.con (.str "y")) .nil))) (.cons (.tup (.cons (.con (.str "result")) .nil)) (.cons (.tup (.cons (.con (.str "y")) (.cons (.con (.str "result")) .nil))) .nil)))))) (.cons (.asg 12 (.call "_law_some" (.cons (.var 1) (.cons (.lst (.cons (.tup (.cons (.con (.str "rising")) (.cons (.call "_law_some" (.cons (.var 1) (.cons (.var 7) .nil))) (.cons (.con (.str "y")) .nil)))) (.cons (.tup (.cons (.call "_law_some" (.cons (.var 1) (.cons (.lst (.cons (.con (.str "atmost")) (.cons (.con (.str "below")) .nil))) .nil))) (.cons (.call "_law_some" (.cons (.var 1) (.cons (.var 11) .nil))) (.cons (.call "_law_some" (.cons (.var 1) (.cons (.var 11) .nil))) .nil)))) .nil))) .nil)))) (.cons (.asg 13 (.call "_law_some" (.cons (.var 1) (.cons (.lst (.cons (.tup (.cons (.tup (.cons (.var 10) .nil)) (.cons (.tup (.cons (.var 12) .nil)) .nil))) (.cons (.tup (.cons (.tup .nil) (.cons (.tup (.cons (.var 12) (.cons (.var 12) .nil))) .nil))) (.cons (.tup (.cons (.tup (.cons (.var 10) (.cons (.var 10) .nil))) (.cons (.tup .nil) .nil))) (.cons (.tup (.cons (.tup .nil) (.cons (.tup .nil) .nil))) .nil))))) .nil)))) (.cons (.asg 14 (.lst (.cons (.con (.int 0)) (.cons (.tup .nil) (.cons (.tup (.cons (.var 10) .nil)) (.cons (.tup (.cons (.var 12) .nil)) (.cons (.tup (.cons (.tup (.cons (.ix (.var 10) (.con (.int 0))) (.cons (.con (.str "x")) (.cons (.con .non) .nil)))) .nil)) (.cons (.tup (.cons (.tup (.cons (.con (.str "rising")) (.cons (.con (.str "x")) .nil))) .nil)) (.cons (.tup (.cons (.tup (.cons (.con (.str "below")) (.cons (.tup (.cons (.con (.str "x")) .nil)) (.cons (.tup .nil) .nil)))) .nil)) (.cons (.tup (.cons (.tup (.cons (.con (.str "below")) (.cons (.tup (.cons (.con (.str "x")) (.cons (.con (.str "y")) (.cons (.con (.str "x")) .nil)))) (.cons (.tup (.cons (.con (.str "x")) .nil)) .nil)))) .nil)) .nil)))))))))) (.cons (.asg 14 (.bin .add (.var 14) (.lst (.cons (.tup (.cons (.tup (.cons (.con (.str "same")) (.cons (.con (.str "x")) (.cons (.con (.str "less")) .nil)))) .nil)) (.cons (.lst (.cons (.var 10) .nil)) (.cons (.tup (.cons (.tup (.cons (.con (.str "upto")) (.cons (.lst (.cons (.con (.str "x")) .nil)) (.cons (.con (.str "y")) .nil)))) .nil)) .nil)))))) (.cons (.fr (.one 3) (.it (.call "_law_odds" (.cons (.var 13) (.cons (.var 14) .nil)))) (.cons (.asg 17 (.call "_law_is_saying" (.cons (.var 3) .nil))) (.cons (.ite (.not (.call "_law_alike" (.cons (.lst (.cons (.call "is_saying_form" (.cons (.var 3) .nil)) (.cons (.call "is_plain_saying" (.cons (.var 3) .nil)) .nil))) (.cons (.lst (.cons (.var 17) (.cons (.and (.var 17) (.cmp .notin (.con (.str "result")) (.call "_law_spoken" (.cons (.var 3) .nil)))) .nil))) .nil)))) (.cons (.ret (.con (.bl false))) .nil) .nil) .nil))) (.cons (.ite (.cmp .ne (.call "told_names_of" (.cons (.var 13) .nil)) (.b1 .tuple (.call "_law_spoken" (.cons (.var 13) .nil)))) (.cons (.ret (.con (.bl false))) .nil) .nil) (.cons (.asg 15 (.tup (.cons (.sl (.tup (.cons (.con (.int 3)) (.cons (.neg (.con (.int 1))) (.cons (.con (.int 3)) .nil)))) .none (.some (.call "_law_take" (.cons (.var 1) (.cons (.con (.int 4)) .nil))))) (.cons (.sl (.tup (.cons (.tup (.cons (.con (.str "a")) (.cons (.con (.int 1)) .nil))) (.cons (.tup (.cons (.con (.str "result")) (.cons (.con (.int 0)) .nil))) (.cons (.tup (.cons (.con (.str "0a")) (.cons (.con (.int 2)) .nil))) .nil)))) .none (.some (.call "_law_take" (.cons (.var 1) (.cons (.con (.int 4)) .nil))))) .nil)))) (.cons (.fr (.one 3) (.it (.call "_law_odds" (.cons (.var 15) (.cons (.lst (.cons (.con (.int 0)) (.cons (.tup .nil) (.cons (.tup (.cons (.con (.int 1)) .nil)) (.cons (.tup (.cons (.con (.bl true)) .nil)) (.cons (.tup (.cons (.tup (.cons (.con (.str "x")) (.cons (.con (.int 1)) .nil))) .nil)) (.cons (.tup (.cons (.tup (.cons (.con (.str "x")) (.cons (.neg (.con (.int 1))) .nil))) .nil)) (.cons (.tup (.cons (.tup (.cons (.con (.str "01a")) (.cons (.con (.int 1)) .nil))) .nil)) (.cons (.tup (.cons (.tup (.cons (.con (.str "x")) (.cons (.con (.bl true)) .nil))) .nil)) (.cons (.tup (.cons (.tup (.cons (.con (.str "less")) (.cons (.con (.int 1)) .nil))) .nil)) (.cons (.lst (.cons (.con (.int 1)) .nil)) .nil))))))))))) .nil)))) (.cons (.asg 6 (.and (.call "_law_is_sized" (.cons (.var 3) (.cons (.con (.int 2)) .nil))) (.and (.isi (.ix (.var 3) (.con (.int 0))) "tuple") (.and (.cmp .eq (.lc (.var 18) (.one 18) (.it (.ix (.var 3) (.con (.int 0)))) [18] (.some (.not (.call "_law_is_integer" (.cons (.var 18) .nil))))) (.lst .nil)) (.isi (.ix (.var 3) (.con (.int 1))) "tuple"))))) (.cons (.asg 6 (.and (.var 6) (.cmp .eq (.lc (.var 9) (.one 9) (.it (.ix (.var 3) (.con (.int 1)))) [9] (.some (.not (.and (.call "_law_is_sized" (.cons (.var 9) (.cons (.con (.int 2)) .nil))) (.and (.call "_law_is_cut_name" (.cons (.ix (.var 9) (.con (.int 0))) .nil)) (.call "_law_is_count" (.cons (.ix (.var 9) (.con (.int 1))) .nil))))))) (.lst .nil)))) (.cons (.ite (.cmp .ne (.call "is_memory_form" (.cons (.var 3) .nil)) (.var 6)) (.cons (.ret (.con (.bl false))) .nil) .nil) .nil)))) (.cons (.asg 16 (.tup (.cons (.tup (.cons (.tup (.cons (.con (.str "a")) .nil)) (.cons (.tup (.cons (.con (.str "0a")) (.cons (.con (.str "b")) .nil))) .nil))) (.cons (.tup (.cons (.con (.int 1)) (.cons (.call "_law_take" (.cons (.var 1) (.cons (.con (.int 5)) .nil))) .nil))) (.cons (.tup (.cons (.tup (.cons (.con (.int 0)) (.cons (.con (.int 1)) .nil))) (.cons (.tup (.cons (.con (.int 2)) (.cons (.call "_law_take" (.cons (.var 1) (.cons (.con (.int 4)) .nil))) .nil))) .nil))) .nil))))) (.cons (.fr (.one 3) (.it (.call "_law_odds" (.cons (.var 16) (.cons (.lst (.cons (.con (.int 0)) (.cons (.tup .nil) (.cons (.tup (.cons (.tup (.cons (.con (.str "b")) (.cons (.con (.str "a")) .nil))) .nil)) (.cons (.tup (.cons (.tup (.cons (.con (.str "a")) (.cons (.con (.str "a")) .nil))) .nil)) (.cons (.tup (.cons (.con (.int 3)) .nil)) (.cons (.tup (.cons (.con (.bl true)) .nil)) (.cons (.tup (.cons (.tup (.cons (.con (.int 0)) (.cons (.con (.int 3)) .nil))) .nil)) (.cons (.tup (.cons (.con (.int 0)) .nil)) (.cons (.lst (.cons (.tup .nil) .nil)) .nil)))))))))) .nil)))) (.cons (.asg 6 (.and (.call "_law_is_sized" (.cons (.var 3) (.cons (.con (.int 3)) .nil))) (.cmp .eq (.lc (.var 19) (.one 19) (.it (.var 3)) [19] (.some (.not (.isi (.var 19) "tuple")))) (.lst .nil)))) (.cons (.ite (.var 6) (.cons (.asg 6 (.cmp .eq (.lc (.var 20) (.one 20) (.it (.ix (.var 3) (.con (.int 0)))) [20] (.some (.not (.and (.isi (.var 20) "tuple") (.and (.cmp .eq (.lc (.var 18) (.one 18) (.it (.var 20)) [18] (.some (.not (.call "_law_is_cut_name" (.cons (.var 18) .nil))))) (.lst .nil)) (.call "_law_rises_up" (.cons (.var 20) .nil))))))) (.lst .nil))) (.cons (.asg 6 (.and (.var 6) (.cmp .eq (.lc (.var 22) (.one 22) (.it (.ix (.var 3) (.con (.int 1)))) [22] (.some (.not (.and (.call "_law_is_integer" (.cons (.var 22) .nil)) (.cmp2 .le .le (.con (.int 1)) (.var 22) (.con (.int 3))))))) (.lst .nil)))) (.cons (.asg 6 (.and (.var 6) (.cmp .eq (.lc (.var 9) (.one 9) (.it (.ix (.var 3) (.con (.int 2)))) [9] (.some (.not (.and (.isi (.var 9) "tuple") (.cmp .eq (.lc (.var 18) (.one 18) (.it (.var 9)) [18] (.some (.not (.and (.call "_law_is_integer" (.cons (.var 18) .nil)) (.cmp2 .le .le (.con (.int 0)) (.var 18) (.con (.int 2))))))) (.lst .nil)))))) (.lst .nil)))) .nil))) .nil) (.cons (.ite (.cmp .ne (.call "is_world_form" (.cons (.var 3) .nil)) (.var 6)) (.cons (.ret (.con (.bl false))) .nil) .nil) .nil)))) .nil)))))))))))))) (.cons (.ret (.con (.bl true))) .nil)))))))⟩
def tabL : List (Str × Fn) := [(("is_integer" : Str), f_is_integer),
  (("is_count" : Str), f_is_count),
  (("is_name" : Str), f_is_name),
  (("is_told_name" : Str), f_is_told_name),
  (("is_own_name" : Str), f_is_own_name),
  (("is_cut_name" : Str), f_is_cut_name),
  (("is_register" : Str), f_is_register),
  (("is_word" : Str), f_is_word),
  (("is_sized" : Str), f_is_sized),
  (("is_tuple_of" : Str), f_is_tuple_of),
  (("is_key" : Str), f_is_key),
  (("are_rising" : Str), f_are_rising),
  (("is_names" : Str), f_is_names),
  (("is_names_list" : Str), f_is_names_list),
  (("is_params" : Str), f_is_params),
  (("is_args" : Str), f_is_args),
  (("is_row" : Str), f_is_row),
  (("is_told" : Str), f_is_told),
  (("is_memory_form" : Str), f_is_memory_form),
  (("is_order" : Str), f_is_order),
  (("is_stretch" : Str), f_is_stretch),
  (("is_fact" : Str), f_is_fact),
  (("is_saying_form" : Str), f_is_saying_form),
  (("told_names_of" : Str), f_told_names_of),
  (("is_plain_saying" : Str), f_is_plain_saying),
  (("is_give" : Str), f_is_give),
  (("is_gap" : Str), f_is_gap),
  (("is_known" : Str), f_is_known),
  (("is_cut" : Str), f_is_cut),
  (("is_known_row" : Str), f_is_known_row),
  (("is_world_form" : Str), f_is_world_form),
  (("_law_bag" : Str), f__law_bag),
  (("_law_take" : Str), f__law_take),
  (("_law_some" : Str), f__law_some),
  (("_law_alike" : Str), f__law_alike),
  (("_law_is_integer" : Str), f__law_is_integer),
  (("_law_is_count" : Str), f__law_is_count),
  (("_law_is_register" : Str), f__law_is_register),
  (("_law_is_name" : Str), f__law_is_name),
  (("_law_is_told_name" : Str), f__law_is_told_name),
  (("_law_is_own_name" : Str), f__law_is_own_name),
  (("_law_is_cut_name" : Str), f__law_is_cut_name),
  (("_law_is_sized" : Str), f__law_is_sized),
  (("_law_are" : Str), f__law_are),
  (("_law_is_of" : Str), f__law_is_of),
  (("_law_words" : Str), f__law_words),
  (("_law_is_worded" : Str), f__law_is_worded),
  (("_law_is_saying" : Str), f__law_is_saying),
  (("_law_spoken" : Str), f__law_spoken),
  (("_law_is_give" : Str), f__law_is_give),
  (("_law_odds" : Str), f__law_odds),
  (("_law_rises_up" : Str), f__law_rises_up),
  (("law" : Str), f_law)]
def glL : List (Str × PV) := [(("DIGITS" : Str), .str "0123456789"),
  (("LEAST_PARAMS" : Str), .int 2),
  (("LETTERS" : Str), .str "abcdefghijklmnopqrstuvwxyz"),
  (("MOST_PARAMS" : Str), .int 6),
  (("MOST_REGISTERS" : Str), .int 8),
  (("MOST_SIGNS" : Str), .int 8),
  (("ORDERS" : Str), .tup (List.map PV.str ["same", "ahead", "upto"])),
  (("RESERVED" : Str), .tup (List.map PV.str ["after", "atmost", "before", "call", "else", "end", "fun", "give", "if", "is", "keep", "less", "module", "not", "result", "rising", "swap", "use", "while"])),
  (("_law_is_count" : Str), .fn "_law_is_count"),
  (("_law_is_name" : Str), .fn "_law_is_name"),
  (("_law_is_register" : Str), .fn "_law_is_register"),
  (("_law_is_told_name" : Str), .fn "_law_is_told_name"),
  (("is_cut" : Str), .fn "is_cut"),
  (("is_cut_name" : Str), .fn "is_cut_name"),
  (("is_fact" : Str), .fn "is_fact"),
  (("is_gap" : Str), .fn "is_gap"),
  (("is_integer" : Str), .fn "is_integer"),
  (("is_known" : Str), .fn "is_known"),
  (("is_known_row" : Str), .fn "is_known_row"),
  (("is_name" : Str), .fn "is_name"),
  (("is_order" : Str), .fn "is_order"),
  (("is_told" : Str), .fn "is_told"),
  (("is_told_name" : Str), .fn "is_told_name")]
def tab (f : Str) : Option Fn := tabL.lookup f
def gl (x : Str) : Option PV := glL.lookup x
end K20

end
section
set_option Elab.async false
set_option maxRecDepth 100000
set_option maxHeartbeats 4000000
set_option autoImplicit false
set_option linter.all false
/-! K20a: the defs are the text's; what the head sees. -/
namespace K20
open PySem PySem.Spec PyProof.Rows L2 Pv
def top (i : Nat) : Stmt := PySem.Challenge.pw_rowsort_k20_forms_of_any_value.main.body.getD i (.Pass ⟨0, 0, 0, 0⟩)
def bn : List Str := ["abs", "all", "bool", "dict", "enumerate", "int", "isinstance", "len", "list", "range", "repr", "set", "sorted", "str", "tuple", "zip"]
def mk (i : Nat) (n : Str) (ps N : List Str) (fn : Fn) : DI := ⟨⟨(n, none), n, n, defArgs (top i), defBody (top i), defScope (top i), [], []⟩, ps, N, fn⟩
def d_9 : DI := mk 9 "is_integer" ["thing"] ["thing"] f_is_integer
theorem o_9 : d_9.Ok bn := ⟨⟨rfl, rfl, rfl, by decide +kernel, by decide +kernel, by decide +kernel, by decide +kernel⟩, rfl, rfl, by decide +kernel, fun _ _ _ _ _ _ us hl => match us, hl with | [_], _ => rfl, rfl⟩
def d_10 : DI := mk 10 "is_count" ["thing"] ["thing"] f_is_count
theorem o_10 : d_10.Ok bn := ⟨⟨rfl, rfl, rfl, by decide +kernel, by decide +kernel, by decide +kernel, by decide +kernel⟩, rfl, rfl, by decide +kernel, fun _ _ _ _ _ _ us hl => match us, hl with | [_], _ => rfl, rfl⟩
def d_11 : DI := mk 11 "is_name" ["thing"] ["thing", "sign"] f_is_name
theorem o_11 : d_11.Ok bn := ⟨⟨rfl, rfl, rfl, by decide +kernel, by decide +kernel, by decide +kernel, by decide +kernel⟩, rfl, rfl, by decide +kernel, fun _ _ _ _ _ _ us hl => match us, hl with | [_], _ => rfl, rfl⟩
def d_12 : DI := mk 12 "is_told_name" ["thing"] ["thing"] f_is_told_name
theorem o_12 : d_12.Ok bn := ⟨⟨rfl, rfl, rfl, by decide +kernel, by decide +kernel, by decide +kernel, by decide +kernel⟩, rfl, rfl, by decide +kernel, fun _ _ _ _ _ _ us hl => match us, hl with | [_], _ => rfl, rfl⟩
def d_13 : DI := mk 13 "is_own_name" ["thing"] ["thing", "sign"] f_is_own_name
theorem o_13 : d_13.Ok bn := ⟨⟨rfl, rfl, rfl, by decide +kernel, by decide +kernel, by decide +kernel, by decide +kernel⟩, rfl, rfl, by decide +kernel, fun _ _ _ _ _ _ us hl => match us, hl with | [_], _ => rfl, rfl⟩
def d_14 : DI := mk 14 "is_cut_name" ["thing"] ["thing"] f_is_cut_name
theorem o_14 : d_14.Ok bn := ⟨⟨rfl, rfl, rfl, by decide +kernel, by decide +kernel, by decide +kernel, by decide +kernel⟩, rfl, rfl, by decide +kernel, fun _ _ _ _ _ _ us hl => match us, hl with | [_], _ => rfl, rfl⟩
def d_15 : DI := mk 15 "is_register" ["thing"] ["thing"] f_is_register
theorem o_15 : d_15.Ok bn := ⟨⟨rfl, rfl, rfl, by decide +kernel, by decide +kernel, by decide +kernel, by decide +kernel⟩, rfl, rfl, by decide +kernel, fun _ _ _ _ _ _ us hl => match us, hl with | [_], _ => rfl, rfl⟩
def d_16 : DI := mk 16 "is_word" ["thing", "words"] ["thing", "words"] f_is_word
theorem o_16 : d_16.Ok bn := ⟨⟨rfl, rfl, rfl, by decide +kernel, by decide +kernel, by decide +kernel, by decide +kernel⟩, rfl, rfl, by decide +kernel, fun _ _ _ _ _ _ us hl => match us, hl with | [_, _], _ => rfl, rfl⟩
def d_17 : DI := mk 17 "is_sized" ["thing", "many"] ["thing", "many"] f_is_sized
theorem o_17 : d_17.Ok bn := ⟨⟨rfl, rfl, rfl, by decide +kernel, by decide +kernel, by decide +kernel, by decide +kernel⟩, rfl, rfl, by decide +kernel, fun _ _ _ _ _ _ us hl => match us, hl with | [_, _], _ => rfl, rfl⟩
def d_18 : DI := mk 18 "is_tuple_of" ["thing", "is_item"] ["thing", "is_item", "item"] f_is_tuple_of
theorem o_18 : d_18.Ok bn := ⟨⟨rfl, rfl, rfl, by decide +kernel, by decide +kernel, by decide +kernel, by decide +kernel⟩, rfl, rfl, by decide +kernel, fun _ _ _ _ _ _ us hl => match us, hl with | [_, _], _ => rfl, rfl⟩
def d_19 : DI := mk 19 "is_key" ["thing"] ["thing"] f_is_key
theorem o_19 : d_19.Ok bn := ⟨⟨rfl, rfl, rfl, by decide +kernel, by decide +kernel, by decide +kernel, by decide +kernel⟩, rfl, rfl, by decide +kernel, fun _ _ _ _ _ _ us hl => match us, hl with | [_], _ => rfl, rfl⟩
def d_20 : DI := mk 20 "are_rising" ["things"] ["things", "one", "other"] f_are_rising
theorem o_20 : d_20.Ok bn := ⟨⟨rfl, rfl, rfl, by decide +kernel, by decide +kernel, by decide +kernel, by decide +kernel⟩, rfl, rfl, by decide +kernel, fun _ _ _ _ _ _ us hl => match us, hl with | [_], _ => rfl, rfl⟩
def d_21 : DI := mk 21 "is_names" ["thing"] ["thing"] f_is_names
theorem o_21 : d_21.Ok bn := ⟨⟨rfl, rfl, rfl, by decide +kernel, by decide +kernel, by decide +kernel, by decide +kernel⟩, rfl, rfl, by decide +kernel, fun _ _ _ _ _ _ us hl => match us, hl with | [_], _ => rfl, rfl⟩
def d_22 : DI := mk 22 "is_names_list" ["thing"] ["thing"] f_is_names_list
theorem o_22 : d_22.Ok bn := ⟨⟨rfl, rfl, rfl, by decide +kernel, by decide +kernel, by decide +kernel, by decide +kernel⟩, rfl, rfl, by decide +kernel, fun _ _ _ _ _ _ us hl => match us, hl with | [_], _ => rfl, rfl⟩
def d_23 : DI := mk 23 "is_params" ["thing"] ["thing"] f_is_params
theorem o_23 : d_23.Ok bn := ⟨⟨rfl, rfl, rfl, by decide +kernel, by decide +kernel, by decide +kernel, by decide +kernel⟩, rfl, rfl, by decide +kernel, fun _ _ _ _ _ _ us hl => match us, hl with | [_], _ => rfl, rfl⟩
def d_24 : DI := mk 24 "is_args" ["thing"] ["thing"] f_is_args
theorem o_24 : d_24.Ok bn := ⟨⟨rfl, rfl, rfl, by decide +kernel, by decide +kernel, by decide +kernel, by decide +kernel⟩, rfl, rfl, by decide +kernel, fun _ _ _ _ _ _ us hl => match us, hl with | [_], _ => rfl, rfl⟩
def d_25 : DI := mk 25 "is_row" ["thing"] ["thing"] f_is_row
theorem o_25 : d_25.Ok bn := ⟨⟨rfl, rfl, rfl, by decide +kernel, by decide +kernel, by decide +kernel, by decide +kernel⟩, rfl, rfl, by decide +kernel, fun _ _ _ _ _ _ us hl => match us, hl with | [_], _ => rfl, rfl⟩
def d_26 : DI := mk 26 "is_told" ["thing"] ["thing"] f_is_told
theorem o_26 : d_26.Ok bn := ⟨⟨rfl, rfl, rfl, by decide +kernel, by decide +kernel, by decide +kernel, by decide +kernel⟩, rfl, rfl, by decide +kernel, fun _ _ _ _ _ _ us hl => match us, hl with | [_], _ => rfl, rfl⟩
def d_27 : DI := mk 27 "is_memory_form" ["thing"] ["thing"] f_is_memory_form
theorem o_27 : d_27.Ok bn := ⟨⟨rfl, rfl, rfl, by decide +kernel, by decide +kernel, by decide +kernel, by decide +kernel⟩, rfl, rfl, by decide +kernel, fun _ _ _ _ _ _ us hl => match us, hl with | [_], _ => rfl, rfl⟩
def d_28 : DI := mk 28 "is_order" ["thing"] ["thing"] f_is_order
theorem o_28 : d_28.Ok bn := ⟨⟨rfl, rfl, rfl, by decide +kernel, by decide +kernel, by decide +kernel, by decide +kernel⟩, rfl, rfl, by decide +kernel, fun _ _ _ _ _ _ us hl => match us, hl with | [_], _ => rfl, rfl⟩
def d_29 : DI := mk 29 "is_stretch" ["thing"] ["thing"] f_is_stretch
theorem o_29 : d_29.Ok bn := ⟨⟨rfl, rfl, rfl, by decide +kernel, by decide +kernel, by decide +kernel, by decide +kernel⟩, rfl, rfl, by decide +kernel, fun _ _ _ _ _ _ us hl => match us, hl with | [_], _ => rfl, rfl⟩
def d_30 : DI := mk 30 "is_fact" ["thing"] ["thing"] f_is_fact
theorem o_30 : d_30.Ok bn := ⟨⟨rfl, rfl, rfl, by decide +kernel, by decide +kernel, by decide +kernel, by decide +kernel⟩, rfl, rfl, by decide +kernel, fun _ _ _ _ _ _ us hl => match us, hl with | [_], _ => rfl, rfl⟩
def d_31 : DI := mk 31 "is_saying_form" ["thing"] ["thing"] f_is_saying_form
theorem o_31 : d_31.Ok bn := ⟨⟨rfl, rfl, rfl, by decide +kernel, by decide +kernel, by decide +kernel, by decide +kernel⟩, rfl, rfl, by decide +kernel, fun _ _ _ _ _ _ us hl => match us, hl with | [_], _ => rfl, rfl⟩
def d_32 : DI := mk 32 "told_names_of" ["saying"] ["saying", "found", "word", "one", "other"] f_told_names_of
theorem o_32 : d_32.Ok bn := ⟨⟨rfl, rfl, rfl, by decide +kernel, by decide +kernel, by decide +kernel, by decide +kernel⟩, rfl, rfl, by decide +kernel, fun _ _ _ _ _ _ us hl => match us, hl with | [_], _ => rfl, rfl⟩
def d_33 : DI := mk 33 "is_plain_saying" ["thing"] ["thing"] f_is_plain_saying
theorem o_33 : d_33.Ok bn := ⟨⟨rfl, rfl, rfl, by decide +kernel, by decide +kernel, by decide +kernel, by decide +kernel⟩, rfl, rfl, by decide +kernel, fun _ _ _ _ _ _ us hl => match us, hl with | [_], _ => rfl, rfl⟩
def d_34 : DI := mk 34 "is_give" ["thing"] ["thing"] f_is_give
theorem o_34 : d_34.Ok bn := ⟨⟨rfl, rfl, rfl, by decide +kernel, by decide +kernel, by decide +kernel, by decide +kernel⟩, rfl, rfl, by decide +kernel, fun _ _ _ _ _ _ us hl => match us, hl with | [_], _ => rfl, rfl⟩
def d_35 : DI := mk 35 "is_gap" ["thing"] ["thing"] f_is_gap
theorem o_35 : d_35.Ok bn := ⟨⟨rfl, rfl, rfl, by decide +kernel, by decide +kernel, by decide +kernel, by decide +kernel⟩, rfl, rfl, by decide +kernel, fun _ _ _ _ _ _ us hl => match us, hl with | [_], _ => rfl, rfl⟩
def d_36 : DI := mk 36 "is_known" ["thing"] ["thing"] f_is_known
theorem o_36 : d_36.Ok bn := ⟨⟨rfl, rfl, rfl, by decide +kernel, by decide +kernel, by decide +kernel, by decide +kernel⟩, rfl, rfl, by decide +kernel, fun _ _ _ _ _ _ us hl => match us, hl with | [_], _ => rfl, rfl⟩
def d_37 : DI := mk 37 "is_cut" ["thing"] ["thing"] f_is_cut
theorem o_37 : d_37.Ok bn := ⟨⟨rfl, rfl, rfl, by decide +kernel, by decide +kernel, by decide +kernel, by decide +kernel⟩, rfl, rfl, by decide +kernel, fun _ _ _ _ _ _ us hl => match us, hl with | [_], _ => rfl, rfl⟩
def d_38 : DI := mk 38 "is_known_row" ["thing"] ["thing"] f_is_known_row
theorem o_38 : d_38.Ok bn := ⟨⟨rfl, rfl, rfl, by decide +kernel, by decide +kernel, by decide +kernel, by decide +kernel⟩, rfl, rfl, by decide +kernel, fun _ _ _ _ _ _ us hl => match us, hl with | [_], _ => rfl, rfl⟩
def d_39 : DI := mk 39 "is_world_form" ["thing"] ["thing"] f_is_world_form
theorem o_39 : d_39.Ok bn := ⟨⟨rfl, rfl, rfl, by decide +kernel, by decide +kernel, by decide +kernel, by decide +kernel⟩, rfl, rfl, by decide +kernel, fun _ _ _ _ _ _ us hl => match us, hl with | [_], _ => rfl, rfl⟩
def d_41 : DI := mk 41 "_law_bag" ["script"] ["script", "cell"] f__law_bag
theorem o_41 : d_41.Ok bn := ⟨⟨rfl, rfl, rfl, by decide +kernel, by decide +kernel, by decide +kernel, by decide +kernel⟩, rfl, rfl, by decide +kernel, fun _ _ _ _ _ _ us hl => match us, hl with | [_], _ => rfl, rfl⟩
def d_42 : DI := mk 42 "_law_take" ["bag", "many"] ["bag", "many", "first", "second", "cell", "stirred", "value"] f__law_take
theorem o_42 : d_42.Ok bn := ⟨⟨rfl, rfl, rfl, by decide +kernel, by decide +kernel, by decide +kernel, by decide +kernel⟩, rfl, rfl, by decide +kernel, fun _ _ _ _ _ _ us hl => match us, hl with | [_, _], _ => rfl, rfl⟩
def d_43 : DI := mk 43 "_law_some" ["bag", "things"] ["bag", "things"] f__law_some
theorem o_43 : d_43.Ok bn := ⟨⟨rfl, rfl, rfl, by decide +kernel, by decide +kernel, by decide +kernel, by decide +kernel⟩, rfl, rfl, by decide +kernel, fun _ _ _ _ _ _ us hl => match us, hl with | [_, _], _ => rfl, rfl⟩
def d_44 : DI := mk 44 "_law_alike" ["found", "due"] ["found", "due"] f__law_alike
theorem o_44 : d_44.Ok bn := ⟨⟨rfl, rfl, rfl, by decide +kernel, by decide +kernel, by decide +kernel, by decide +kernel⟩, rfl, rfl, by decide +kernel, fun _ _ _ _ _ _ us hl => match us, hl with | [_, _], _ => rfl, rfl⟩
def d_45 : DI := mk 45 "_law_is_integer" ["thing"] ["thing"] f__law_is_integer
theorem o_45 : d_45.Ok bn := ⟨⟨rfl, rfl, rfl, by decide +kernel, by decide +kernel, by decide +kernel, by decide +kernel⟩, rfl, rfl, by decide +kernel, fun _ _ _ _ _ _ us hl => match us, hl with | [_], _ => rfl, rfl⟩
def d_46 : DI := mk 46 "_law_is_count" ["thing"] ["thing"] f__law_is_count
theorem o_46 : d_46.Ok bn := ⟨⟨rfl, rfl, rfl, by decide +kernel, by decide +kernel, by decide +kernel, by decide +kernel⟩, rfl, rfl, by decide +kernel, fun _ _ _ _ _ _ us hl => match us, hl with | [_], _ => rfl, rfl⟩
def d_47 : DI := mk 47 "_law_is_register" ["thing"] ["thing"] f__law_is_register
theorem o_47 : d_47.Ok bn := ⟨⟨rfl, rfl, rfl, by decide +kernel, by decide +kernel, by decide +kernel, by decide +kernel⟩, rfl, rfl, by decide +kernel, fun _ _ _ _ _ _ us hl => match us, hl with | [_], _ => rfl, rfl⟩
def d_48 : DI := mk 48 "_law_is_name" ["thing"] ["thing", "words", "sign"] f__law_is_name
theorem o_48 : d_48.Ok bn := ⟨⟨rfl, rfl, rfl, by decide +kernel, by decide +kernel, by decide +kernel, by decide +kernel⟩, rfl, rfl, by decide +kernel, fun _ _ _ _ _ _ us hl => match us, hl with | [_], _ => rfl, rfl⟩
def d_49 : DI := mk 49 "_law_is_told_name" ["thing"] ["thing"] f__law_is_told_name
theorem o_49 : d_49.Ok bn := ⟨⟨rfl, rfl, rfl, by decide +kernel, by decide +kernel, by decide +kernel, by decide +kernel⟩, rfl, rfl, by decide +kernel, fun _ _ _ _ _ _ us hl => match us, hl with | [_], _ => rfl, rfl⟩
def d_50 : DI := mk 50 "_law_is_own_name" ["thing"] ["thing", "figures", "sign"] f__law_is_own_name
theorem o_50 : d_50.Ok bn := ⟨⟨rfl, rfl, rfl, by decide +kernel, by decide +kernel, by decide +kernel, by decide +kernel⟩, rfl, rfl, by decide +kernel, fun _ _ _ _ _ _ us hl => match us, hl with | [_], _ => rfl, rfl⟩
def d_51 : DI := mk 51 "_law_is_cut_name" ["thing"] ["thing"] f__law_is_cut_name
theorem o_51 : d_51.Ok bn := ⟨⟨rfl, rfl, rfl, by decide +kernel, by decide +kernel, by decide +kernel, by decide +kernel⟩, rfl, rfl, by decide +kernel, fun _ _ _ _ _ _ us hl => match us, hl with | [_], _ => rfl, rfl⟩
def d_52 : DI := mk 52 "_law_is_sized" ["thing", "many"] ["thing", "many"] f__law_is_sized
theorem o_52 : d_52.Ok bn := ⟨⟨rfl, rfl, rfl, by decide +kernel, by decide +kernel, by decide +kernel, by decide +kernel⟩, rfl, rfl, by decide +kernel, fun _ _ _ _ _ _ us hl => match us, hl with | [_, _], _ => rfl, rfl⟩
def d_53 : DI := mk 53 "_law_are" ["thing", "sort", "least"] ["thing", "sort", "least", "one"] f__law_are
theorem o_53 : d_53.Ok bn := ⟨⟨rfl, rfl, rfl, by decide +kernel, by decide +kernel, by decide +kernel, by decide +kernel⟩, rfl, rfl, by decide +kernel, fun _ _ _ _ _ _ us hl => match us, hl with | [_, _, _], _ => rfl, rfl⟩
def d_54 : DI := mk 54 "_law_is_of" ["thing", "sort"] ["thing", "sort", "plain", "word"] f__law_is_of
theorem o_54 : d_54.Ok bn := ⟨⟨rfl, rfl, rfl, by decide +kernel, by decide +kernel, by decide +kernel, by decide +kernel⟩, rfl, rfl, by decide +kernel, fun _ _ _ _ _ _ us hl => match us, hl with | [_, _], _ => rfl, rfl⟩
def d_55 : DI := mk 55 "_law_words" ["sort"] ["sort", "rows"] f__law_words
theorem o_55 : d_55.Ok bn := ⟨⟨rfl, rfl, rfl, by decide +kernel, by decide +kernel, by decide +kernel, by decide +kernel⟩, rfl, rfl, by decide +kernel, fun _ _ _ _ _ _ us hl => match us, hl with | [_], _ => rfl, rfl⟩
def d_56 : DI := mk 56 "_law_is_worded" ["thing", "words"] ["thing", "words", "sorts", "one", "sort"] f__law_is_worded
theorem o_56 : d_56.Ok bn := ⟨⟨rfl, rfl, rfl, by decide +kernel, by decide +kernel, by decide +kernel, by decide +kernel⟩, rfl, rfl, by decide +kernel, fun _ _ _ _ _ _ us hl => match us, hl with | [_, _], _ => rfl, rfl⟩
def d_57 : DI := mk 57 "_law_is_saying" ["thing"] ["thing"] f__law_is_saying
theorem o_57 : d_57.Ok bn := ⟨⟨rfl, rfl, rfl, by decide +kernel, by decide +kernel, by decide +kernel, by decide +kernel⟩, rfl, rfl, by decide +kernel, fun _ _ _ _ _ _ us hl => match us, hl with | [_], _ => rfl, rfl⟩
def d_58 : DI := mk 58 "_law_spoken" ["saying"] ["saying", "found", "word", "one", "other"] f__law_spoken
theorem o_58 : d_58.Ok bn := ⟨⟨rfl, rfl, rfl, by decide +kernel, by decide +kernel, by decide +kernel, by decide +kernel⟩, rfl, rfl, by decide +kernel, fun _ _ _ _ _ _ us hl => match us, hl with | [_], _ => rfl, rfl⟩
def d_59 : DI := mk 59 "_law_is_give" ["thing"] ["thing"] f__law_is_give
theorem o_59 : d_59.Ok bn := ⟨⟨rfl, rfl, rfl, by decide +kernel, by decide +kernel, by decide +kernel, by decide +kernel⟩, rfl, rfl, by decide +kernel, fun _ _ _ _ _ _ us hl => match us, hl with | [_], _ => rfl, rfl⟩
def d_60 : DI := mk 60 "_law_odds" ["thing", "others"] ["thing", "others", "found", "k", "other"] f__law_odds
theorem o_60 : d_60.Ok bn := ⟨⟨rfl, rfl, rfl, by decide +kernel, by decide +kernel, by decide +kernel, by decide +kernel⟩, rfl, rfl, by decide +kernel, fun _ _ _ _ _ _ us hl => match us, hl with | [_, _], _ => rfl, rfl⟩
def d_61 : DI := mk 61 "_law_rises_up" ["things"] ["things", "one", "other"] f__law_rises_up
theorem o_61 : d_61.Ok bn := ⟨⟨rfl, rfl, rfl, by decide +kernel, by decide +kernel, by decide +kernel, by decide +kernel⟩, rfl, rfl, by decide +kernel, fun _ _ _ _ _ _ us hl => match us, hl with | [_], _ => rfl, rfl⟩
def d_62 : DI := mk 62 "law" ["script"] ["script", "bag", "plain", "thing", "lap", "found", "due", "names", "unlike", "row", "place", "lots", "fact", "good", "odds", "memory", "world", "told", "one", "lot", "cut", "k", "gap"] f_law
theorem o_62 : d_62.Ok bn := ⟨⟨rfl, rfl, rfl, by decide +kernel, by decide +kernel, by decide +kernel, by decide +kernel⟩, rfl, rfl, by decide +kernel, fun _ _ _ _ _ _ us hl => match us, hl with | [_], _ => rfl, rfl⟩
def dl : List DI := [d_9, d_10, d_11, d_12, d_13, d_14, d_15, d_16, d_17, d_18, d_19, d_20, d_21, d_22, d_23, d_24, d_25, d_26, d_27, d_28, d_29, d_30, d_31, d_32, d_33, d_34, d_35, d_36, d_37, d_38, d_39, d_41, d_42, d_43, d_44, d_45, d_46, d_47, d_48, d_49, d_50, d_51, d_52, d_53, d_54, d_55, d_56, d_57, d_58, d_59, d_60, d_61, d_62]
def L : LD := ⟨dl, [(("DIGITS" : Str), (.str "0123456789")),
  (("LEAST_PARAMS" : Str), (.int 2)),
  (("LETTERS" : Str), (.str "abcdefghijklmnopqrstuvwxyz")),
  (("MOST_PARAMS" : Str), (.int 6)),
  (("MOST_REGISTERS" : Str), (.int 8)),
  (("MOST_SIGNS" : Str), (.int 8)),
  (("ORDERS" : Str), (.txs ["same", "ahead", "upto"])),
  (("RESERVED" : Str), (.txs ["after", "atmost", "before", "call", "else", "end", "fun", "give", "if", "is", "keep", "less", "module", "not", "result", "rising", "swap", "use", "while"])),
  (("_law_is_count" : Str), .fn),
  (("_law_is_name" : Str), .fn),
  (("_law_is_register" : Str), .fn),
  (("_law_is_told_name" : Str), .fn),
  (("is_cut" : Str), .fn),
  (("is_cut_name" : Str), .fn),
  (("is_fact" : Str), .fn),
  (("is_gap" : Str), .fn),
  (("is_integer" : Str), .fn),
  (("is_known" : Str), .fn),
  (("is_known_row" : Str), .fn),
  (("is_name" : Str), .fn),
  (("is_order" : Str), .fn),
  (("is_told" : Str), .fn),
  (("is_told_name" : Str), .fn)], bn⟩
theorem tab_eq : L.tabL = tabL := rfl
theorem gl_eq : L.glL = glL := rfl
theorem all_ok : ∀ x ∈ dl, x.Ok bn := by
  intro x hx
  unfold dl at hx
  simp only [List.mem_cons, List.not_mem_nil, or_false] at hx
  rcases hx with rfl | rfl | rfl | rfl | rfl | rfl | rfl | rfl | rfl | rfl | rfl | rfl | rfl | rfl | rfl | rfl | rfl | rfl | rfl | rfl | rfl | rfl | rfl | rfl | rfl | rfl | rfl | rfl | rfl | rfl | rfl | rfl | rfl | rfl | rfl | rfl | rfl | rfl | rfl | rfl | rfl | rfl | rfl | rfl | rfl | rfl | rfl | rfl | rfl | rfl | rfl | rfl | rfl
  · exact o_9
  · exact o_10
  · exact o_11
  · exact o_12
  · exact o_13
  · exact o_14
  · exact o_15
  · exact o_16
  · exact o_17
  · exact o_18
  · exact o_19
  · exact o_20
  · exact o_21
  · exact o_22
  · exact o_23
  · exact o_24
  · exact o_25
  · exact o_26
  · exact o_27
  · exact o_28
  · exact o_29
  · exact o_30
  · exact o_31
  · exact o_32
  · exact o_33
  · exact o_34
  · exact o_35
  · exact o_36
  · exact o_37
  · exact o_38
  · exact o_39
  · exact o_41
  · exact o_42
  · exact o_43
  · exact o_44
  · exact o_45
  · exact o_46
  · exact o_47
  · exact o_48
  · exact o_49
  · exact o_50
  · exact o_51
  · exact o_52
  · exact o_53
  · exact o_54
  · exact o_55
  · exact o_56
  · exact o_57
  · exact o_58
  · exact o_59
  · exact o_60
  · exact o_61
  · exact o_62
theorem at_ok : ∀ x ∈ dl, x.d.at_ = (x.d.name, none) := by
  intro x hx
  unfold dl at hx
  simp only [List.mem_cons, List.not_mem_nil, or_false] at hx
  rcases hx with rfl | rfl | rfl | rfl | rfl | rfl | rfl | rfl | rfl | rfl | rfl | rfl | rfl | rfl | rfl | rfl | rfl | rfl | rfl | rfl | rfl | rfl | rfl | rfl | rfl | rfl | rfl | rfl | rfl | rfl | rfl | rfl | rfl | rfl | rfl | rfl | rfl | rfl | rfl | rfl | rfl | rfl | rfl | rfl | rfl | rfl | rfl | rfl | rfl | rfl | rfl | rfl | rfl <;> rfl
theorem ok : L.Ok := ⟨all_ok, at_ok, by decide +kernel⟩
end K20

end
section
set_option Elab.async false
set_option maxRecDepth 100000
set_option maxHeartbeats 0
set_option autoImplicit false
set_option linter.all false
/-! K20h: the head. -/
namespace K20
open PySem PySem.Spec PyProof.Rows L2 Pv
abbrev R : PySem.W.OpenRow := PySem.W.OpenLaw.row PySem.Challenge.rw_rowsort_k20_forms_of_any_value
abbrev hk : PySem.W.Hook := hookP 4 L.tbs L.fas L.fns
def ob (s : PySem.W.SharedT) : He.AlD := obsPG 4 L.tbs L.fas L.fns (HandSHeadRun.getT s)
theorem ob_eq (s : PySem.W.SharedT) : ob s = hk.obs s.abs := obsPG_eq (HandSHeadRun.getT_eq s)
abbrev loose : List Str := [("DIGITS" : Str), ("LEAST_PARAMS" : Str), ("LETTERS" : Str), ("MOST_PARAMS" : Str), ("MOST_REGISTERS" : Str), ("MOST_SIGNS" : Str), ("ORDERS" : Str), ("RESERVED" : Str), ("_law_alike" : Str), ("_law_are" : Str), ("_law_bag" : Str), ("_law_is_count" : Str), ("_law_is_cut_name" : Str), ("_law_is_give" : Str), ("_law_is_integer" : Str), ("_law_is_name" : Str), ("_law_is_of" : Str), ("_law_is_own_name" : Str), ("_law_is_register" : Str), ("_law_is_saying" : Str), ("_law_is_sized" : Str), ("_law_is_told_name" : Str), ("_law_is_worded" : Str), ("_law_odds" : Str), ("_law_rises_up" : Str), ("_law_some" : Str), ("_law_spoken" : Str), ("_law_take" : Str), ("_law_words" : Str), ("are_rising" : Str), ("is_args" : Str), ("is_count" : Str), ("is_cut" : Str), ("is_cut_name" : Str), ("is_fact" : Str), ("is_gap" : Str), ("is_give" : Str), ("is_integer" : Str), ("is_key" : Str), ("is_known" : Str), ("is_known_row" : Str), ("is_memory_form" : Str), ("is_name" : Str), ("is_names" : Str), ("is_names_list" : Str), ("is_order" : Str), ("is_own_name" : Str), ("is_params" : Str), ("is_plain_saying" : Str), ("is_register" : Str), ("is_row" : Str), ("is_saying_form" : Str), ("is_sized" : Str), ("is_stretch" : Str), ("is_told" : Str), ("is_told_name" : Str), ("is_tuple_of" : Str), ("is_word" : Str), ("is_world_form" : Str), ("told_names_of" : Str)]
theorem run (w : World) : HandSHeadRun.RunEq R (PySem.W.view R.prog [62]) hk ob 4000 loose w := by
  intro os
  kernel_rfl
end K20

end
section
set_option Elab.async false
set_option maxRecDepth 100000
set_option maxHeartbeats 1000000
set_option autoImplicit false
set_option linter.all false
/-! K20p: evaluation in small steps, in plain Lean. -/
namespace Pv
open PySem

def Bd (h : PH) : Prop := h.all (PO.bd h.length) = true
theorem trim_same {v : PV} {h : PH} : trim h.length v h = (v, h) := by
  unfold trim
  split
  · rw [List.take_length]
  · rfl
theorem trim_app {v : PV} {h g : PH} (b : Bd h) (hv : v.bd h.length = true) : trim h.length v (h ++ g) = (v, h) := by
  unfold trim
  rw [List.take_left, hv, b]
  rfl

section
variable {tab : Str → Option Fn} {gl : Str → Option PV} {n : Nat} {ρ : PEnv} {h : PH} {C : Cl}

/-- a def's call, by its body -/
theorem call_def {f : Str} {fn : Fn} {vs : List PV} {h' : PH} {v : PV} (ht : tab f = some fn) (hl : vs.length = fn.np) (hn : fn.np ≤ fn.nl)
    (e : evTs ⟨evCall tab gl n, gl⟩ fn.body (vs.map some ++ List.replicate (fn.nl - fn.np) none) h = some (.rt v, h')) : evCall tab gl (n + 1) f vs h = some (trim h.length v h') := by
  unfold evCall
  rw [ht]
  simp only
  rw [if_pos ⟨hl, hn⟩, e]
theorem call_same {f : Str} {fn : Fn} {vs : List PV} {v : PV} (ht : tab f = some fn) (hl : vs.length = fn.np) (hn : fn.np ≤ fn.nl)
    (e : evTs ⟨evCall tab gl n, gl⟩ fn.body (vs.map some ++ List.replicate (fn.nl - fn.np) none) h = some (.rt v, h)) : evCall tab gl (n + 1) f vs h = some (v, h) := by
  rw [call_def ht hl hn e, trim_same]
theorem call_app {f : Str} {fn : Fn} {vs : List PV} {g : PH} {v : PV} (ht : tab f = some fn) (hl : vs.length = fn.np) (hn : fn.np ≤ fn.nl) (b : Bd h) (hv : v.bd h.length = true)
    (e : evTs ⟨evCall tab gl n, gl⟩ fn.body (vs.map some ++ List.replicate (fn.nl - fn.np) none) h = some (.rt v, h ++ g)) : evCall tab gl (n + 1) f vs h = some (v, h) := by
  rw [call_def ht hl hn e, trim_app b hv]

/-- an expression that changes nothing -/
abbrev Pe (C : Cl) (ρ : PEnv) (h : PH) (e : IE) (v : PV) : Prop := evE C e ρ h = some (v, h)
abbrev Ps (C : Cl) (ρ : PEnv) (h : PH) (es : IEs) (vs : List PV) : Prop := evEs C es ρ h = some (vs, h)
variable {a b c : IE} {x y z v : PV} {p q k : Bool}
theorem p_var {i : Nat} (e : ρ[i]? = some (some v)) : Pe C ρ h (.var i) v := by
  unfold Pe evE
  rw [e]
theorem p_gl {x : Str} (e : C.gl x = some v) : Pe C ρ h (.gl x) v := by
  unfold Pe evE
  rw [e]
theorem p_int {i : Int} : Pe C ρ h (.con (.int i)) (.int i) := rfl
theorem p_str {i : Str} : Pe C ρ h (.con (.str i)) (.str i) := rfl
theorem p_bl {i : Bool} : Pe C ρ h (.con (.bl i)) (.bl i) := rfl
theorem p_non : Pe C ρ h (.con .non) .non := rfl
theorem p_neg {i : Int} (e : Pe C ρ h a (.int i)) : Pe C ρ h (.neg a) (.int (-i)) := by
  unfold Pe evE
  rw [e]
theorem p_and (ha : Pe C ρ h a (.bl p)) (hb : p = true → Pe C ρ h b (.bl q)) : Pe C ρ h (.and a b) (.bl (p && q)) := by
  unfold Pe evE
  rw [ha]
  cases p with
  | true => exact hb rfl
  | false => rfl
theorem p_or (ha : Pe C ρ h a (.bl p)) (hb : p = false → Pe C ρ h b (.bl q)) : Pe C ρ h (.or a b) (.bl (p || q)) := by
  unfold Pe evE
  rw [ha]
  cases p with
  | false => exact hb rfl
  | true => rfl
theorem p_not (ha : Pe C ρ h a (.bl p)) : Pe C ρ h (.not a) (.bl (!p)) := by
  unfold Pe evE
  rw [ha]
  rfl
theorem p_ite (hc : Pe C ρ h c (.bl p)) (ha : p = true → Pe C ρ h a v) (hb : p = false → Pe C ρ h b v) : Pe C ρ h (.ite c a b) v := by
  unfold Pe evE
  rw [hc]
  cases p with
  | true => exact ha rfl
  | false => exact hb rfl
theorem p_isi {t : String} (ha : Pe C ρ h a v) (e : isiPV h v t = some k) : Pe C ρ h (.isi a t) (.bl k) := by
  unfold Pe evE
  rw [ha]
  show (isiPV h v t).map _ = _
  rw [e]
  rfl
theorem p_bin {o : Bo} (ha : Pe C ρ h a x) (hb : Pe C ρ h b y) (e : binPV o h x y = some (v, h)) : Pe C ρ h (.bin o a b) v := by
  unfold Pe evE
  rw [ha]
  simp only
  rw [hb]
  exact e
theorem p_cmp {o : Co} (ha : Pe C ρ h a x) (hb : Pe C ρ h b y) (e : cmpPV o h x y = some k) : Pe C ρ h (.cmp o a b) (.bl k) := by
  unfold Pe evE
  rw [ha]
  simp only
  rw [hb]
  simp only
  rw [e]
  show some (trim h.length (.bl k) h) = _
  rw [trim_same]
/-- .. of new objects -/
theorem p_cmpG {o : Co} {g1 g2 : PH} (bd : Bd h) (ha : evE C a ρ h = some (x, h ++ g1)) (hb : evE C b ρ (h ++ g1) = some (y, h ++ g2)) (e : cmpPV o (h ++ g2) x y = some k) : Pe C ρ h (.cmp o a b) (.bl k) := by
  unfold Pe evE
  rw [ha]
  simp only
  rw [hb]
  simp only
  rw [e]
  show some (trim h.length (.bl k) (h ++ g2)) = _
  rw [trim_app bd rfl]
theorem p_cmp2 {o o' : Co} (ha : Pe C ρ h a x) (hb : Pe C ρ h b y) (hc : Pe C ρ h c z) (e : cmpPV o h x y = some p) (e' : cmpPV o' h y z = some q) : Pe C ρ h (.cmp2 o o' a b c) (.bl (p && q)) := by
  unfold Pe evE
  rw [ha]
  simp only
  rw [hb]
  simp only
  rw [e]
  cases p with
  | false => rfl
  | true =>
    simp only
    rw [hc]
    simp only
    rw [e']
    rfl
theorem p_ix (ha : Pe C ρ h a x) (hb : Pe C ρ h b y) (e : ixPV h x y = some v) : Pe C ρ h (.ix a b) v := by
  unfold Pe evE
  rw [ha]
  simp only
  rw [hb]
  simp only
  rw [e]
  rfl
theorem p_nil : Ps C ρ h .nil [] := rfl
theorem p_cons {es : IEs} {vs : List PV} (ha : Pe C ρ h a x) (hb : Ps C ρ h es vs) : Ps C ρ h (.cons a es) (x :: vs) := by
  unfold Ps evEs
  rw [ha]
  simp only
  rw [hb]
theorem p_tup {es : IEs} {vs : List PV} (hb : Ps C ρ h es vs) (hz : vs.length ≤ SZ) : Pe C ρ h (.tup es) (.tup vs) := by
  unfold Pe evE
  rw [hb]
  simp only
  rw [if_pos hz]
theorem p_call {f : Str} {es : IEs} {vs : List PV} (hb : Ps C ρ h es vs) (e : C.call f vs h = some (v, h)) : Pe C ρ h (.call f es) v := by
  unfold Pe evE
  rw [hb]
  exact e
theorem p_callV {f : Str} {es : IEs} {vs : List PV} (ha : Pe C ρ h a (.fn f)) (hb : Ps C ρ h es vs) (e : C.call f vs h = some (v, h)) : Pe C ρ h (.callV a es) v := by
  unfold Pe evE
  rw [ha]
  simp only
  rw [hb]
  exact e
theorem p_b1 {o : B1} (ha : Pe C ρ h a x) (e : b1PV o h x = some (v, h)) : Pe C ρ h (.b1 o a) v := by
  unfold Pe evE
  rw [ha]
  simp only
  rw [e]
  show some (trim h.length v h) = _
  rw [trim_same]
theorem p_b1G {o : B1} {g1 g2 : PH} (bd : Bd h) (ha : evE C a ρ h = some (x, h ++ g1)) (e : b1PV o (h ++ g1) x = some (v, h ++ g2)) (hv : v.bd h.length = true) : Pe C ρ h (.b1 o a) v := by
  unfold Pe evE
  rw [ha]
  simp only
  rw [e]
  show some (trim h.length v (h ++ g2)) = _
  rw [trim_app bd hv]
theorem p_len {n : Nat} (ha : Pe C ρ h a x) (e : lenPV h x = some n) : Pe C ρ h (.b1 .len a) (.int n) := p_b1 ha (by
  show (lenPV h x).map _ = _
  rw [e]
  rfl)

/-! ### comprehensions over what stays -/
theorem lc_map {sv : SV} {bnd : PV → Option PEnv} {f : PEnv → PH → Option (Option PV × PH)} {xs : List PV} {F : PV → Option PV} (hs : ∀ i, svAt h sv i = some xs[i]?) (hf : ∀ x ∈ xs, ∃ ρx, bnd x = some ρx ∧ f ρx h = some (F x, h)) :
    ∀ (n i : Nat) (acc : List PV), i ≤ xs.length → xs.length < n + i → lcLoop sv bnd f n i acc h = some (acc ++ (xs.drop i).filterMap F, h) := by
  intro n
  induction n with
  | zero =>
    intro i acc h0 hl
    omega
  | succ n ih =>
    intro i acc h0 hl
    unfold lcLoop
    rw [hs i]
    by_cases hi : i < xs.length
    · have e : xs[i]? = some xs[i] := by simp [hi]
      rw [e]
      simp only
      obtain ⟨ρx, e1, e2⟩ := hf xs[i] (List.getElem_mem hi)
      rw [e1]
      simp only
      rw [e2]
      have ed : xs.drop i = xs[i] :: xs.drop (i + 1) := (List.getElem_cons_drop hi).symm
      rw [ed, List.filterMap_cons]
      cases hF : F xs[i] with
      | none => simp only; exact ih (i + 1) acc (by omega) (by omega)
      | some y => simp only; rw [ih (i + 1) (acc ++ [y]) (by omega) (by omega)]; simp
    · have e : xs[i]? = none := by simp; omega
      rw [e]
      simp only
      rw [List.drop_eq_nil_of_le (by omega)]
      simp
/-- [e for tg in s if c], nothing else changed -/
theorem e_lc {sv : SV} {tg : Tg} {s : IS} {own : List Nat} {cnd : IO} {xs : List PV} {F : PV → Option PV} (hs : evS C s ρ h = some (sv, h)) (hv : ∀ i, svAt h sv i = some xs[i]?) (hz : xs.length < TURNS)
    (hf : ∀ x ∈ xs, ∃ ρx, bindTg (wipeP ρ own) tg x = some ρx ∧ ((evC C cnd ρx h = some (false, h) ∧ F x = none) ∨ (evC C cnd ρx h = some (true, h) ∧ ∃ y, Pe C ρx h a y ∧ F x = some y))) :
    evE C (.lc a tg s own cnd) ρ h = some (.ref h.length, h ++ [.lst (xs.filterMap F)]) := by
  unfold evE
  rw [hs]
  simp only
  rw [lc_map (F := F) hv (fun x hx => ?_) TURNS 0 [] (Nat.zero_le _) (by omega)]
  · rfl
  · obtain ⟨ρx, e1, e2⟩ := hf x hx
    refine ⟨ρx, e1, ?_⟩
    rcases e2 with ⟨e3, e4⟩ | ⟨e3, y, e4, e5⟩
    · rw [e3, e4]
    · rw [e3, e5]
      simp only
      rw [e4]
theorem bls_map : ∀ bs : List Bool, blsOf (bs.map PV.bl) = some bs
  | [] => rfl
  | b :: bs => by
    show (blsOf (bs.map PV.bl)).map (b :: ·) = _
    rw [bls_map bs]
    rfl
theorem ls_new {xs : List PV} : PH.ls (h ++ [.lst xs]) h.length = some xs := by
  unfold PH.ls
  rw [List.getElem?_append_right (Nat.le_refl _)]
  simp
theorem fm_some {α β : Type} {F : α → Option β} {G : α → β} : ∀ {xs : List α}, (∀ x ∈ xs, F x = some (G x)) → xs.filterMap F = xs.map G
  | [], _ => rfl
  | x :: xs, h => by
    rw [List.filterMap_cons, h x List.mem_cons_self, List.map_cons, fm_some fun y hy => h y (List.mem_cons_of_mem _ hy)]
/-- all([e for tg in s]) -/
theorem p_all {sv : SV} {tg : Tg} {s : IS} {own : List Nat} {xs : List PV} (P : PV → Bool) (bd : Bd h) (hs : evS C s ρ h = some (sv, h)) (hv : ∀ i, svAt h sv i = some xs[i]?) (hz : xs.length < TURNS)
    (hf : ∀ x ∈ xs, ∃ ρx, bindTg (wipeP ρ own) tg x = some ρx ∧ Pe C ρx h a (.bl (P x))) : Pe C ρ h (.b1 .all (.lc a tg s own .none)) (.bl (xs.all P)) := by
  have e := e_lc (a := a) (cnd := .none) (F := fun x => some (.bl (P x))) hs hv hz fun x hx => let ⟨ρx, e1, e2⟩ := hf x hx; ⟨ρx, e1, .inr ⟨rfl, _, e2, rfl⟩⟩
  rw [fm_some (G := fun x => PV.bl (P x)) fun _ _ => rfl] at e
  refine p_b1G (g1 := [.lst (xs.map fun x => PV.bl (P x))]) (g2 := [.lst (xs.map fun x => PV.bl (P x))]) bd e ?_ rfl
  show ((PH.ls (h ++ [.lst _]) h.length).bind blsOf).map _ = _
  rw [ls_new]
  have : (xs.map fun x => PV.bl (P x)) = (xs.map P).map PV.bl := by rw [List.map_map]; rfl
  show (blsOf (xs.map fun x => PV.bl (P x))).map _ = _
  rw [this, bls_map]
  show some (PV.bl ((xs.map P).all id), _) = _
  rw [List.all_map]
  rfl

/-! ### data -/
/-- a value that is data to a depth -/
def Dat (k : Nat) (h : PH) (v : PV) : Prop := ∃ d, toD k h v = some d ∧ d.canLay0 = true
theorem mapM_some {α β : Type} {f : α → Option β} {P : β → Bool} : ∀ {xs : List α}, (∀ x ∈ xs, ∃ y, f x = some y ∧ P y = true) → ∃ ys, xs.mapM f = some ys ∧ ys.length = xs.length ∧ ∀ y ∈ ys, P y = true
  | [], _ => ⟨[], rfl, rfl, fun _ z => nomatch z⟩
  | x :: xs, hx => by
    obtain ⟨y, e1, e2⟩ := hx x List.mem_cons_self
    obtain ⟨ys, e3, e4, e5⟩ := mapM_some fun z hz => hx z (List.mem_cons_of_mem _ hz)
    refine ⟨y :: ys, ?_, by rw [List.length_cons, e4, List.length_cons], fun z hz => ?_⟩
    · rw [List.mapM_cons, e1, e3]; rfl
    · rcases List.mem_cons.mp hz with rfl | hz
      · exact e2
      · exact e5 z hz
theorem mapM_mono {α β : Type} {f g : α → Option β} : ∀ {xs : List α} {ys : List β}, (∀ x ∈ xs, ∀ y, f x = some y → g x = some y) → xs.mapM f = some ys → xs.mapM g = some ys
  | [], ys, _, e => e
  | x :: xs, ys, hx, e => by
    rw [List.mapM_cons] at e ⊢
    cases e1 : f x with
    | none => rw [e1] at e; cases e
    | some y =>
      cases e2 : xs.mapM f with
      | none => rw [e1, e2] at e; cases e
      | some r =>
        rw [e1, e2] at e
        rw [hx x List.mem_cons_self y e1, mapM_mono (fun z hz => hx z (List.mem_cons_of_mem _ hz)) e2]
        exact e
theorem canLayAll_of : ∀ {ds : List PyData}, (∀ d ∈ ds, d.canLay0 = true) → PyData.canLayAll0 ds = true
  | [], _ => rfl
  | d :: ds, h => by
    rw [PyData.canLayAll0, h d List.mem_cons_self, canLayAll_of fun z hz => h z (List.mem_cons_of_mem _ hz)]
    rfl
theorem ls_app {p : Nat} {xs : List PV} {g : PH} (e : PH.ls h p = some xs) : PH.ls (h ++ g) p = some xs := by
  unfold PH.ls at e ⊢
  have hp : p < h.length := by
    cases q : h[p]? with
    | none => rw [q] at e; cases e
    | some o => exact (List.getElem?_eq_some_iff.mp q).1
  rw [List.getElem?_append_left hp]
  exact e
theorem toD_app {g : PH} : ∀ (k : Nat) (v : PV) (d : PyData), toD k h v = some d → toD k (h ++ g) v = some d := by
  intro k
  induction k with
  | zero => intro v d e; simpa [toD] using e
  | succ k ih =>
    intro v d e
    cases v with
    | ref p =>
      cases q : PH.ls h p with
      | none => simp [toD, q] at e
      | some xs =>
        have e' : (xs.mapM (toD k h)).map PyData.list = some d := by simpa [toD, q] using e
        obtain ⟨ds, e1, rfl⟩ := Option.map_eq_some_iff.mp e'
        simp [toD, ls_app q, mapM_mono (fun x _ y => ih x y) e1]
    | tup xs =>
      have e' : (xs.mapM (toD k h)).map PyData.tuple = some d := by simpa [toD] using e
      obtain ⟨ds, e1, rfl⟩ := Option.map_eq_some_iff.mp e'
      simp [toD, mapM_mono (fun x _ y => ih x y) e1]
    | _ => simpa [toD] using e
theorem toD_up : ∀ (k : Nat) (v : PV) (d : PyData), toD k h v = some d → toD (k + 1) h v = some d := by
  intro k
  induction k with
  | zero =>
    intro v d e
    cases v with
    | ref p => simp [toD, PV.flatD] at e
    | tup xs => simp [toD, PV.flatD] at e
    | _ => simpa [toD] using e
  | succ k ih =>
    intro v d e
    cases v with
    | ref p =>
      cases q : PH.ls h p with
      | none => simp [toD, q] at e
      | some xs =>
        have e' : (xs.mapM (toD k h)).map PyData.list = some d := by simpa [toD, q] using e
        obtain ⟨ds, e1, rfl⟩ := Option.map_eq_some_iff.mp e'
        have e2 := mapM_mono (fun x _ y => ih x y) e1
        show (match PH.ls h p with | some xs => (xs.mapM (toD (k + 1) h)).map PyData.list | none => none) = _
        rw [q]
        simp only
        rw [e2]
        rfl
    | tup xs =>
      have e' : (xs.mapM (toD k h)).map PyData.tuple = some d := by simpa [toD] using e
      obtain ⟨ds, e1, rfl⟩ := Option.map_eq_some_iff.mp e'
      have e2 := mapM_mono (fun x _ y => ih x y) e1
      show (xs.mapM (toD (k + 1) h)).map PyData.tuple = _
      rw [e2]
      rfl
    | _ => simpa [toD] using e
theorem Dat.app {k : Nat} {g : PH} (d : Dat k h v) : Dat k (h ++ g) v := let ⟨d, e, c⟩ := d; ⟨d, toD_app k v d e, c⟩
theorem Dat.up {k : Nat} (d : Dat k h v) : Dat (k + 1) h v := let ⟨d, e, c⟩ := d; ⟨d, toD_up k v d e, c⟩
theorem Dat.ups {k : Nat} (d : Dat k h v) : ∀ j, Dat (k + j) h v
  | 0 => d
  | j + 1 => (d.ups j).up
theorem Dat.tup {k : Nat} {xs : List PV} (d : ∀ x ∈ xs, Dat k h x) : Dat (k + 1) h (.tup xs) := by
  obtain ⟨ds, e1, _, e2⟩ := mapM_some (P := PyData.canLay0) d
  refine ⟨.tuple ds, ?_, ?_⟩
  · show (xs.mapM (toD k h)).map PyData.tuple = _
    rw [e1]; rfl
  · rw [PyData.canLay0]; exact canLayAll_of e2
theorem Dat.lst {k p : Nat} {xs : List PV} (hp : PH.ls h p = some xs) (d : ∀ x ∈ xs, Dat k h x) : ∃ ds, toD (k + 1) h (.ref p) = some (.list ds) ∧ PyData.canLayAll0 ds = true ∧ ds.length = xs.length := by
  obtain ⟨ds, e1, e3, e2⟩ := mapM_some (P := PyData.canLay0) d
  refine ⟨ds, ?_, canLayAll_of e2, e3⟩
  show (match PH.ls h p with | some xs => (xs.mapM (toD k h)).map PyData.list | none => none) = _
  rw [hp]
  simp only
  rw [e1]
  rfl
/-- a list == [] -/
theorem eq_empty {p q : Nat} {xs : List PV} (hp : PH.ls h p = some xs) (hq : PH.ls h q = some []) (d : ∀ x ∈ xs, Dat 23 h x) : eqPV h (.ref p) (.ref q) = some xs.isEmpty := by
  obtain ⟨ds, e1, e2, e3⟩ := Dat.lst (k := 23) hp d
  obtain ⟨es, e4, e5, e6⟩ := Dat.lst (k := 23) hq (fun _ z => nomatch z)
  have e7 : es = [] := List.eq_nil_of_length_eq_zero e6
  subst e7
  show (match toD DD h (.ref p), toD DD h (.ref q) with
    | some d, some e => if d.canLay0 && e.canLay0 then some (PyData.eqv d e) else none
    | _, _ => none) = _
  rw [show toD DD h (.ref p) = some (.list ds) from e1, show toD DD h (.ref q) = some (.list []) from e4]
  simp only
  rw [if_pos (by rw [PyData.canLay0, PyData.canLay0, e2]; rfl)]
  cases xs with
  | nil =>
    have : ds = [] := List.eq_nil_of_length_eq_zero e3
    subst this
    rfl
  | cons x xs =>
    cases ds with
    | nil => cases e3
    | cons d ds => rfl
/-- [e for tg in s if c] == [] -/
theorem p_none {sv : SV} {tg : Tg} {s : IS} {own : List Nat} {cnd : IE} {xs : List PV} (P : PV → Bool) (G : PV → PV) (bd : Bd h) (hs : evS C s ρ h = some (sv, h)) (hv : ∀ i, svAt h sv i = some xs[i]?) (hz : xs.length < TURNS)
    (hf : ∀ x ∈ xs, ∃ ρx, bindTg (wipeP ρ own) tg x = some ρx ∧ Pe C ρx h cnd (.bl (P x)) ∧ Pe C ρx h a (G x)) (hd : ∀ x ∈ xs, Dat 23 h (G x)) :
    Pe C ρ h (.cmp .eq (.lc a tg s own (.some cnd)) (.lst .nil)) (.bl (xs.all fun x => !P x)) := by
  have e := e_lc (a := a) (cnd := .some cnd) (F := fun x => if P x = true then some (G x) else none) hs hv hz fun x hx => by
    obtain ⟨ρx, e1, e2, e3⟩ := hf x hx
    refine ⟨ρx, e1, ?_⟩
    have e4 : evC C (.some cnd) ρx h = some (P x, h) := by
      show bool? (evE C cnd ρx h) = _
      rw [e2]
      rfl
    cases hP : P x with
    | true => rw [hP] at e4; exact .inr ⟨e4, G x, e3, by simp⟩
    | false => rw [hP] at e4; exact .inl ⟨e4, by simp⟩
  generalize hL : xs.filterMap (fun x => if P x = true then some (G x) else none) = L at e
  have mem : ∀ y ∈ L, Dat 23 h y := fun y hy => by
    rw [← hL] at hy
    obtain ⟨x, hx, e1⟩ := List.mem_filterMap.mp hy
    split at e1
    · cases e1; exact hd x hx
    · cases e1
  have emp : L.isEmpty = xs.all fun x => !P x := by
    rw [← hL]
    clear hL mem e hd hf hz hv
    induction xs with
    | nil => rfl
    | cons x xs ih =>
      rw [List.filterMap_cons, List.all_cons]
      cases hP : P x with
      | true => simp
      | false => simp [ih]
  refine p_cmpG (g1 := [.lst L]) (g2 := [.lst L, .lst []]) bd e (y := .ref (h.length + 1)) ?_ ?_
  · unfold evE
    simp only [evEs]
    rw [if_pos (show ([] : List PV).length ≤ SZ from Nat.zero_le _)]
    simp [newO]
  · rw [← emp]
    refine eq_empty ?_ ?_ fun x hx => (mem x hx).app
    · unfold PH.ls; simp
    · unfold PH.ls; simp
theorem s_it {xs : List PV} (ha : Pe C ρ h a (.tup xs)) : evS C (.it a) ρ h = some (.fix xs, h) ∧ ∀ i, svAt h (.fix xs) i = some xs[i]? := by
  refine ⟨?_, fun i => rfl⟩
  unfold evS
  rw [ha]
  rfl
theorem s_str {z : Str} (ha : Pe C ρ h a (.str z)) : evS C (.it a) ρ h = some (.fix (z.cps.toList.map fun c => .str ⟨#[c]⟩), h) ∧ ∀ i, svAt h (.fix (z.cps.toList.map fun c => PV.str ⟨#[c]⟩)) i = some (z.cps.toList.map fun c => PV.str ⟨#[c]⟩)[i]? := by
  refine ⟨?_, fun i => rfl⟩
  unfold evS
  rw [ha]
  rfl
end
end Pv

end
section
set_option Elab.async false
set_option maxRecDepth 100000
set_option maxHeartbeats 1000000
set_option autoImplicit false
set_option linter.all false
/-! K20q: the truths of k20, each by its own look, and both alike. -/
namespace K20
open PySem Pv

/-! ### kinds -/
/-- a thing -/
inductive Gd (h : PH) : PV → Prop
  | non : Gd h .non
  | bl (b : Bool) : Gd h (.bl b)
  | int (i : Int) : Gd h (.int i)
  | str (s : Str) (z : s.length ≤ 1000) (c : (PyData.str s).canLay0 = true) : Gd h (.str s)
  | tup (xs : List PV) (z : xs.length ≤ 500) (g : ∀ x ∈ xs, Gd h x) (d : ∀ x ∈ xs, Dat 20 h x) : Gd h (.tup xs)
  | lst (p : Nat) (xs : List PV) (e : h[p]? = some (.lst xs)) : Gd h (.ref p)
  | dct (p : Nat) (xs : List (L2.Key × PV)) (e : h[p]? = some (.dct xs)) : Gd h (.ref p)
def isI : PV → Bool | .int _ => true | .bl _ => true | _ => false
def isB : PV → Bool | .bl _ => true | _ => false
def isS : PV → Bool | .str _ => true | _ => false
def isT : PV → Bool | .tup _ => true | _ => false
section
variable {h : PH} {v : PV}
theorem k_int (g : Gd h v) : isiPV h v "int" = some (isI v) := by
  cases g with
  | lst p xs e => simp [isiPV, tyPV, e, isiTy, isI]
  | dct p xs e => simp [isiPV, tyPV, e, isiTy, isI]
  | _ => simp [isiPV, tyPV, isiTy, isI]
theorem k_bool (g : Gd h v) : isiPV h v "bool" = some (isB v) := by
  cases g with
  | lst p xs e => simp [isiPV, tyPV, e, isiTy, isB]
  | dct p xs e => simp [isiPV, tyPV, e, isiTy, isB]
  | _ => simp [isiPV, tyPV, isiTy, isB]
theorem k_str (g : Gd h v) : isiPV h v "str" = some (isS v) := by
  cases g with
  | lst p xs e => simp [isiPV, tyPV, e, isiTy, isS]
  | dct p xs e => simp [isiPV, tyPV, e, isiTy, isS]
  | _ => simp [isiPV, tyPV, isiTy, isS]
theorem k_tup (g : Gd h v) : isiPV h v "tuple" = some (isT v) := by
  cases g with
  | lst p xs e => simp [isiPV, tyPV, e, isiTy, isT]
  | dct p xs e => simp [isiPV, tyPV, e, isiTy, isT]
  | _ => simp [isiPV, tyPV, isiTy, isT]
end
abbrev Cal (n : Nat) (f : Str) (vs : List PV) (h : PH) (v : PV) : Prop := evCall tab gl n f vs h = some (v, h)
section
variable {n : Nat} {C : Cl} {ρ : PEnv} {h : PH} {e : IE} {es : ITs} {v : PV} {p q : Bool} {c : IE} {a b : ITs} {fl : Fl}
/-- statements that end with a value, nothing changed -/
abbrev Rt (C : Cl) (ρ : PEnv) (h : PH) (ts : ITs) (v : PV) : Prop := evTs C ts ρ h = some (.rt v, h)
theorem rt_ret (he : Pe C ρ h e v) : Rt C ρ h (.cons (.ret e) es) v := by
  unfold Rt evTs evT
  rw [he]
theorem rt_if (hc : Pe C ρ h c (.bl p)) (ha : p = true → Rt C ρ h a v) (hb : p = false → evTs C b ρ h = some (.nx ρ, h)) (hr : p = false → Rt C ρ h es v) : Rt C ρ h (.cons (.ite c a b) es) v := by
  unfold Rt evTs evT
  rw [hc]
  cases p with
  | true =>
    show (match evTs C a ρ h with | some (.nx ρ, h) => evTs C es ρ h | r => r) = _
    rw [ha rfl]
  | false =>
    show (match evTs C b ρ h with | some (.nx ρ, h) => evTs C es ρ h | r => r) = _
    rw [hb rfl]
    exact hr rfl
/-- if c: return False -/
theorem rt_guard (hc : Pe C ρ h c (.bl p)) (hr : p = false → Rt C ρ h es (.bl q)) : Rt C ρ h (.cons (.ite c (.cons (.ret (.con (.bl false))) .nil) .nil) es) (.bl (!p && q)) := by
  refine rt_if hc (fun e => ?_) (fun _ => rfl) (fun e => ?_)
  · subst e; exact rt_ret p_bl
  · subst e; exact hr rfl
theorem rt_asg {i : Nat} {u : PV} (he : Pe C ρ h e u) (hr : Rt C (ρ.set i (some u)) h es v) : Rt C ρ h (.cons (.asg i e) es) v := by
  unfold Rt evTs evT
  rw [he]
  exact hr
end

/-! ### numbers -/
def isInt : PV → Bool | .int _ => true | _ => false
def isCnt : PV → Bool | .int i => decide (0 ≤ i) | _ => false
def isReg : PV → Bool | .int i => decide (0 ≤ i) && decide (i < 8) | _ => false
section
variable {n : Nat} {h : PH} {v : PV}
theorem int_alt : (isI v && !isB v) = isInt v := by cases v <;> rfl
theorem c_is_integer (g : Gd h v) : Cal (n + 1) "is_integer" [v] h (.bl (isInt v)) := by
  refine call_same (fn := f_is_integer) rfl rfl (by decide) ?_
  rw [← int_alt]
  exact rt_ret (p_and (p_isi (p_var rfl) (k_int g)) fun _ => p_not (p_isi (p_var rfl) (k_bool g)))
theorem c_law_is_integer (g : Gd h v) : Cal (n + 1) "_law_is_integer" [v] h (.bl (isInt v)) := by
  refine call_same (fn := f__law_is_integer) rfl rfl (by decide) ?_
  rw [← int_alt]
  exact rt_ret (p_and (p_isi (p_var rfl) (k_int g)) fun _ => p_not (p_isi (p_var rfl) (k_bool g)))
def ge0 : PV → Bool | .int i => decide (0 ≤ i) | _ => false
theorem cnt_alt : (isInt v && ge0 v) = isCnt v := by cases v <;> rfl
theorem c_is_count (g : Gd h v) : Cal (n + 2) "is_count" [v] h (.bl (isCnt v)) := by
  refine call_same (fn := f_is_count) rfl rfl (by decide) ?_
  rw [← cnt_alt]
  refine rt_ret (p_and (p_call (p_cons (p_var rfl) p_nil) (c_is_integer g)) fun e => p_cmp (p_var rfl) p_int ?_)
  cases v with
  | int i => rfl
  | _ => cases e
theorem c_law_is_count (g : Gd h v) : Cal (n + 2) "_law_is_count" [v] h (.bl (isCnt v)) := by
  refine call_same (fn := f__law_is_count) rfl rfl (by decide) ?_
  rw [← cnt_alt]
  refine rt_ret (p_and (p_call (p_cons (p_var rfl) p_nil) (c_law_is_integer g)) fun e => p_cmp (p_var rfl) p_int ?_)
  cases v with
  | int i => rfl
  | _ => cases e
def lt8 : PV → Bool | .int i => decide (i < 8) | _ => false
def le7 : PV → Bool | .int i => decide (0 ≤ i) && decide (i ≤ 7) | _ => false
theorem reg_alt : (isCnt v && lt8 v) = isReg v := by cases v <;> rfl
theorem reg_alt2 : (isInt v && le7 v) = isReg v := by
  cases v with
  | int i =>
    have : decide (i ≤ 7) = decide (i < 8) := by rw [decide_eq_decide]; omega
    simp [isInt, le7, isReg, this]
  | _ => rfl
theorem c_is_register (g : Gd h v) : Cal (n + 3) "is_register" [v] h (.bl (isReg v)) := by
  refine call_same (fn := f_is_register) rfl rfl (by decide) ?_
  rw [← reg_alt]
  refine rt_ret (p_and (p_call (p_cons (p_var rfl) p_nil) (c_is_count g)) fun e => p_cmp (p_var rfl) (p_gl (v := .int 8) rfl) ?_)
  cases v with
  | int i => rfl
  | _ => cases e
theorem c_law_is_register (g : Gd h v) : Cal (n + 2) "_law_is_register" [v] h (.bl (isReg v)) := by
  refine call_same (fn := f__law_is_register) rfl rfl (by decide) ?_
  rw [← reg_alt2]
  refine rt_ret (p_and (p_call (p_cons (p_var rfl) p_nil) (c_law_is_integer g)) fun e => ?_)
  cases v with
  | int i => exact p_cmp2 p_int (p_var rfl) p_int rfl rfl
  | _ => cases e
end
end K20

end
section
set_option Elab.async false
set_option maxRecDepth 100000
set_option maxHeartbeats 1000000
set_option autoImplicit false
set_option linter.all false
/-! K20r: names. -/
namespace K20
open PySem Pv
def inL (c : Nat) : Bool := decide (97 ≤ c) && decide (c ≤ 122)
def inD (c : Nat) : Bool := decide (48 ≤ c) && decide (c ≤ 57)
def sg (c : Nat) : PV := .str ⟨#[c]⟩
def sgB (P : Nat → Bool) (v : PV) : Bool := match v with | .str s => (match s.cps.toList with | [c] => P c | _ => false) | _ => false
theorem sg_b {P : Nat → Bool} {c : Nat} : sgB P (sg c) = P c := rfl
theorem all_sg {P : Nat → Bool} (cs : List Nat) : (cs.map sg).all (sgB P) = cs.all P := by
  rw [List.all_map]
  rfl
theorem mem_letters (c : Nat) : decide (c ∈ ("abcdefghijklmnopqrstuvwxyz" : Str).cps.toList) = inL c := by
  have e : ("abcdefghijklmnopqrstuvwxyz" : Str).cps.toList = List.range' 97 26 := by decide +kernel
  rw [e]
  unfold inL
  rw [Bool.eq_iff_iff]
  simp [List.mem_range'_1]
  omega
theorem mem_digits (c : Nat) : decide (c ∈ ("0123456789" : Str).cps.toList) = inD c := by
  have e : ("0123456789" : Str).cps.toList = List.range' 48 10 := by decide +kernel
  rw [e]
  unfold inD
  rw [Bool.eq_iff_iff]
  simp [List.mem_range'_1]
  omega
theorem mem_both (c : Nat) : decide (c ∈ ("abcdefghijklmnopqrstuvwxyz0123456789" : Str).cps.toList) = (inL c || inD c) := by
  have e : ("abcdefghijklmnopqrstuvwxyz0123456789" : Str).cps.toList = List.range' 97 26 ++ List.range' 48 10 := by decide +kernel
  rw [e]
  unfold inL inD
  rw [Bool.eq_iff_iff]
  simp [List.mem_range'_1]
  omega
theorem lt_one {c d : Nat} : decide (([c] : List Nat) < [d]) = decide (c < d) := by
  rw [decide_eq_decide]
  constructor
  · intro h
    cases h with
    | rel h => exact h
    | cons h => cases h
  · exact fun h => List.Lex.rel h
theorem in_of {h : PH} {x y : PV} {b : Bool} (e : inPV h x y = some b) : cmpPV .isin h x y = some b := e
theorem notin_of {h : PH} {x y : PV} {b : Bool} (e : inPV h x y = some b) : cmpPV .notin h x y = some (!b) := by
  have : cmpPV .notin h x y = (inPV h x y).map not := by unfold cmpPV; rfl
  rw [this, e]
  rfl
theorem in_str {h : PH} {c : Nat} {z : Str} : inPV h (sg c) (.str z) = some (decide (c ∈ z.cps.toList)) := rfl
theorem le_az {h : PH} {c : Nat} {lo hi : Str} {a b : Nat} (h1 : lo.cps.toList = [a]) (h2 : hi.cps.toList = [b]) : cmpPV .le h (.str lo) (sg c) = some (!decide (c < a)) ∧ cmpPV .le h (sg c) (.str hi) = some (!decide (b < c)) := by
  constructor
  · show some (!decide (([c] : List Nat) < lo.cps.toList)) = _
    rw [h1, lt_one]
  · show some (!decide (hi.cps.toList < ([c] : List Nat))) = _
    rw [h2, lt_one]
theorem inL_alt {c : Nat} : (!decide (c < 97) && !decide (122 < c)) = inL c := by
  unfold inL
  rw [Bool.eq_iff_iff]
  simp
theorem inD_alt {c : Nat} : (!decide (c < 48) && !decide (57 < c)) = inD c := by
  unfold inD
  rw [Bool.eq_iff_iff]
  simp
def RES : List Str := ["after", "atmost", "before", "call", "else", "end", "fun", "give", "if", "is", "keep", "less", "module", "not", "result", "rising", "swap", "use", "while"]
def res (s : Str) : Bool := (RES.map PV.str).any fun y => PV.eqF y (.str s)
theorem flat_strs (l : List Str) : (l.map PV.str).all PV.flat = true := by
  rw [List.all_map]
  exact List.all_eq_true.mpr fun _ _ => rfl
theorem in_strs {h : PH} {s : Str} {l : List Str} : inPV h (.str s) (.tup (l.map .str)) = some ((l.map PV.str).any fun y => PV.eqF y (.str s)) := by
  show (if (PV.str s).flat && (l.map PV.str).all PV.flat then _ else _) = _
  rw [flat_strs]
  rfl
def lenOk (s : Str) : Bool := decide ((1 : Int) ≤ s.length) && decide ((s.length : Int) ≤ 8)
def headL (s : Str) : Bool := match s.cps.toList with | c :: _ => inL c | [] => false
def allN (s : Str) : Bool := s.cps.toList.all fun c => inL c || inD c
def nameS (s : Str) : Bool := lenOk s && (headL s && (allN s && !res s))
def isName : PV → Bool | .str s => nameS s | _ => false
theorem ix0 {h : PH} {s : Str} {c : Nat} {r : List Nat} (e : s.cps.toList = c :: r) (z : s.length ≤ 1000) : ixPV h (.str s) (.int 0) = some (sg c) := by
  show (if s.length ≤ SZ then (ixOf s.cps.toList.length 0).bind fun j => (s.cps.toList[j]?).map fun c => PV.str ⟨#[c]⟩ else none) = _
  rw [if_pos (Nat.le_trans z (by decide)), e]
  have : ixOf (c :: r).length 0 = some 0 := by simp [ixOf, L2.ixN]
  rw [this]
  rfl
theorem len_cs {s : Str} : s.length = s.cps.toList.length := by simp [Str.length]
theorem cs_of {s : Str} (h : lenOk s = true) : ∃ c r, s.cps.toList = c :: r := by
  unfold lenOk at h
  simp only [Bool.and_eq_true, decide_eq_true_eq] at h
  cases e : s.cps.toList with
  | nil => rw [len_cs, e] at h; simp at h
  | cons c r => exact ⟨c, r, rfl⟩
theorem len_le {s : Str} {h : PH} (z : s.length ≤ 1000) : lenPV h (.str s) = some s.length := by
  show (if s.length ≤ SZ then some s.length else none) = _
  rw [if_pos (Nat.le_trans z (by decide))]
theorem bind_one {i : Nat} {ρ : PEnv} {x : PV} : bindTg ρ (.one i) x = some (ρ.set i (some x)) := rfl
theorem turns_ok {k : Nat} (h : k ≤ 1000) : k < TURNS := Nat.lt_of_le_of_lt h (by decide)
section
variable {n : Nat} {h : PH} {v : PV}
theorem c_is_name (g : Gd h v) (bd : Bd h) : Cal (n + 1) "is_name" [v] h (.bl (isName v)) := by
  refine call_same (fn := f_is_name) rfl rfl (by decide) ?_
  unfold f_is_name
  cases g with
  | str s z cl =>
    have e1 : isName (.str s) = (!(!isS (.str s) || (!lenOk s || !headL s)) && (allN s && !res s)) := by
      have : ∀ a b c d : Bool, (a && (b && (c && !d))) = (!(!true || (!a || !b)) && (c && !d)) := by decide
      exact this _ _ _ _
    rw [e1]
    refine rt_guard (p_or (p_not (p_isi (p_var rfl) (k_str (.str s z cl)))) fun _ => p_or (p_not (p_cmp2 p_int (p_len (p_var rfl) (len_le z)) (p_gl (v := .int 8) rfl) rfl rfl)) fun e2 => ?_) fun e2 => ?_
    · obtain ⟨c, r, ec⟩ := cs_of (by simpa [lenOk] using e2)
      have e3 : (!headL s) = !decide (c ∈ ("abcdefghijklmnopqrstuvwxyz" : Str).cps.toList) := by
        unfold headL
        rw [ec, mem_letters]
      rw [e3]
      exact p_cmp (p_ix (p_var rfl) p_int (ix0 ec z)) (p_gl (v := .str "abcdefghijklmnopqrstuvwxyz") rfl) (notin_of in_str)
    · refine rt_ret (p_and ?_ fun _ => ?_)
      · have e4 : allN s = (s.cps.toList.map fun c => PV.str ⟨#[c]⟩).all (sgB fun c => inL c || inD c) := (all_sg _).symm
        rw [e4]
        obtain ⟨s1, s2⟩ := s_str (C := ⟨evCall tab gl n, gl⟩) (ρ := [some (PV.str s), none]) (h := h) (a := .var 0) (p_var rfl)
        refine p_all _ bd s1 s2 (turns_ok (by rw [List.length_map, ← len_cs]; exact z)) fun x hx => ⟨_, bind_one, ?_⟩
        obtain ⟨c, _, rfl⟩ := List.mem_map.mp hx
        have e5 : sgB (fun c => inL c || inD c) (.str ⟨#[c]⟩) = decide (c ∈ ("abcdefghijklmnopqrstuvwxyz0123456789" : Str).cps.toList) := (mem_both c).symm
        rw [e5]
        exact p_cmp (p_var rfl) (p_bin (x := .str "abcdefghijklmnopqrstuvwxyz") (y := .str "0123456789") (v := .str "abcdefghijklmnopqrstuvwxyz0123456789") (p_gl rfl) (p_gl rfl) (by rfl)) (in_of in_str)
      · exact p_cmp (p_var rfl) (p_gl (v := .tup (RES.map .str)) rfl) (notin_of in_strs)
  | _ => exact rt_guard (q := false) (p := true) (p_or (p := true) (q := true) (p_not (p := false) (p_isi (p_var rfl) (by first | rfl | exact k_str (.lst _ _ (by assumption)) | exact k_str (.dct _ _ (by assumption))))) fun e => nomatch e) fun e => nomatch e
end
end K20

end
section
set_option Elab.async false
set_option maxRecDepth 100000
set_option maxHeartbeats 1000000
set_option autoImplicit false
set_option linter.all false
/-! K20s: names, go on. -/
namespace K20
open PySem Pv
section
variable {C : Cl} {ρ : PEnv} {h : PH} {a : IE} {lo hi : IO} {x v : PV} {l u : Option Int}
theorem o_no : evO C .none ρ h = some (none, h) := rfl
theorem o_yes {i : Int} (e : Pe C ρ h a (.int i)) : evO C (.some a) ρ h = some (some i, h) := by
  unfold evO
  rw [e]
theorem p_sl (ha : Pe C ρ h a x) (hl : evO C lo ρ h = some (l, h)) (hu : evO C hi ρ h = some (u, h)) (e : slPV h x l u = some (v, h)) : Pe C ρ h (.sl a lo hi) v := by
  unfold Pe evE
  rw [ha]
  simp only
  rw [hl]
  simp only
  rw [hu]
  exact e
end
theorem cut_last {α : Type} {cs : List α} (h : cs ≠ []) : cutP cs none (some (-1)) = cs.dropLast := by
  have hl : 0 < cs.length := List.length_pos_iff.mpr h
  have e1 : HT.sIx cs.length 0 none = 0 := rfl
  have e2 : HT.sIx cs.length cs.length (some (-1)) = cs.length - 1 := by
    unfold HT.sIx
    simp
    omega
  unfold cutP
  rw [e1, e2, List.drop_zero, Nat.sub_zero, List.dropLast_eq_take]
theorem sg_lay {s : Str} {c : Nat} (h : (PyData.str s).canLay0 = true) (hc : c ∈ s.cps.toList) : (PyData.str ⟨#[c]⟩).canLay0 = true := by
  have e : PyData.strOk s = true := by simpa [PyData.canLay0] using h
  have e2 : PyData.strOk ⟨#[c]⟩ = true := by
    unfold PyData.strOk at e ⊢
    rw [← Array.all_toList] at e ⊢
    have := List.all_eq_true.mp e c hc
    simpa using this
  simpa [PyData.canLay0] using e2
section
variable {n : Nat} {h : PH} {v : PV}
theorem not_s (g : Gd h v) {n : Nat} {ρ : PEnv} {i : Nat} (e : ρ[i]? = some (some v)) : Pe ⟨evCall tab gl n, gl⟩ ρ h (.not (.isi (.var i) "str")) (.bl (!isS v)) := p_not (p_isi (p_var e) (k_str g))
theorem c_law_is_name (g : Gd h v) (bd : Bd h) : Cal (n + 1) "_law_is_name" [v] h (.bl (isName v)) := by
  refine call_same (fn := f__law_is_name) rfl rfl (by decide) ?_
  unfold f__law_is_name
  refine rt_asg (u := .tup (RES.map .str)) (p_tup (by repeat (first | exact p_nil | refine p_cons p_str ?_)) (by decide)) ?_
  cases hv : isS v with
  | true =>
    cases g with
    | str s z cl =>
      have e1 : isName (.str s) = (!(!isS (.str s) || (!lenOk s || (res s || !headL s))) && allN s) := by
        have : ∀ a b c d : Bool, (a && (b && (c && !d))) = (!(!true || (!a || (d || !b))) && c) := by decide
        exact this _ _ _ _
      rw [e1]
      refine rt_guard (p_or (not_s (.str s z cl) rfl) fun _ => p_or (p_not (p_cmp2 p_int (p_len (p_var rfl) (len_le z)) p_int rfl rfl)) fun e2 => p_or (p_cmp (p_var rfl) (p_var rfl) (in_of in_strs)) fun _ => ?_) fun e2 => ?_
      · obtain ⟨c, r, ec⟩ := cs_of (by simpa [lenOk] using e2)
        have e3 : headL s = (!decide (c < 97) && !decide (122 < c)) := by
          unfold headL
          rw [ec, inL_alt]
        rw [e3]
        have az := le_az (h := h) (c := c) (lo := "a") (hi := "z") (a := 97) (b := 122) (by decide +kernel) (by decide +kernel)
        exact p_not (p_cmp2 p_str (p_ix (p_var rfl) p_int (ix0 ec z)) p_str az.1 az.2)
      · have e4 : allN s = (s.cps.toList.map fun c => PV.str ⟨#[c]⟩).all fun x => !(sgB (fun c => !(inL c || inD c)) x) := by
          rw [List.all_map]
          unfold allN
          congr 1
          funext c
          show _ = !(!(inL c || inD c))
          rw [Bool.not_not]
        rw [e4]
        obtain ⟨s1, s2⟩ := s_str (C := ⟨evCall tab gl n, gl⟩) (ρ := [some (PV.str s), some (PV.tup (RES.map .str)), none]) (h := h) (a := .var 0) (p_var rfl)
        refine rt_ret (p_none _ id bd s1 s2 (turns_ok (by rw [List.length_map, ← len_cs]; exact z)) (fun x hx => ⟨_, bind_one, ?_, p_var rfl⟩) fun x hx => ?_)
        · obtain ⟨c, _, rfl⟩ := List.mem_map.mp hx
          have e5 : sgB (fun c => !(inL c || inD c)) (.str ⟨#[c]⟩) = !((!decide (c < 97) && !decide (122 < c)) || (!decide (c < 48) && !decide (57 < c))) := by rw [inL_alt, inD_alt]; rfl
          rw [e5]
          have az := le_az (h := h) (c := c) (lo := "a") (hi := "z") (a := 97) (b := 122) (by decide +kernel) (by decide +kernel)
          have dg := le_az (h := h) (c := c) (lo := "0") (hi := "9") (a := 48) (b := 57) (by decide +kernel) (by decide +kernel)
          exact p_not (p_or (p_cmp2 p_str (p_var rfl) p_str az.1 az.2) fun _ => p_cmp2 p_str (p_var rfl) p_str dg.1 dg.2)
        · obtain ⟨c, hc, rfl⟩ := List.mem_map.mp hx
          exact ⟨.str ⟨#[c]⟩, rfl, sg_lay cl hc⟩
    | _ => cases hv
  | false =>
    have e1 : isName v = (!(!isS v || true) && false) := by
      rw [hv]
      cases v <;> first | rfl | cases hv
    rw [e1]
    refine rt_guard (p_or (not_s g rfl) fun e => ?_) fun e => ?_
    · rw [hv] at e; cases e
    · rw [hv] at e; cases e

/-! ### told, own, cut -/
def isRs : PV → Bool | .str s => s == "result" | _ => false
def isTold (v : PV) : Bool := isName v || isRs v
theorem told_alt : (isName v || (isS v && isRs v)) = isTold v := by
  unfold isTold
  cases v <;> rfl
theorem told_alt2 : ((isS v && isRs v) || isName v) = isTold v := by
  unfold isTold
  rw [Bool.or_comm]
  cases v <;> rfl
theorem eq_rs (g : isS v = true) : cmpPV .eq h v (.str "result") = some (isRs v) := by
  cases v with
  | str s => rfl
  | _ => cases g
theorem c_is_told_name (g : Gd h v) (bd : Bd h) : Cal (n + 2) "is_told_name" [v] h (.bl (isTold v)) := by
  refine call_same (fn := f_is_told_name) rfl rfl (by decide) ?_
  rw [← told_alt]
  exact rt_ret (p_or (p_call (p_cons (p_var rfl) p_nil) (c_is_name g bd)) fun _ => p_and (p_isi (p_var rfl) (k_str g)) fun e => p_cmp (p_var rfl) p_str (eq_rs e))
theorem c_law_is_told_name (g : Gd h v) (bd : Bd h) : Cal (n + 2) "_law_is_told_name" [v] h (.bl (isTold v)) := by
  refine call_same (fn := f__law_is_told_name) rfl rfl (by decide) ?_
  rw [← told_alt2]
  exact rt_ret (p_or (p_and (p_isi (p_var rfl) (k_str g)) fun e => p_cmp (p_var rfl) p_str (eq_rs e)) fun _ => p_call (p_cons (p_var rfl) p_nil) (c_law_is_name g bd))

/-- two signs at least: the first, those between, the last -/
theorem parts {s : Str} (h : ¬ (s.length : Int) < 2) : ∃ c r l, s.cps.toList = (c :: r) ++ [l] := by
  have hl : 2 ≤ s.cps.toList.length := by rw [← len_cs]; omega
  have hne : s.cps.toList ≠ [] := fun z => by rw [z] at hl; simp at hl
  have e := List.dropLast_concat_getLast hne
  cases e2 : s.cps.toList.dropLast with
  | nil =>
    have : s.cps.toList.dropLast.length = 0 := by rw [e2]; rfl
    rw [List.length_dropLast] at this
    omega
  | cons c r => exact ⟨c, r, s.cps.toList.getLast hne, by rw [← e2]; exact e.symm⟩
def endAB (s : Str) : Bool := match s.cps.toList.getLast? with | some c => decide (c ∈ ("ab" : Str).cps.toList) | none => false
def iniD (s : Str) : Bool := s.cps.toList.dropLast.all inD
def hd0 (s : Str) : Bool := match s.cps.toList with | c :: _ => c == 48 | [] => false
def long2 (s : Str) : Bool := decide ((s.length : Int) < 2)
def two (s : Str) : Bool := (s.length : Int) == 2
def ownS (s : Str) : Bool := !long2 s && (endAB s && (iniD s && (!hd0 s || two s)))
def isOwn : PV → Bool | .str s => ownS s | _ => false
theorem ixL {s : Str} {c l : Nat} {r : List Nat} (e : s.cps.toList = (c :: r) ++ [l]) (z : s.length ≤ 1000) : ixPV h (.str s) (.int (-1)) = some (sg l) := by
  show (if s.length ≤ SZ then (ixOf s.cps.toList.length (-1)).bind fun j => (s.cps.toList[j]?).map fun c => PV.str ⟨#[c]⟩ else none) = _
  rw [if_pos (Nat.le_trans z (by decide)), e]
  have : ixOf ((c :: r) ++ [l]).length (-1) = some (r.length + 1) := by
    simp [ixOf, L2.ixN]
    omega
  rw [this]
  show (((c :: r) ++ [l])[r.length + 1]?).map _ = _
  rw [List.getElem?_append_right (by simp)]
  simp [sg]
theorem slL {s : Str} {c l : Nat} {r : List Nat} (e : s.cps.toList = (c :: r) ++ [l]) (z : s.length ≤ 1000) : slPV h (.str s) none (some (-1)) = some (.str ⟨(c :: r).toArray⟩, h) := by
  show (if s.length ≤ SZ then some (PV.str ⟨(cutP s.cps.toList none (some (-1))).toArray⟩, h) else none) = _
  rw [if_pos (Nat.le_trans z (by decide)), cut_last (by rw [e]; simp), e, List.dropLast_concat]
theorem own_alt {s : Str} : isOwn (.str s) = (!(!isS (.str s) || (long2 s || !endAB s)) && (iniD s && (!hd0 s || two s))) := by
  have : ∀ a b c : Bool, (!a && (b && c)) = (!(!true || (a || !b)) && c) := by decide
  exact this _ _ _
theorem eq_one {c d : Nat} {z : Str} (hz : z.cps.toList = [d]) : cmpPV .ne h (sg c) (.str z) = some (!(c == d)) := by
  show some (!((⟨#[c]⟩ : Str) == z)) = _
  congr 2
  rw [Bool.eq_iff_iff, beq_iff_eq, beq_iff_eq]
  constructor
  · intro e
    rw [← e] at hz
    simpa using hz
  · intro e
    subst e
    obtain ⟨a⟩ := z
    congr 1
    apply Array.ext'
    rw [hz]
theorem c_is_own_name (g : Gd h v) (bd : Bd h) : Cal (n + 1) "is_own_name" [v] h (.bl (isOwn v)) := by
  refine call_same (fn := f_is_own_name) rfl rfl (by decide) ?_
  unfold f_is_own_name
  cases hv : isS v with
  | true =>
    cases g with
    | str s z cl =>
      rw [own_alt]
      refine rt_guard (p_or (not_s (.str s z cl) rfl) fun _ => p_or (p_cmp (p_len (p_var rfl) (len_le z)) p_int rfl) fun e2 => ?_) fun e2 => ?_
      · obtain ⟨c, r, l, ec⟩ := parts (s := s) (by simpa [long2] using e2)
        have e3 : endAB s = decide (l ∈ ("ab" : Str).cps.toList) := by
          unfold endAB
          rw [ec, List.getLast?_concat]
        rw [e3]
        exact p_cmp (p_ix (p_var rfl) (p_neg p_int) (ixL ec z)) p_str (notin_of in_str)
      · have e4 : long2 s = false := by
          cases q : long2 s with
          | false => rfl
          | true => rw [q] at e2; simp [isS] at e2
        obtain ⟨c, r, l, ec⟩ := parts (s := s) (by simpa [long2] using e4)
        refine rt_ret (p_and ?_ fun _ => p_or ?_ fun _ => p_cmp (p_len (p_var rfl) (len_le z)) p_int rfl)
        · have e5 : iniD s = ((c :: r).map fun c => PV.str ⟨#[c]⟩).all (sgB inD) := by
            unfold iniD
            rw [ec, List.dropLast_concat]
            exact (all_sg (c :: r)).symm
          rw [e5]
          obtain ⟨s1, s2⟩ := s_str (C := ⟨evCall tab gl n, gl⟩) (ρ := [some (PV.str s), none]) (h := h) (a := .sl (.var 0) .none (.some (.neg (.con (.int 1))))) (p_sl (p_var rfl) o_no (o_yes (p_neg p_int)) (slL ec z))
          refine p_all _ bd s1 s2 (turns_ok ?_) fun x hx => ⟨_, bind_one, ?_⟩
          · rw [len_cs, ec] at z
            simp at z ⊢
            omega
          · obtain ⟨d, _, rfl⟩ := List.mem_map.mp hx
            have e6 : sgB inD (.str ⟨#[d]⟩) = decide (d ∈ ("0123456789" : Str).cps.toList) := (mem_digits d).symm
            rw [e6]
            exact p_cmp (p_var rfl) (p_gl (v := .str "0123456789") rfl) (in_of in_str)
        · have e7 : hd0 s = (c == 48) := by
            unfold hd0
            rw [ec]
            rfl
          rw [e7]
          exact p_cmp (p_ix (p_var rfl) p_int (ix0 (by rw [ec]; rfl) z)) p_str (eq_one (by decide +kernel))
    | _ => cases hv
  | false =>
    have e1 : isOwn v = (!(!isS v || true) && false) := by
      rw [hv]
      cases v <;> first | rfl | cases hv
    rw [e1]
    refine rt_guard (p_or (not_s g rfl) fun e => ?_) fun e => ?_
    · rw [hv] at e; cases e
    · rw [hv] at e; cases e
end
end K20

end
section
set_option Elab.async false
set_option maxRecDepth 100000
set_option maxHeartbeats 1000000
set_option autoImplicit false
set_option linter.all false
/-! K20t: names (end), tuples. -/
namespace K20
open PySem Pv
section
variable {n : Nat} {h : PH} {v : PV}
theorem c_law_is_own_name (g : Gd h v) (bd : Bd h) : Cal (n + 1) "_law_is_own_name" [v] h (.bl (isOwn v)) := by
  refine call_same (fn := f__law_is_own_name) rfl rfl (by decide) ?_
  unfold f__law_is_own_name
  cases hv : isS v with
  | true =>
    cases g with
    | str s z cl =>
      rw [own_alt]
      refine rt_guard (p_or (not_s (.str s z cl) rfl) fun _ => p_or (p_cmp (p_len (p_var rfl) (len_le z)) p_int rfl) fun e2 => ?_) fun e2 => ?_
      · obtain ⟨c, r, l, ec⟩ := parts (s := s) (by simpa [long2] using e2)
        have e3 : endAB s = decide (l ∈ ("ab" : Str).cps.toList) := by
          unfold endAB
          rw [ec, List.getLast?_concat]
        rw [e3]
        exact p_cmp (p_ix (p_var rfl) (p_neg p_int) (ixL ec z)) p_str (notin_of in_str)
      · have e4 : long2 s = false := by
          cases q : long2 s with
          | false => rfl
          | true => rw [q] at e2; simp [isS] at e2
        obtain ⟨c, r, l, ec⟩ := parts (s := s) (by simpa [long2] using e4)
        have zl : (c :: r).length ≤ 1000 := by
          rw [len_cs, ec] at z
          simp at z ⊢
          omega
        refine rt_asg (p_sl (p_var rfl) o_no (o_yes (p_neg p_int)) (slL ec z)) (rt_ret ?_)
        have e7 : hd0 s = (c == 48) := by
          unfold hd0
          rw [ec]
          rfl
        have e8 : (!hd0 s || two s) = (!(c == 48) || ((⟨(c :: r).toArray⟩ : Str) == "0")) := by
          rw [e7]
          cases q : c == 48 with
          | false => rfl
          | true =>
            have hc : c = 48 := by simpa using q
            subst hc
            unfold two
            rw [len_cs, ec]
            have e0 : ("0" : Str) = ⟨#[48]⟩ := by decide +kernel
            rw [e0]
            cases r with
            | nil => rfl
            | cons d r =>
              have a1 : (((48 :: d :: r ++ [l]).length : Nat) : Int) == 2 ↔ False := by simp; omega
              have a2 : ((⟨(48 :: d :: r).toArray⟩ : Str) == ⟨#[48]⟩) = false := by
                rw [beq_eq_false_iff_ne]
                intro z
                injection z with z
                have := congrArg Array.size z
                simp at this
              rw [a2]
              simp at a1 ⊢
              omega
        rw [e8]
        refine p_and ?_ fun _ => p_or ?_ fun _ => p_cmp (p_var rfl) p_str rfl
        · have e5 : iniD s = ((c :: r).map fun c => PV.str ⟨#[c]⟩).all fun x => !(sgB (fun c => !inD c) x) := by
            unfold iniD
            rw [ec, List.dropLast_concat, List.all_map]
            congr 1
            funext d
            show _ = !(!inD d)
            rw [Bool.not_not]
          rw [e5]
          obtain ⟨s1, s2⟩ := s_str (C := ⟨evCall tab gl n, gl⟩) (ρ := [some (PV.str s), some (PV.str ⟨(c :: r).toArray⟩), none]) (h := h) (a := .var 1) (p_var rfl)
          refine p_none _ id bd s1 s2 (turns_ok (by rw [List.length_map]; exact zl)) (fun x hx => ⟨_, bind_one, ?_, p_var rfl⟩) fun x hx => ?_
          · obtain ⟨d, _, rfl⟩ := List.mem_map.mp hx
            have e6 : sgB (fun c => !inD c) (.str ⟨#[d]⟩) = !decide (d ∈ ("0123456789" : Str).cps.toList) := by rw [mem_digits]; rfl
            rw [e6]
            exact p_cmp (p_var rfl) p_str (notin_of in_str)
          · obtain ⟨d, hd, rfl⟩ := List.mem_map.mp hx
            exact ⟨.str ⟨#[d]⟩, rfl, sg_lay cl (by rw [ec]; exact List.mem_append_left _ hd)⟩
        · exact p_cmp (p_ix (p_var rfl) p_int (ix0 (s := ⟨(c :: r).toArray⟩) rfl (by rw [len_cs]; exact zl))) p_str (eq_one (by decide +kernel))
    | _ => cases hv
  | false =>
    have e1 : isOwn v = (!(!isS v || true) && false) := by
      rw [hv]
      cases v <;> first | rfl | cases hv
    rw [e1]
    refine rt_guard (p_or (not_s g rfl) fun e => ?_) fun e => ?_
    · rw [hv] at e; cases e
    · rw [hv] at e; cases e
def isCut (v : PV) : Bool := isTold v || isOwn v
theorem c_is_cut_name (g : Gd h v) (bd : Bd h) : Cal (n + 3) "is_cut_name" [v] h (.bl (isCut v)) := by
  refine call_same (fn := f_is_cut_name) rfl rfl (by decide) ?_
  exact rt_ret (p_or (p_call (p_cons (p_var rfl) p_nil) (c_is_told_name g bd)) fun _ => p_call (p_cons (p_var rfl) p_nil) (c_is_own_name g bd))
theorem c_law_is_cut_name (g : Gd h v) (bd : Bd h) : Cal (n + 3) "_law_is_cut_name" [v] h (.bl (isCut v)) := by
  refine call_same (fn := f__law_is_cut_name) rfl rfl (by decide) ?_
  exact rt_ret (p_or (p_call (p_cons (p_var rfl) p_nil) (c_law_is_told_name g bd)) fun _ => p_call (p_cons (p_var rfl) p_nil) (c_law_is_own_name g bd))

/-! ### tuples -/
def lenT : PV → Nat | .tup xs => xs.length | _ => 0
def isSz (v : PV) (k : Int) : Bool := isT v && ((lenT v : Int) == k)
theorem len_t (g : isT v = true) : lenPV h v = some (lenT v) := by
  cases v with
  | tup xs => rfl
  | _ => cases g
theorem c_is_sized {k : Int} (g : Gd h v) : Cal (n + 1) "is_sized" [v, .int k] h (.bl (isSz v k)) := by
  refine call_same (fn := f_is_sized) rfl rfl (by decide) ?_
  exact rt_ret (p_and (p_isi (p_var rfl) (k_tup g)) fun e => p_cmp (p_len (p_var rfl) (len_t e)) (p_var rfl) rfl)
theorem c_law_is_sized {k : Int} (g : Gd h v) : Cal (n + 1) "_law_is_sized" [v, .int k] h (.bl (isSz v k)) := by
  refine call_same (fn := f__law_is_sized) rfl rfl (by decide) ?_
  exact rt_ret (p_and (p_isi (p_var rfl) (k_tup g)) fun e => p_cmp (p_len (p_var rfl) (len_t e)) (p_var rfl) rfl)
def its : PV → List PV | .tup xs => xs | _ => []
def it (v : PV) (i : Nat) : PV := (its v).getD i .non
theorem its_t (g : isT v = true) : v = .tup (its v) := by
  cases v with
  | tup xs => rfl
  | _ => cases g
theorem gd_its (g : Gd h v) : ∀ x ∈ its v, Gd h x ∧ Dat 20 h x := by
  intro x hx
  cases g with
  | tup xs z g d => exact ⟨g x hx, d x hx⟩
  | _ => cases hx
theorem its_len (g : Gd h v) : (its v).length ≤ 1000 := by
  cases g with
  | tup xs z g d => exact Nat.le_trans z (by decide)
  | _ => exact Nat.zero_le _
theorem its_len5 (g : Gd h v) : (its v).length ≤ 500 := by
  cases g with
  | tup xs z g d => exact z
  | _ => exact Nat.zero_le _
theorem it_mem {i : Nat} (hi : i < (its v).length) : it v i ∈ its v := by
  unfold it
  rw [List.getD_eq_getElem?_getD, List.getElem?_eq_getElem hi]
  exact List.getElem_mem hi
theorem ix_it {i : Nat} (g : isT v = true) (hi : i < (its v).length) : ixPV h v (.int i) = some (it v i) := by
  rw [its_t g]
  show (ixOf (its v).length i).bind (fun j => (its v)[j]?) = some (it (.tup (its v)) i)
  have : ixOf (its v).length i = some i := by simp [ixOf, L2.ixN, hi]
  rw [this]
  show (its v)[i]? = some ((its v).getD i .non)
  rw [List.getD_eq_getElem?_getD, List.getElem?_eq_getElem hi]
  rfl
theorem lenT_its : lenT v = (its v).length := by cases v <;> rfl
theorem sz_lt {k : Nat} (g : isSz v k = true) : isT v = true ∧ (its v).length = k := by
  unfold isSz at g
  rw [Bool.and_eq_true] at g
  refine ⟨g.1, ?_⟩
  have h2 := g.2
  rw [beq_iff_eq, lenT_its] at h2
  omega
/-- the i-th of a tuple of k -/
theorem at_it {k i : Nat} (gd : Gd h v) (g : isSz v k = true) (hi : i < k) : ixPV h v (.int i) = some (it v i) ∧ Gd h (it v i) := by
  obtain ⟨h1, h2⟩ := sz_lt g
  have h3 : i < (its v).length := by omega
  exact ⟨ix_it h1 h3, (gd_its gd _ (it_mem h3)).1⟩
def tupOf (P : PV → Bool) (v : PV) : Bool := isT v && (its v).all P
theorem c_is_tuple_of {f : Str} (P : PV → Bool) (g : Gd h v) (bd : Bd h) (hf : ∀ x ∈ its v, Cal n f [x] h (.bl (P x))) : Cal (n + 1) "is_tuple_of" [v, .fn f] h (.bl (tupOf P v)) := by
  refine call_same (fn := f_is_tuple_of) rfl rfl (by decide) ?_
  refine rt_ret (p_and (p_isi (p_var rfl) (k_tup g)) fun e => ?_)
  obtain ⟨s1, s2⟩ := s_it (C := ⟨evCall tab gl n, gl⟩) (ρ := [some v, some (.fn f), none]) (h := h) (a := .var 0) (xs := its v) (by rw [← its_t e]; exact p_var rfl)
  refine p_all P bd s1 s2 (turns_ok (its_len g)) fun x hx => ⟨_, bind_one, p_callV (p_var rfl) (p_cons (p_var rfl) p_nil) (hf x hx)⟩
def lenGe (v : PV) (k : Int) : Bool := decide (k ≤ (lenT v : Int))
theorem c_law_are {srt : Str} {k : Int} (P : PV → Bool) (g : Gd h v) (bd : Bd h) (hf : ∀ x ∈ its v, Cal n "_law_is_of" [x, .str srt] h (.bl (P x))) : Cal (n + 1) "_law_are" [v, .str srt, .int k] h (.bl (isT v && (lenGe v k && (its v).all P))) := by
  refine call_same (fn := f__law_are) rfl rfl (by decide) ?_
  refine rt_ret (p_and (p_isi (p_var rfl) (k_tup g)) fun e => p_and (p_cmp (p_len (p_var rfl) (len_t e)) (p_var rfl) rfl) fun _ => ?_)
  obtain ⟨s1, s2⟩ := s_it (C := ⟨evCall tab gl n, gl⟩) (ρ := [some v, some (.str srt), some (.int k), none]) (h := h) (a := .var 0) (xs := its v) (by rw [← its_t e]; exact p_var rfl)
  have e1 : (its v).all P = (its v).all fun x => !(!P x) := by
    congr 1
    funext x
    rw [Bool.not_not]
  rw [e1]
  exact p_none (fun x => !P x) id bd s1 s2 (turns_ok (its_len g)) (fun x hx => ⟨_, bind_one, p_not (p_call (p_cons (p_var rfl) (p_cons (p_var rfl) p_nil)) (hf x hx)), p_var rfl⟩) fun x hx => (gd_its g x hx).2.ups 3
def isKey (v : PV) : Bool := isSz v 2 && (isName (it v 0) && isName (it v 1))
theorem c_is_key (g : Gd h v) (bd : Bd h) : Cal (n + 2) "is_key" [v] h (.bl (isKey v)) := by
  refine call_same (fn := f_is_key) rfl rfl (by decide) ?_
  refine rt_ret (p_and (p_call (p_cons (p_var rfl) (p_cons p_int p_nil)) (c_is_sized g)) fun e => ?_)
  obtain ⟨a1, a2⟩ := at_it (i := 0) g e (by decide)
  obtain ⟨b1, b2⟩ := at_it (i := 1) g e (by decide)
  exact p_and (p_call (p_cons (p_ix (p_var rfl) p_int a1) p_nil) (c_is_name a2 bd)) fun _ => p_call (p_cons (p_ix (p_var rfl) p_int b1) p_nil) (c_is_name b2 bd)
end
end K20

end
section
set_option Elab.async false
set_option maxRecDepth 100000
set_option maxHeartbeats 1000000
set_option autoImplicit false
set_option linter.all false
/-! K20u: pairs, rising, the forms. -/
namespace K20
open PySem Pv

/-! ### pairs -/
def prs (xs ys : List PV) : List PV := (xs.zip ys).map fun p => .tup [p.1, p.2]
def zAt (a b : Option PV) : Option (Option PV) := match a, b with
  | some x, some y => some (some (.tup [x, y]))
  | _, _ => some none
theorem zAt_prs : ∀ (i : Nat) (xs ys : List PV), zAt xs[i]? ys[i]? = some (prs xs ys)[i]?
  | 0, [], _ => rfl
  | 0, _ :: _, [] => rfl
  | 0, _ :: _, _ :: _ => rfl
  | i + 1, [], _ => rfl
  | i + 1, x :: xs, [] => by
    show zAt xs[i]? none = some none
    cases xs[i]? <;> rfl
  | i + 1, x :: xs, y :: ys => zAt_prs i xs ys
section
variable {C : Cl} {ρ : PEnv} {h : PH} {a b : IE} {xs ys : List PV}
theorem zip_at (i : Nat) : svAt h (.zip (.fix xs) (.fix ys)) i = some (prs xs ys)[i]? := by
  rw [← zAt_prs]
  show (match some xs[i]?, some ys[i]? with
    | some (some x), some (some y) => some (some (PV.tup [x, y]))
    | some none, some _ => some none
    | some (some _), some none => some none
    | _, _ => none) = _
  cases xs[i]? <;> cases ys[i]? <;> rfl
theorem s_zip (ha : Pe C ρ h a (.tup xs)) (hb : Pe C ρ h b (.tup ys)) : evS C (.zip a b) ρ h = some (.zip (.fix xs) (.fix ys), h) := by
  unfold evS
  rw [ha]
  simp only
  rw [hb]
  rfl
theorem sl_from1 {v : PV} (g : isT v = true) : slPV h v (some 1) none = some (.tup ((its v).drop 1), h) := by
  rw [its_t g]
  show some (PV.tup (cutP (its v) (some 1) none), h) = _
  have e1 : HT.sIx (its v).length 0 (some 1) = min 1 (its v).length := HT.sIx_nat _ _ 1
  unfold cutP
  rw [e1]
  show some (PV.tup (((its v).drop (min 1 (its v).length)).take ((its v).length - min 1 (its v).length)), h) = some (PV.tup ((its v).drop 1), h)
  congr 3
  cases its v with
  | nil => rfl
  | cons x xs => simp
theorem bind_two {i j : Nat} {x y : PV} {ρ : PEnv} : bindTg ρ (.tup [i, j]) (.tup [x, y]) = some ((ρ.set i (some x)).set j (some y)) := rfl
end
def ltS : PV → PV → Bool | .str a, .str b => decide (a.cps.toList < b.cps.toList) | _, _ => false
def ltP : PV → Bool | .tup [a, b] => ltS a b | _ => false
def rises (v : PV) : Bool := (prs (its v) ((its v).drop 1)).all ltP
section
variable {n : Nat} {h : PH} {v : PV}
theorem mem_prs {xs ys : List PV} {p : PV} (hp : p ∈ prs xs ys) : ∃ x y, p = .tup [x, y] ∧ x ∈ xs ∧ y ∈ ys := by
  obtain ⟨q, hq, rfl⟩ := List.mem_map.mp hp
  exact ⟨q.1, q.2, rfl, (List.of_mem_zip hq).1, (List.of_mem_zip hq).2⟩
theorem prs_len {xs ys : List PV} : (prs xs ys).length ≤ xs.length := by
  unfold prs
  rw [List.length_map, List.length_zip]
  omega
theorem lt_pv {x y : PV} (hx : isS x = true) (hy : isS y = true) : cmpPV .lt h x y = some (ltS x y) := by
  cases x with
  | str a =>
    cases y with
    | str b => rfl
    | _ => cases hy
  | _ => cases hx
theorem c_are_rising (g : Gd h v) (bd : Bd h) (t : isT v = true) (hs : ∀ x ∈ its v, isS x = true) : Cal (n + 1) "are_rising" [v] h (.bl (rises v)) := by
  refine call_same (fn := f_are_rising) rfl rfl (by decide) ?_
  unfold rises
  refine rt_ret (p_all ltP bd (s_zip (by rw [← its_t t]; exact p_var rfl) (p_sl (p_var rfl) (o_yes p_int) o_no (sl_from1 t))) zip_at (turns_ok (Nat.le_trans prs_len (its_len g))) fun p hp => ?_)
  obtain ⟨x, y, rfl, hx, hy⟩ := mem_prs hp
  exact ⟨_, bind_two, p_cmp (p_var rfl) (p_var rfl) (lt_pv (hs x hx) (hs y (List.mem_of_mem_drop hy)))⟩
theorem c_law_rises_up (g : Gd h v) (bd : Bd h) (t : isT v = true) (hs : ∀ x ∈ its v, isS x = true) : Cal (n + 1) "_law_rises_up" [v] h (.bl (rises v)) := by
  refine call_same (fn := f__law_rises_up) rfl rfl (by decide) ?_
  have e1 : rises v = (prs (its v) ((its v).drop 1)).all fun x => !(!ltP x) := by
    unfold rises
    congr 1
    funext x
    rw [Bool.not_not]
  rw [e1]
  refine rt_ret (p_none (fun x => !ltP x) (fun _ => .int 1) bd (s_zip (by rw [← its_t t]; exact p_var rfl) (p_sl (p_var rfl) (o_yes p_int) o_no (sl_from1 t))) zip_at (turns_ok (Nat.le_trans prs_len (its_len g))) (fun p hp => ?_) fun _ _ => ⟨.int 1, rfl, rfl⟩)
  obtain ⟨x, y, rfl, hx, hy⟩ := mem_prs hp
  exact ⟨_, bind_two, p_not (p_cmp (p_var rfl) (p_var rfl) (lt_pv (hs x hx) (hs y (List.mem_of_mem_drop hy)))), p_int⟩

/-! ### rows of names -/
theorem tup_of {P : PV → Bool} (e : tupOf P v = true) : isT v = true ∧ ∀ x ∈ its v, P x = true := by
  unfold tupOf at e
  rw [Bool.and_eq_true] at e
  exact ⟨e.1, List.all_eq_true.mp e.2⟩
theorem name_s {x : PV} (e : isName x = true) : isS x = true := by cases x <;> first | rfl | cases e
theorem told_s {x : PV} (e : isTold x = true) : isS x = true := by cases x <;> first | rfl | cases e
theorem cut_s {x : PV} (e : isCut x = true) : isS x = true := by cases x <;> first | rfl | cases e
theorem c_names (g : Gd h v) (bd : Bd h) : Cal (n + 2) "is_tuple_of" [v, .fn "is_name"] h (.bl (tupOf isName v)) :=
  c_is_tuple_of isName g bd fun x hx => c_is_name (gd_its g x hx).1 bd
def isNames (v : PV) : Bool := tupOf isName v && rises v
theorem c_is_names (g : Gd h v) (bd : Bd h) : Cal (n + 3) "is_names" [v] h (.bl (isNames v)) := by
  refine call_same (fn := f_is_names) rfl rfl (by decide) ?_
  refine rt_ret (p_and (p_call (p_cons (p_var rfl) (p_cons (p_gl (v := .fn "is_name") rfl) p_nil)) (c_names g bd)) fun e => ?_)
  obtain ⟨t, a⟩ := tup_of e
  exact p_call (p_cons (p_var rfl) p_nil) (c_are_rising g bd t fun x hx => name_s (a x hx))
def isCutT (v : PV) : Bool := tupOf isCut v && rises v
theorem c_is_cut (g : Gd h v) (bd : Bd h) : Cal (n + 5) "is_cut" [v] h (.bl (isCutT v)) := by
  refine call_same (fn := f_is_cut) rfl rfl (by decide) ?_
  refine rt_ret (p_and (p_call (p_cons (p_var rfl) (p_cons (p_gl (v := .fn "is_cut_name") rfl) p_nil)) (c_is_tuple_of isCut g bd fun x hx => c_is_cut_name (gd_its g x hx).1 bd)) fun e => ?_)
  obtain ⟨t, a⟩ := tup_of e
  exact p_call (p_cons (p_var rfl) p_nil) (c_are_rising g bd t fun x hx => cut_s (a x hx))
def len26 (v : PV) : Bool := decide ((2 : Int) ≤ lenT v) && decide ((lenT v : Int) ≤ 6)
def isArgs (v : PV) : Bool := tupOf isName v && len26 v
theorem c_is_args (g : Gd h v) (bd : Bd h) : Cal (n + 3) "is_args" [v] h (.bl (isArgs v)) := by
  refine call_same (fn := f_is_args) rfl rfl (by decide) ?_
  refine rt_ret (p_and (p_call (p_cons (p_var rfl) (p_cons (p_gl (v := .fn "is_name") rfl) p_nil)) (c_names g bd)) fun e => ?_)
  obtain ⟨t, a⟩ := tup_of e
  exact p_cmp2 (p_gl (v := .int 2) rfl) (p_len (p_var rfl) (len_t t)) (p_gl (v := .int 6) rfl) rfl rfl
theorem c_is_row (g : Gd h v) (bd : Bd h) : Cal (n + 3) "is_row" [v] h (.bl (tupOf isInt v)) := by
  refine call_same (fn := f_is_row) rfl rfl (by decide) ?_
  exact rt_ret (p_call (p_cons (p_var rfl) (p_cons (p_gl (v := .fn "is_integer") rfl) p_nil)) (c_is_tuple_of isInt g bd fun x hx => c_is_integer (gd_its g x hx).1))
def isGive (v : PV) : Bool := tupOf isName v && decide ((lenT v : Int) ≤ 1)
theorem c_is_give (g : Gd h v) (bd : Bd h) : Cal (n + 3) "is_give" [v] h (.bl (isGive v)) := by
  refine call_same (fn := f_is_give) rfl rfl (by decide) ?_
  refine rt_ret (p_and (p_call (p_cons (p_var rfl) (p_cons (p_gl (v := .fn "is_name") rfl) p_nil)) (c_names g bd)) fun e => ?_)
  obtain ⟨t, a⟩ := tup_of e
  exact p_cmp (p_len (p_var rfl) (len_t t)) p_int rfl
def isGap (v : PV) : Bool := match v with | .int i => decide (1 ≤ i) && decide (i ≤ 3) | _ => false
def le3 (v : PV) : Bool := match v with | .int i => decide (1 ≤ i) && decide (i ≤ 3) | _ => false
theorem gap_alt : (isCnt v && le3 v) = isGap v := by
  cases v with
  | int i =>
    show (decide (0 ≤ i) && (decide (1 ≤ i) && decide (i ≤ 3))) = (decide (1 ≤ i) && decide (i ≤ 3))
    rw [Bool.eq_iff_iff]
    simp
    omega
  | _ => rfl
theorem c_is_gap (g : Gd h v) : Cal (n + 3) "is_gap" [v] h (.bl (isGap v)) := by
  refine call_same (fn := f_is_gap) rfl rfl (by decide) ?_
  rw [← gap_alt]
  refine rt_ret (p_and (p_call (p_cons (p_var rfl) p_nil) (c_is_count g)) fun e => ?_)
  cases v with
  | int i => exact p_cmp2 p_int (p_var rfl) p_int rfl rfl
  | _ => cases e
def isKnown (v : PV) : Bool := match v with | .int i => decide (0 ≤ i) && decide (i ≤ 2) | _ => false
def le2 (v : PV) : Bool := match v with | .int i => decide (i ≤ 2) | _ => false
theorem known_alt : (isCnt v && le2 v) = isKnown v := by cases v <;> rfl
theorem c_is_known (g : Gd h v) : Cal (n + 3) "is_known" [v] h (.bl (isKnown v)) := by
  refine call_same (fn := f_is_known) rfl rfl (by decide) ?_
  rw [← known_alt]
  refine rt_ret (p_and (p_call (p_cons (p_var rfl) p_nil) (c_is_count g)) fun e => ?_)
  cases v with
  | int i => exact p_cmp (p_var rfl) p_int rfl
  | _ => cases e
theorem c_is_known_row (g : Gd h v) (bd : Bd h) : Cal (n + 5) "is_known_row" [v] h (.bl (tupOf isKnown v)) := by
  refine call_same (fn := f_is_known_row) rfl rfl (by decide) ?_
  exact rt_ret (p_call (p_cons (p_var rfl) (p_cons (p_gl (v := .fn "is_known") rfl) p_nil)) (c_is_tuple_of isKnown g bd fun x hx => c_is_known (gd_its g x hx).1))

/-! ### memories -/
def isTold2 (v : PV) : Bool := isSz v 2 && (isCut (it v 0) && isCnt (it v 1))
theorem c_is_told (g : Gd h v) (bd : Bd h) : Cal (n + 4) "is_told" [v] h (.bl (isTold2 v)) := by
  refine call_same (fn := f_is_told) rfl rfl (by decide) ?_
  refine rt_ret (p_and (p_call (p_cons (p_var rfl) (p_cons p_int p_nil)) (c_is_sized g)) fun e => ?_)
  obtain ⟨a1, a2⟩ := at_it (i := 0) g e (by decide)
  obtain ⟨b1, b2⟩ := at_it (i := 1) g e (by decide)
  exact p_and (p_call (p_cons (p_ix (p_var rfl) p_int a1) p_nil) (c_is_cut_name a2 bd)) fun _ => p_call (p_cons (p_ix (p_var rfl) p_int b1) p_nil) (c_is_count b2)
def isMem (v : PV) : Bool := isSz v 2 && (tupOf isInt (it v 0) && tupOf isTold2 (it v 1))
theorem c_is_memory_form (g : Gd h v) (bd : Bd h) : Cal (n + 6) "is_memory_form" [v] h (.bl (isMem v)) := by
  refine call_same (fn := f_is_memory_form) rfl rfl (by decide) ?_
  refine rt_ret (p_and (p_call (p_cons (p_var rfl) (p_cons p_int p_nil)) (c_is_sized g)) fun e => ?_)
  obtain ⟨a1, a2⟩ := at_it (i := 0) g e (by decide)
  obtain ⟨b1, b2⟩ := at_it (i := 1) g e (by decide)
  exact p_and (p_call (p_cons (p_ix (p_var rfl) p_int a1) p_nil) (c_is_row a2 bd)) fun _ => p_call (p_cons (p_ix (p_var rfl) p_int b1) (p_cons (p_gl (v := .fn "is_told") rfl) p_nil)) (c_is_tuple_of isTold2 b2 bd fun x hx => c_is_told (gd_its b2 x hx).1 bd)

/-! ### worlds -/
def isWorld (v : PV) : Bool := isSz v 3 && (tupOf isCutT (it v 0) && (tupOf isGap (it v 1) && tupOf (tupOf isKnown) (it v 2)))
theorem world_alt {a b c d : Bool} : (a && (b && (c && d))) = (!(!a || (!b || !c)) && d) := by revert a b c d; decide
theorem c_is_world_form (g : Gd h v) (bd : Bd h) : Cal (n + 7) "is_world_form" [v] h (.bl (isWorld v)) := by
  refine call_same (fn := f_is_world_form) rfl rfl (by decide) ?_
  unfold isWorld
  rw [world_alt]
  refine rt_guard (p_or (p_not (p_call (p_cons (p_var rfl) (p_cons p_int p_nil)) (c_is_sized g))) fun e => p_or (p_not ?_) fun _ => p_not ?_) fun e => rt_ret ?_
  · have e' : isSz v 3 = true := by simpa using e
    obtain ⟨a1, a2⟩ := at_it (i := 0) g e' (by decide)
    exact p_call (p_cons (p_ix (p_var rfl) p_int a1) (p_cons (p_gl (v := .fn "is_cut") rfl) p_nil)) (c_is_tuple_of isCutT a2 bd fun x hx => c_is_cut (gd_its a2 x hx).1 bd)
  · have e' : isSz v 3 = true := by simpa using e
    obtain ⟨a1, a2⟩ := at_it (i := 1) g e' (by decide)
    exact p_call (p_cons (p_ix (p_var rfl) p_int a1) (p_cons (p_gl (v := .fn "is_gap") rfl) p_nil)) (c_is_tuple_of isGap a2 bd fun x hx => c_is_gap (gd_its a2 x hx).1)
  · have e1 : isSz v 3 = true := by
      cases q : isSz v 3 with
      | true => rfl
      | false => rw [q] at e; simp at e
    obtain ⟨a1, a2⟩ := at_it (i := 2) g e1 (by decide)
    exact p_call (p_cons (p_ix (p_var rfl) p_int a1) (p_cons (p_gl (v := .fn "is_known_row") rfl) p_nil)) (c_is_tuple_of (tupOf isKnown) a2 bd fun x hx => c_is_known_row (gd_its a2 x hx).1 bd)
end
end K20

end
section
set_option Elab.async false
set_option maxRecDepth 100000
set_option maxHeartbeats 1000000
set_option autoImplicit false
set_option linter.all false
/-! K20v: words; more objects. -/
namespace K20
open PySem Pv

/-! ### more objects -/
theorem bds_up {n m : Nat} (h : n ≤ m) : (∀ (v : PV), v.bd n = true → v.bd m = true) ∧ ∀ (vs : List PV), PV.bds n vs = true → PV.bds m vs = true := by
  have key : ∀ k : Nat, (∀ v : PV, sizeOf v ≤ k → v.bd n = true → v.bd m = true) ∧ ∀ vs : List PV, sizeOf vs ≤ k → PV.bds n vs = true → PV.bds m vs = true := by
    intro k
    induction k with
    | zero =>
      refine ⟨fun v z => ?_, fun vs z => ?_⟩
      · cases v <;> simp at z
      · cases vs <;> simp at z
    | succ k ih =>
      refine ⟨fun v z b => ?_, fun vs z b => ?_⟩
      · cases v with
        | ref p =>
          have : p < n := of_decide_eq_true b
          exact decide_eq_true (by omega)
        | tup xs => exact ih.2 xs (by simp at z; omega) b
        | rol xs => exact ih.2 xs (by simp at z; omega) b
        | _ => rfl
      · cases vs with
        | nil => rfl
        | cons x xs =>
          have b' : (PV.bd n x && PV.bds n xs) = true := b
          rw [Bool.and_eq_true] at b'
          show (PV.bd m x && PV.bds m xs) = true
          rw [ih.1 x (by simp at z; omega) b'.1, ih.2 xs (by simp at z; omega) b'.2]
          rfl
  exact ⟨fun v => (key (sizeOf v)).1 v (Nat.le_refl _), fun vs => (key (sizeOf vs)).2 vs (Nat.le_refl _)⟩
theorem po_up {n m : Nat} (h : n ≤ m) {o : PO} (b : o.bd n = true) : o.bd m = true := by
  cases o with
  | lst xs => exact (bds_up h).2 xs b
  | dct kvs => exact (bds_up h).2 _ b
  | set xs => exact (bds_up h).2 xs b
theorem Bd.snoc {h : PH} {o : PO} (b : Bd h) (bo : o.bd (h.length + 1) = true) : Bd (h ++ [o]) := by
  unfold Bd
  rw [List.length_append, List.all_append]
  have : h.all (PO.bd (h.length + [o].length)) = true := List.all_eq_true.mpr fun x hx => po_up (by simp) (List.all_eq_true.mp b x hx)
  rw [this]
  simpa using bo
section
variable {h g : PH} {v : PV}
theorem Gd.app (x : Gd h v) : Gd (h ++ g) v := by
  induction x with
  | non => exact .non
  | bl b => exact .bl b
  | int i => exact .int i
  | str s z c => exact .str s z c
  | tup xs z _ d ih => exact .tup xs z ih fun x hx => (d x hx).app
  | lst p xs e => exact .lst p xs (by rw [List.getElem?_append_left (List.getElem?_eq_some_iff.mp e).1]; exact e)
  | dct p xs e => exact .dct p xs (by rw [List.getElem?_append_left (List.getElem?_eq_some_iff.mp e).1]; exact e)
theorem last_at {o : PO} : (h ++ [o])[h.length]? = some o := by
  rw [List.getElem?_append_right (Nat.le_refl _)]
  simp
end
section
variable {C : Cl} {ρ : PEnv} {h h' : PH} {a b : IE} {es : ITs} {r : Option (Fl × PH)} {c : IE} {ta tb : ITs} {v u : PV}
theorem rt_skip (hc : Pe C ρ h c (.bl false)) (hr : evTs C es ρ h = r) : evTs C (.cons (.ite c ta .nil) es) ρ h = r := by
  unfold evTs evT
  rw [hc]
  exact hr
theorem rt_take (hc : Pe C ρ h c (.bl true)) (hr : evTs C ta ρ h = some (.rt v, h')) : evTs C (.cons (.ite c ta tb) es) ρ h = some (.rt v, h') := by
  unfold evTs evT
  rw [hc]
  show (match evTs C ta ρ h with | some (.nx ρ, h) => evTs C es ρ h | r => r) = _
  rw [hr]
theorem rt_asgG {i : Nat} (he : evE C a ρ h = some (u, h')) (hr : evTs C es (ρ.set i (some u)) h' = r) : evTs C (.cons (.asg i a) es) ρ h = r := by
  unfold evTs evT
  rw [he]
  exact hr
theorem rt_retG (he : evE C a ρ h = some (v, h')) : evTs C (.cons (.ret a) es) ρ h = some (.rt v, h') := by
  unfold evTs evT
  rw [he]
end

/-! ### words -/
def isWd (ws : List Str) : PV → Bool | .str s => (ws.map PV.str).any fun y => PV.eqF y (.str s) | _ => false
section
variable {n : Nat} {h : PH} {v : PV}
theorem wd_alt {ws : List Str} : (isS v && isWd ws v) = isWd ws v := by cases v <;> rfl
theorem c_is_word {ws : List Str} (g : Gd h v) : Cal (n + 1) "is_word" [v, .tup (ws.map .str)] h (.bl (isWd ws v)) := by
  refine call_same (fn := f_is_word) rfl rfl (by decide) ?_
  rw [← wd_alt]
  refine rt_ret (p_and (p_isi (p_var rfl) (k_str g)) fun e => ?_)
  cases v with
  | str s => exact p_cmp (p_var rfl) (p_var rfl) (in_of in_strs)
  | _ => cases e
def ORD : List Str := ["same", "ahead", "upto"]
def AB : List Str := ["atmost", "below"]
def isOrder (v : PV) : Bool := isSz v 3 && (isWd ORD (it v 0) && (isTold (it v 1) && isTold (it v 2)))
theorem c_is_order (g : Gd h v) (bd : Bd h) : Cal (n + 3) "is_order" [v] h (.bl (isOrder v)) := by
  refine call_same (fn := f_is_order) rfl rfl (by decide) ?_
  refine rt_ret (p_and (p_call (p_cons (p_var rfl) (p_cons p_int p_nil)) (c_is_sized g)) fun e => ?_)
  obtain ⟨a1, a2⟩ := at_it (i := 0) g e (by decide)
  obtain ⟨b1, b2⟩ := at_it (i := 1) g e (by decide)
  obtain ⟨d1, d2⟩ := at_it (i := 2) g e (by decide)
  exact p_and (p_call (p_cons (p_ix (p_var rfl) p_int a1) (p_cons (p_gl (v := .tup (ORD.map .str)) rfl) p_nil)) (c_is_word a2)) fun _ => p_and (p_call (p_cons (p_ix (p_var rfl) p_int b1) p_nil) (c_is_told_name b2 bd)) fun _ => p_call (p_cons (p_ix (p_var rfl) p_int d1) p_nil) (c_is_told_name d2 bd)
def len12 (v : PV) : Bool := decide ((1 : Int) ≤ lenT v) && decide ((lenT v : Int) ≤ 2)
def isStr2 (v : PV) : Bool := tupOf isTold v && len12 v
theorem c_is_stretch (g : Gd h v) (bd : Bd h) : Cal (n + 4) "is_stretch" [v] h (.bl (isStr2 v)) := by
  refine call_same (fn := f_is_stretch) rfl rfl (by decide) ?_
  refine rt_ret (p_and (p_call (p_cons (p_var rfl) (p_cons (p_gl (v := .fn "is_told_name") rfl) p_nil)) (c_is_tuple_of isTold g bd fun x hx => c_is_told_name (gd_its g x hx).1 bd)) fun e => ?_)
  obtain ⟨t, a⟩ := tup_of e
  exact p_cmp2 p_int (p_len (p_var rfl) (len_t t)) p_int rfl rfl
def isFact (v : PV) : Bool := isSz v 3 && (if isWd AB (it v 0) then isStr2 (it v 1) && isStr2 (it v 2) else isWd ["rising"] (it v 0) && (isTold (it v 1) && isTold (it v 2)))
theorem c_is_fact (g : Gd h v) (bd : Bd h) : Cal (n + 5) "is_fact" [v] h (.bl (isFact v)) := by
  refine call_same (fn := f_is_fact) rfl rfl (by decide) ?_
  have e0 : isFact v = (!(!isSz v 3) && (if isWd AB (it v 0) then isStr2 (it v 1) && isStr2 (it v 2) else isWd ["rising"] (it v 0) && (isTold (it v 1) && isTold (it v 2)))) := by
    unfold isFact
    rw [Bool.not_not]
  rw [e0]
  refine rt_guard (p_not (p_call (p_cons (p_var rfl) (p_cons p_int p_nil)) (c_is_sized g))) fun e => ?_
  have e' : isSz v 3 = true := by simpa using e
  obtain ⟨a1, a2⟩ := at_it (i := 0) g e' (by decide)
  obtain ⟨b1, b2⟩ := at_it (i := 1) g e' (by decide)
  obtain ⟨d1, d2⟩ := at_it (i := 2) g e' (by decide)
  refine rt_if (p_call (p_cons (p_ix (p_var rfl) p_int a1) (p_cons (p_tup (vs := AB.map .str) (p_cons p_str (p_cons p_str p_nil)) (by decide)) p_nil)) (c_is_word a2)) (fun e2 => ?_) (fun _ => rfl) fun e2 => ?_
  · rw [if_pos e2]
    exact rt_ret (p_and (p_call (p_cons (p_ix (p_var rfl) p_int b1) p_nil) (c_is_stretch b2 bd)) fun _ => p_call (p_cons (p_ix (p_var rfl) p_int d1) p_nil) (c_is_stretch d2 bd))
  · rw [e2, if_neg Bool.false_ne_true]
    exact rt_ret (p_and (p_call (p_cons (p_ix (p_var rfl) p_int a1) (p_cons (p_tup (vs := (["rising"] : List Str).map .str) (p_cons p_str p_nil) (by decide)) p_nil)) (c_is_word a2)) fun _ => p_and (p_call (p_cons (p_ix (p_var rfl) p_int b1) p_nil) (c_is_told_name b2 bd)) fun _ => p_call (p_cons (p_ix (p_var rfl) p_int d1) p_nil) (c_is_told_name d2 bd))
def isSay (v : PV) : Bool := isSz v 2 && (tupOf isOrder (it v 0) && tupOf isFact (it v 1))
theorem c_is_saying_form (g : Gd h v) (bd : Bd h) : Cal (n + 7) "is_saying_form" [v] h (.bl (isSay v)) := by
  refine call_same (fn := f_is_saying_form) rfl rfl (by decide) ?_
  refine rt_ret (p_and (p_call (p_cons (p_var rfl) (p_cons p_int p_nil)) (c_is_sized g)) fun e => ?_)
  obtain ⟨a1, a2⟩ := at_it (i := 0) g e (by decide)
  obtain ⟨b1, b2⟩ := at_it (i := 1) g e (by decide)
  exact p_and (p_call (p_cons (p_ix (p_var rfl) p_int a1) (p_cons (p_gl (v := .fn "is_order") rfl) p_nil)) (c_is_tuple_of isOrder a2 bd fun x hx => c_is_order (gd_its a2 x hx).1 bd)) fun _ => p_call (p_cons (p_ix (p_var rfl) p_int b1) (p_cons (p_gl (v := .fn "is_fact") rfl) p_nil)) (c_is_tuple_of isFact b2 bd fun x hx => c_is_fact (gd_its b2 x hx).1 bd)
end
end K20

end
section
set_option Elab.async false
set_option maxRecDepth 100000
set_option maxHeartbeats 1000000
set_option autoImplicit false
set_option linter.all false
/-! K20w: the law's own look: sorts and words. -/
namespace K20
open PySem Pv
section
variable {C : Cl} {ρ : PEnv} {h : PH} {a b : IE} {xs ys : List PV} {v : PV}
theorem zip_atL {q : Nat} (hq : h[q]? = some (.lst ys)) (i : Nat) : svAt h (.zip (.fix xs) (.lst q)) i = some (prs xs ys)[i]? := by
  rw [← zAt_prs]
  show (match some xs[i]?, (match h[q]? with | some (.lst xs) => some xs[i]? | _ => none) with
    | some (some x), some (some y) => some (some (PV.tup [x, y]))
    | some none, some _ => some none
    | some (some _), some none => some none
    | _, _ => none) = _
  rw [hq]
  simp only
  cases xs[i]? <;> cases ys[i]? <;> rfl
theorem s_zipL {q : Nat} (hq : h[q]? = some (.lst ys)) (ha : Pe C ρ h a (.tup xs)) (hb : Pe C ρ h b (.ref q)) : evS C (.zip a b) ρ h = some (.zip (.fix xs) (.lst q), h) := by
  unfold evS
  rw [ha]
  simp only
  rw [hb]
  show (match some (SV.fix xs), (match h[q]? with | some (.lst _) => some (SV.lst q) | _ => none) with
    | some s, some t => some (SV.zip s t, h)
    | _, _ => none) = _
  rw [hq]
theorem ix_dct {p : Nat} {kvs : List (L2.Key × PV)} {s : Str} {x : PV} (hp : h[p]? = some (.dct kvs)) (e : getK kvs (.inr s) = some x) : ixPV h (.ref p) (.str s) = some x := by
  show (match h[p]? with
      | some (.lst xs) => none
      | some (.dct kvs) => (keyV (.str s)).bind fun k => getK kvs k
      | _ => none) = _
  rw [hp]
  exact e
theorem in_dct {p : Nat} {kvs : List (L2.Key × PV)} {s : Str} (hp : h[p]? = some (.dct kvs)) : inPV h (.str s) (.ref p) = some (getK kvs (.inr s)).isSome := by
  show (match h[p]? with
    | some (.lst ys) => if (PV.str s).flat && ys.all PV.flat then some (ys.any fun y => PV.eqF y (.str s)) else none
    | some (.dct kvs) => (match keyV (.str s) with
      | some k => some (getK kvs k).isSome
      | none => none)
    | _ => none) = _
  rw [hp]
  rfl
theorem e_split {z : Str} {ss : List Str} (ha : Pe C ρ h a (.str z)) (hz : z.length + 2 ≤ SZ) (e : Txt.words z = ss) : evE C (.split a) ρ h = some (.ref h.length, h ++ [.lst (ss.map .str)]) := by
  unfold evE
  rw [ha]
  show (if z.length + 2 ≤ SZ then some (newO (.lst ((Txt.words z).map .str)) h) else none) = _
  rw [if_pos hz, e]
  rfl
theorem eq_nilT (g : Gd h v) (t : isT v = true) : cmpPV .eq h v (.tup []) = some (its v).isEmpty := by
  have d : Dat 24 h v := by
    rw [its_t t]
    exact (Dat.tup (k := 20) fun x hx => (gd_its g x hx).2).ups 3
  rw [its_t t] at d ⊢
  obtain ⟨ds, e1, e2⟩ := d
  have e3 : ∃ es, ds = .tuple es ∧ es.length = (its v).length := by
    have e' : ((its v).mapM (toD 23 h)).map PyData.tuple = some ds := by simpa [toD] using e1
    obtain ⟨es, e4, rfl⟩ := Option.map_eq_some_iff.mp e'
    refine ⟨es, rfl, ?_⟩
    clear e1 e2 e'
    generalize its v = l at e4
    induction l generalizing es with
    | nil => cases e4; rfl
    | cons x xs ih =>
      obtain ⟨y, r, rfl, _, e5⟩ := mapM_cons_some e4
      rw [List.length_cons, List.length_cons, ih r e5]
  obtain ⟨es, rfl, e5⟩ := e3
  show (match toD DD h (.tup (its v)), toD DD h (.tup []) with
    | some d, some e => if d.canLay0 && e.canLay0 then some (PyData.eqv d e) else none
    | _, _ => none) = _
  rw [show toD DD h (.tup (its v)) = some (.tuple es) from e1, show toD DD h (.tup []) = some (.tuple []) from rfl]
  simp only
  rw [if_pos (by rw [e2]; rfl)]
  show some (PyData.eqv (.tuple es) (.tuple [])) = some (its (.tup (its v))).isEmpty
  cases es with
  | nil =>
    have : its v = [] := List.eq_nil_of_length_eq_zero e5.symm
    rw [this]
    rfl
  | cons d ds =>
    cases q : its v with
    | nil => rw [q] at e5; simp at e5
    | cons x xs => rfl
end
section
variable {n : Nat} {h : PH} {v : PV} {p : Nat} {W : List (L2.Key × PV)}
/-- what stands ahead of the words -/
def wdG (W : List (L2.Key × PV)) (v : PV) : Bool := isT v && (!(its v).isEmpty && (isS (it v 0) && (match it v 0 with | .str s => (getK W (.inr s)).isSome | _ => false)))
theorem guard4 {a b c d : Bool} : (!a || (b || (!c || !d))) = !(a && (!b && (c && d))) := by revert a b c d; decide
/-- the guard's value -/
theorem p_guard {C : Cl} {ρ : PEnv} (hp : h[p]? = some (.dct W)) (g : Gd h v) (h0 : ρ[0]? = some (some v)) (h1 : ρ[1]? = some (some (.ref p))) :
    Pe C ρ h (.or (.not (.isi (.var 0) "tuple")) (.or (.cmp .eq (.var 0) (.tup .nil)) (.or (.not (.isi (.ix (.var 0) (.con (.int 0))) "str")) (.cmp .notin (.ix (.var 0) (.con (.int 0))) (.var 1))))) (.bl (!wdG W v)) := by
  unfold wdG
  rw [← guard4]
  refine p_or (p_not (p_isi (p_var h0) (k_tup g))) fun e1 => p_or (p_cmp (p_var h0) (p_tup p_nil (by decide)) (eq_nilT g (by simpa using e1))) fun e2 => ?_
  have t : isT v = true := by simpa using e1
  have ne : 0 < (its v).length := by
    cases q : its v with
    | nil => rw [q] at e2; cases e2
    | cons x xs => simp
  have a1 := ix_it (h := h) t ne
  have a2 := (gd_its g _ (it_mem ne)).1
  refine p_or (p_not (p_isi (p_ix (p_var h0) p_int a1) (k_str a2))) fun e3 => p_cmp (p_ix (p_var h0) p_int a1) (p_var h1) ?_
  cases q : it v 0 with
  | str s => exact notin_of (in_dct hp)
  | _ => rw [q] at e3; cases e3
theorem c_worded_no (hp : h[p]? = some (.dct W)) (g : Gd h v) (no : wdG W v = false) : Cal (n + 1) "_law_is_worded" [v, .ref p] h (.bl false) := by
  refine call_same (fn := f__law_is_worded) rfl rfl (by decide) ?_
  have pg := p_guard (C := ⟨evCall tab gl n, gl⟩) (ρ := [some v, some (.ref p), none, none, none]) hp g rfl rfl
  rw [no] at pg
  exact rt_take pg (rt_ret p_bl)
theorem c_worded_yes {w z : Str} {ss : List Str} (Q : PV → Bool) (hp : h[p]? = some (.dct W)) (g : Gd h v) (bd : Bd h) (t : isT v = true) (ne : (its v).isEmpty = false) (e0 : it v 0 = .str w) (eW : getK W (.inr w) = some (.str z)) (zl : z.length + 2 ≤ SZ) (ez : Txt.words z = ss)
    (hf : ∀ pr ∈ prs ((its v).drop 1) (ss.map .str), ∃ x s, pr = .tup [x, .str s] ∧ Cal n "_law_is_of" [x, .str s] (h ++ [.lst (ss.map .str)]) (.bl (Q pr))) :
    Cal (n + 1) "_law_is_worded" [v, .ref p] h (.bl (((lenT v : Int) == (ss.length : Int) + 1) && (prs ((its v).drop 1) (ss.map .str)).all Q)) := by
  have bd' : Bd (h ++ [.lst (ss.map PV.str)]) := Bd.snoc bd (by
    show PV.bds _ (ss.map PV.str) = true
    clear ez hf
    induction ss with
    | nil => rfl
    | cons s ss ih => exact ih)
  have hne : 0 < (its v).length := by
    cases q : its v with
    | nil => rw [q] at ne; cases ne
    | cons x xs => simp
  have yes : wdG W v = true := by
    unfold wdG
    rw [t, ne, e0]
    simp [isS, eW]
  have pg := p_guard (C := ⟨evCall tab gl n, gl⟩) (ρ := [some v, some (.ref p), none, none, none]) hp g rfl rfl
  rw [yes] at pg
  refine call_app (g := [.lst (ss.map .str)]) (fn := f__law_is_worded) rfl rfl (by decide) bd rfl ?_
  have a1 := ix_it (h := h) t hne
  rw [show ((0 : Nat) : Int) = 0 from rfl, e0] at a1
  refine rt_skip pg (rt_asgG (e_split (p_ix (p_var rfl) (p_ix (p_var rfl) p_int a1) (ix_dct hp eW)) zl ez) ?_)
  refine rt_ret (p_and (p_cmp (p_len (p_var rfl) (len_t t)) (p_bin (x := .int ss.length) (y := .int 1) (v := .int ((ss.length : Int) + 1)) (p_len (n := ss.length) (p_var rfl) ?_) p_int rfl) rfl) fun _ => ?_)
  · show (PH.ls (h ++ [.lst (ss.map PV.str)]) h.length).map List.length = _
    rw [ls_new]
    show some (ss.map PV.str).length = _
    rw [List.length_map]
  · have e1 : (prs ((its v).drop 1) (ss.map .str)).all Q = (prs ((its v).drop 1) (ss.map .str)).all fun x => !(!Q x) := by
      congr 1
      funext x
      rw [Bool.not_not]
    rw [e1]
    have s1 := s_zipL (C := ⟨evCall tab gl n, gl⟩) (ρ := [some v, some (.ref p), some (.ref h.length), none, none]) (a := .sl (.var 0) (.some (.con (.int 1))) .none) (b := .var 2) (last_at (h := h) (o := .lst (ss.map PV.str))) (p_sl (p_var rfl) (o_yes p_int) o_no (sl_from1 t)) (p_var rfl)
    refine p_none (fun x => !Q x) (fun _ => .int 1) bd' s1 (zip_atL last_at) (turns_ok (Nat.le_trans prs_len ?_)) (fun pr hpr => ?_) fun _ _ => ⟨.int 1, rfl, rfl⟩
    · rw [List.length_drop]
      have := its_len g
      omega
    · obtain ⟨x, s, rfl, c⟩ := hf pr hpr
      exact ⟨_, bind_two, p_not (p_call (p_cons (p_var rfl) (p_cons (p_var rfl) p_nil)) c), p_int⟩

/-! ### sorts -/
def PL : List (L2.Key × PV) := mrg [] (((["n", "N", "c", "r"] : List Str).map Sum.inr).zip [.fn "_law_is_name", .fn "_law_is_told_name", .fn "_law_is_count", .fn "_law_is_register"])
theorem e_pl {ρ : PEnv} {n : Nat} : evE ⟨evCall tab gl n, gl⟩ (.dct ["n", "N", "c", "r"] (.cons (.gl "_law_is_name") (.cons (.gl "_law_is_told_name") (.cons (.gl "_law_is_count") (.cons (.gl "_law_is_register") .nil))))) ρ h = some (.ref h.length, h ++ [.dct PL]) := by
  unfold evE
  rw [show evEs ⟨evCall tab gl n, gl⟩ (.cons (.gl "_law_is_name") (.cons (.gl "_law_is_told_name") (.cons (.gl "_law_is_count") (.cons (.gl "_law_is_register") .nil)))) ρ h = some ([.fn "_law_is_name", .fn "_law_is_told_name", .fn "_law_is_count", .fn "_law_is_register"], h) from p_cons (p_gl rfl) (p_cons (p_gl rfl) (p_cons (p_gl rfl) (p_cons (p_gl rfl) p_nil)))]
  rfl
theorem bd_pl (b : Bd h) : Bd (h ++ [.dct PL]) := Bd.snoc b rfl
theorem pl_n : getK PL (.inr "n") = some (.fn "_law_is_name") := by rfl
end
end K20

end
section
set_option Elab.async false
set_option maxRecDepth 100000
set_option maxHeartbeats 1000000
set_option autoImplicit false
set_option linter.all false
/-! K20x: the sorts. -/
namespace K20
open PySem Pv
section
variable {C : Cl} {ρ : PEnv} {h : PH} {i : Nat} {s t : Str} {l : List Str} {es : IEs} {b : Bool}
theorem q_eq (hv : ρ[i]? = some (some (.str s))) (e : (s == t) = b) : Pe C ρ h (.cmp .eq (.var i) (.con (.str t))) (.bl b) := p_cmp (p_var hv) p_str (by rw [← e]; rfl)
theorem q_in2 {t u : Str} (hv : ρ[i]? = some (some (.str s))) (e : ([t, u].any fun y => y == s) = b) : Pe C ρ h (.cmp .isin (.var i) (.tup (.cons (.con (.str t)) (.cons (.con (.str u)) .nil)))) (.bl b) :=
  p_cmp (p_var hv) (p_tup (vs := [t, u].map .str) (p_cons p_str (p_cons p_str p_nil)) (by show 2 ≤ SZ; decide)) (by
    rw [in_of in_strs, ← e, List.any_map]
    rfl)
theorem q_pl {q : Nat} {j : Nat} (hv : ρ[i]? = some (some (.str s))) (hj : ρ[j]? = some (some (.ref q))) (hq : h[q]? = some (.dct PL)) (e : (getK PL (.inr s)).isSome = b) : Pe C ρ h (.cmp .isin (.var i) (.var j)) (.bl b) :=
  p_cmp (p_var hv) (p_var hj) (by rw [in_of (in_dct hq), e])
end
section
variable {n : Nat} {h : PH} {v : PV}
theorem of_plain {s f : Str} {b : Bool} (bd : Bd h) (e : getK PL (.inr s) = some (.fn f)) (c : Cal n f [v] (h ++ [PO.dct PL]) (.bl b)) : Cal (n + 1) "_law_is_of" [v, .str s] h (.bl b) := by
  refine call_app (g := [PO.dct PL]) (fn := f__law_is_of) rfl rfl (by decide) bd rfl ?_
  refine rt_asgG e_pl (rt_take (q_pl rfl rfl last_at (by rw [e]; rfl)) (rt_ret ?_))
  exact p_callV (p_ix (p_var rfl) (p_var rfl) (ix_dct last_at e)) (p_cons (p_var rfl) p_nil) c
theorem of_n (g : Gd h v) (bd : Bd h) : Cal (n + 2) "_law_is_of" [v, .str "n"] h (.bl (isName v)) := of_plain bd rfl (c_law_is_name g.app (bd_pl bd))
theorem of_N (g : Gd h v) (bd : Bd h) : Cal (n + 3) "_law_is_of" [v, .str "N"] h (.bl (isTold v)) := of_plain bd rfl (c_law_is_told_name g.app (bd_pl bd))
theorem of_k (g : Gd h v) (bd : Bd h) : Cal (n + 2) "_law_is_of" [v, .str "k"] h (.bl (isKey v)) := by
  refine call_app (g := [PO.dct PL]) (fn := f__law_is_of) rfl rfl (by decide) bd rfl ?_
  refine rt_asgG e_pl (rt_skip (q_pl rfl rfl last_at (by rfl)) (rt_skip (q_in2 rfl (by decide +kernel)) (rt_take (q_eq rfl (by decide +kernel)) (rt_ret ?_))))
  have g' := g.app (g := [PO.dct PL])
  have bd' := bd_pl bd
  refine p_and (p_call (p_cons (p_var rfl) (p_cons p_int p_nil)) (c_law_is_sized g')) fun e => ?_
  obtain ⟨a1, a2⟩ := at_it (i := 0) g' e (by decide)
  obtain ⟨b1, b2⟩ := at_it (i := 1) g' e (by decide)
  exact p_and (p_call (p_cons (p_ix (p_var rfl) p_int a1) p_nil) (c_law_is_name a2 bd')) fun _ => p_call (p_cons (p_ix (p_var rfl) p_int b1) p_nil) (c_law_is_name b2 bd')
theorem are_T {P : PV → Bool} {k : Int} : (isT v && (lenGe v k && (its v).all P)) = (tupOf P v && lenGe v k) := by
  unfold tupOf
  cases isT v <;> cases lenGe v k <;> cases (its v).all P <;> rfl
theorem args_alt : ((isT v && (lenGe v 2 && (its v).all isName)) && decide ((lenT v : Int) ≤ 6)) = isArgs v := by
  rw [are_T]
  unfold isArgs len26 lenGe
  rw [Bool.and_assoc]
theorem of_args (g : Gd h v) (bd : Bd h) : Cal (n + 4) "_law_is_of" [v, .str "args"] h (.bl (isArgs v)) := by
  refine call_app (g := [PO.dct PL]) (fn := f__law_is_of) rfl rfl (by decide) bd rfl ?_
  refine rt_asgG e_pl (rt_skip (q_pl rfl rfl last_at (by rfl)) (rt_skip (q_in2 rfl (by decide +kernel)) (rt_skip (q_eq rfl (by decide +kernel)) (rt_take (q_in2 rfl (by decide +kernel)) (rt_ret ?_)))))
  have g' := g.app (g := [PO.dct PL])
  have bd' := bd_pl bd
  rw [← args_alt]
  refine p_and (p_call (p_cons (p_var rfl) (p_cons (p_ite (v := .str "n") (q_eq (b := true) rfl (by decide +kernel)) (fun _ => p_str) fun e => nomatch e) (p_cons p_int p_nil))) (c_law_are isName g' bd' fun x hx => of_n (gd_its g' x hx).1 bd')) fun e => ?_
  have t : isT v = true := by
    rw [Bool.and_eq_true] at e
    exact e.1
  exact p_cmp (p_len (p_var rfl) (len_t t)) p_int rfl
theorem lot_alt : ((isT v && (lenGe v 1 && (its v).all isTold)) && decide ((lenT v : Int) ≤ 2)) = isStr2 v := by
  rw [are_T]
  unfold isStr2 len12 lenGe
  rw [Bool.and_assoc]
theorem of_lot (g : Gd h v) (bd : Bd h) : Cal (n + 5) "_law_is_of" [v, .str "lot"] h (.bl (isStr2 v)) := by
  refine call_app (g := [PO.dct PL]) (fn := f__law_is_of) rfl rfl (by decide) bd rfl ?_
  refine rt_asgG e_pl (rt_skip (q_pl rfl rfl last_at (by rfl)) (rt_skip (q_in2 rfl (by decide +kernel)) (rt_skip (q_eq rfl (by decide +kernel)) (rt_skip (q_in2 rfl (by decide +kernel)) (rt_skip (q_eq rfl (by decide +kernel)) (rt_skip (q_eq rfl (by decide +kernel)) (rt_skip (q_eq rfl (by decide +kernel))
    (rt_skip (q_in2 rfl (by decide +kernel)) (rt_take (q_eq rfl (by decide +kernel)) (rt_ret ?_))))))))))
  have g' := g.app (g := [PO.dct PL])
  have bd' := bd_pl bd
  rw [← lot_alt]
  refine p_and (p_call (p_cons (p_var rfl) (p_cons p_str (p_cons p_int p_nil))) (c_law_are isTold g' bd' fun x hx => of_N (gd_its g' x hx).1 bd')) fun e => ?_
  have t : isT v = true := by
    rw [Bool.and_eq_true] at e
    exact e.1
  exact p_cmp (p_len (p_var rfl) (len_t t)) p_int rfl

/-! ### places and facts -/
def WP : List (L2.Key × PV) := mrg [] (((["same", "ahead", "upto"] : List Str).map Sum.inr).zip [.str "N N", .str "N N", .str "N N"])
def WF : List (L2.Key × PV) := mrg [] (((["rising", "atmost", "below"] : List Str).map Sum.inr).zip [.str "N N", .str "lot lot", .str "lot lot"])
theorem words_place : evCall tab gl (n + 1) "_law_words" [.str "place"] h = some (.ref h.length, h ++ [.dct WP]) := by
  rw [call_def (fn := f__law_words) (v := .ref h.length) (h' := h ++ [.dct WP]) rfl rfl (by decide) (rt_take (q_eq rfl (by decide +kernel)) (rt_retG ?_))]
  · unfold trim
    rw [if_neg]
    rw [show PV.bd h.length (.ref h.length) = false from decide_eq_false (Nat.lt_irrefl _)]
    simp
  · unfold evE
    rw [show evEs ⟨evCall tab gl n, gl⟩ (.cons (.con (.str "N N")) (.cons (.con (.str "N N")) (.cons (.con (.str "N N")) .nil))) _ h = some ([.str "N N", .str "N N", .str "N N"], h) from p_cons p_str (p_cons p_str (p_cons p_str p_nil))]
    rfl
theorem words_fact : evCall tab gl (n + 1) "_law_words" [.str "fact"] h = some (.ref h.length, h ++ [.dct WF]) := by
  rw [call_def (fn := f__law_words) (v := .ref h.length) (h' := h ++ [.dct WF]) rfl rfl (by decide) (rt_skip (q_eq rfl (by decide +kernel)) (rt_take (q_eq rfl (by decide +kernel)) (rt_retG ?_)))]
  · unfold trim
    rw [if_neg]
    rw [show PV.bd h.length (.ref h.length) = false from decide_eq_false (Nat.lt_irrefl _)]
    simp
  · unfold evE
    rw [show evEs ⟨evCall tab gl n, gl⟩ (.cons (.con (.str "N N")) (.cons (.con (.str "lot lot")) (.cons (.con (.str "lot lot")) .nil))) _ h = some ([.str "N N", .str "lot lot", .str "lot lot"], h) from p_cons p_str (p_cons p_str (p_cons p_str p_nil))]
    rfl
/-- three words, then the look at them -/
theorem of_worded {s : Str} {W : List (L2.Key × PV)} {b : Bool} (bd : Bd h) (n1 : (getK PL (.inr s)).isSome = false) (n2 : (["n?", "r?"].any fun y => y == s) = false) (n3 : (s == "k") = false) (n4 : (["args", "regs"].any fun y => y == s) = false) (n5 : (s == "test") = false) (n6 : (s == "less") = false) (n7 : (s == "body") = false)
    (n8 : (["saying", "plain"].any fun y => y == s) = false) (n9 : (s == "lot") = false) (hW : evCall tab gl n "_law_words" [.str s] (h ++ [PO.dct PL]) = some (.ref (h ++ [PO.dct PL]).length, (h ++ [PO.dct PL]) ++ [PO.dct W]))
    (c : Cal n "_law_is_worded" [v, .ref (h ++ [PO.dct PL]).length] ((h ++ [PO.dct PL]) ++ [PO.dct W]) (.bl b)) : Cal (n + 1) "_law_is_of" [v, .str s] h (.bl b) := by
  refine call_app (g := [PO.dct PL, PO.dct W]) (fn := f__law_is_of) rfl rfl (by decide) bd rfl ?_
  refine rt_asgG e_pl (rt_skip (q_pl rfl rfl last_at n1) (rt_skip (q_in2 rfl n2) (rt_skip (q_eq rfl n3) (rt_skip (q_in2 rfl n4) (rt_skip (q_eq rfl n5) (rt_skip (q_eq rfl n6) (rt_skip (q_eq rfl n7) (rt_skip (q_in2 rfl n8) (rt_skip (q_eq rfl n9) (rt_retG ?_))))))))))
  have e1 : evE ⟨evCall tab gl n, gl⟩ (.call "_law_words" (.cons (.var 1) .nil)) [some v, some (.str s), some (.ref h.length), none] (h ++ [PO.dct PL]) = some (.ref (h ++ [PO.dct PL]).length, (h ++ [PO.dct PL]) ++ [PO.dct W]) := by
    unfold evE
    rw [show evEs ⟨evCall tab gl n, gl⟩ (.cons (.var 1) .nil) [some v, some (.str s), some (.ref h.length), none] (h ++ [PO.dct PL]) = some ([.str s], h ++ [PO.dct PL]) from p_cons (p_var rfl) p_nil]
    exact hW
  have e2 : evEs ⟨evCall tab gl n, gl⟩ (.cons (.var 0) (.cons (.call "_law_words" (.cons (.var 1) .nil)) .nil)) [some v, some (.str s), some (.ref h.length), none] (h ++ [PO.dct PL]) = some ([v, .ref (h ++ [PO.dct PL]).length], (h ++ [PO.dct PL]) ++ [PO.dct W]) := by
    unfold evEs
    rw [show evE ⟨evCall tab gl n, gl⟩ (.var 0) [some v, some (.str s), some (.ref h.length), none] (h ++ [PO.dct PL]) = some (v, h ++ [PO.dct PL]) from p_var rfl]
    simp only
    unfold evEs
    rw [e1]
    rfl
  unfold evE
  show (match evEs ⟨evCall tab gl n, gl⟩ (.cons (.var 0) (.cons (.call "_law_words" (.cons (.var 1) .nil)) .nil)) [some v, some (.str s), some (.ref h.length), none] (h ++ [PO.dct PL]) with | some (vs, h) => evCall tab gl n "_law_is_worded" vs h | none => none) = _
  rw [e2]
  show evCall tab gl n "_law_is_worded" [v, .ref (h ++ [PO.dct PL]).length] ((h ++ [PO.dct PL]) ++ [PO.dct W]) = _
  rw [c, List.append_assoc]
  rfl
end
end K20

end
section
set_option Elab.async false
set_option maxRecDepth 100000
set_option maxHeartbeats 1000000
set_option autoImplicit false
set_option linter.all false
/-! K20y: places, facts, sayings. -/
namespace K20
open PySem Pv
def get3 (a b c : Str) (x y z : PV) (w : Str) : Option PV := if a = w then some x else if b = w then some y else if c = w then some z else none
theorem getK3 {a b c w : Str} {x y z : PV} : getK [(.inr a, x), (.inr b, y), (.inr c, z)] (.inr w) = get3 a b c x y z w := by
  unfold getK get3
  simp only [List.find?_cons, Sum.inr.injEq]
  by_cases h1 : a = w
  · simp [h1]
  · by_cases h2 : b = w
    · simp [h1, h2]
    · by_cases h3 : c = w
      · simp [h1, h2, h3]
      · simp [h1, h2, h3]
theorem any3 {a b c w : Str} : isWd [a, b, c] (.str w) = (decide (a = w) || (decide (b = w) || decide (c = w))) := by
  show (a == w || (b == w || (c == w || false))) = _
  rw [Bool.or_false]
  rfl
theorem any2 {a b w : Str} : isWd [a, b] (.str w) = (decide (a = w) || decide (b = w)) := by
  show (a == w || (b == w || false)) = _
  rw [Bool.or_false]
  rfl
theorem any1 {a w : Str} : isWd [a] (.str w) = decide (a = w) := by
  show (a == w || false) = _
  rw [Bool.or_false]
  rfl
theorem wp_get {w : Str} : getK WP (.inr w) = get3 "same" "ahead" "upto" (.str "N N") (.str "N N") (.str "N N") w := by
  rw [← getK3]
  rfl
theorem wf_get {w : Str} : getK WF (.inr w) = get3 "rising" "atmost" "below" (.str "N N") (.str "lot lot") (.str "lot lot") w := by
  rw [← getK3]
  rfl
def fst2 (P : PV → Bool) : PV → Bool | .tup [x, _] => P x | _ => false
theorem two_all {P : PV → Bool} {v : PV} {s : PV} (t : isT v = true) : (((lenT v : Int) == (2 : Nat) + 1) && (prs ((its v).drop 1) [s, s]).all (fst2 P)) = (isSz v 3 && (P (it v 1) && P (it v 2))) := by
  unfold isSz
  rw [t, lenT_its]
  cases q : its v with
  | nil => rfl
  | cons a r =>
    cases r with
    | nil => rfl
    | cons b r =>
      cases r with
      | nil => rfl
      | cons c r =>
        cases r with
        | nil =>
          unfold it
          rw [q]
          show (true && (P b && (P c && true))) = (true && true && (P b && P c))
          rw [Bool.and_true]
          rfl
        | cons d r =>
          have e1 : ((((a :: b :: c :: d :: r).length : Nat) : Int) == (2 : Nat) + 1) = false := by
            rw [beq_eq_false_iff_ne]
            simp
            omega
          have e2 : ((((a :: b :: c :: d :: r).length : Nat) : Int) == 3) = false := e1
          rw [e1, e2]
          rfl
section
variable {n : Nat} {h : PH} {v : PV}
theorem sz_T {k : Int} (e : isT v = false) : isSz v k = false := by unfold isSz; rw [e]; rfl
theorem sz3_ne (e : isSz v 3 = true) : isT v = true ∧ (its v).isEmpty = false := by
  obtain ⟨h1, h2⟩ := sz_lt (k := 3) e
  refine ⟨h1, ?_⟩
  cases q : its v with
  | nil => rw [q] at h2; cases h2
  | cons x xs => rfl
theorem wd_str {W : List (L2.Key × PV)} (e : wdG W v = true) : isT v = true ∧ (its v).isEmpty = false ∧ ∃ w x, it v 0 = .str w ∧ getK W (.inr w) = some x := by
  unfold wdG at e
  simp only [Bool.and_eq_true, Bool.not_eq_true'] at e
  refine ⟨e.1, e.2.1, ?_⟩
  cases q : it v 0 with
  | str w =>
    have := e.2.2.2
    rw [q] at this
    obtain ⟨x, hx⟩ := Option.isSome_iff_exists.mp this
    exact ⟨w, x, rfl, hx⟩
  | _ => have := e.2.2.1; rw [q] at this; cases this
theorem wd_no {W : List (L2.Key × PV)} (e : wdG W v = false) (t : isT v = true) (ne : (its v).isEmpty = false) {w : Str} (q : it v 0 = .str w) : getK W (.inr w) = none := by
  unfold wdG at e
  rw [t, ne, q] at e
  simpa [isS] using e
theorem bd_w {W : List (L2.Key × PV)} (b : Bd h) (e : PV.bds (h.length + 1) (W.map (·.2)) = true) : Bd (h ++ [PO.dct W]) := Bd.snoc b e
theorem prs_two {xs : List PV} {s : Str} {pr : PV} (hp : pr ∈ prs xs [.str s, .str s]) : ∃ x, pr = .tup [x, .str s] ∧ x ∈ xs := by
  obtain ⟨x, y, rfl, hx, hy⟩ := mem_prs hp
  have : y = .str s := by
    rcases List.mem_cons.mp hy with z | z
    · exact z
    · rcases List.mem_cons.mp z with z | z
      · exact z
      · cases z
  subst this
  exact ⟨x, rfl, hx⟩
theorem of_place (g : Gd h v) (bd : Bd h) : Cal (n + 5) "_law_is_of" [v, .str "place"] h (.bl (isOrder v)) := by
  refine of_worded (W := WP) bd (by rfl) (by decide +kernel) (by decide +kernel) (by decide +kernel) (by decide +kernel) (by decide +kernel) (by decide +kernel) (by decide +kernel) (by decide +kernel) words_place ?_
  have bd1 := bd_pl bd
  have bd2 : Bd ((h ++ [PO.dct PL]) ++ [PO.dct WP]) := bd_w bd1 rfl
  have g2 : Gd ((h ++ [PO.dct PL]) ++ [PO.dct WP]) v := g.app.app
  cases hw : wdG WP v with
  | false =>
    have e0 : isOrder v = false := by
      unfold isOrder
      cases q : isSz v 3 with
      | false => rfl
      | true =>
        obtain ⟨t, ne⟩ := sz3_ne q
        cases q0 : it v 0 with
        | str w =>
          have := wd_no hw t ne q0
          rw [wp_get] at this
          rw [show isWd ORD (.str w) = false from ?_]
          · rfl
          · show isWd ["same", "ahead", "upto"] (.str w) = false
            rw [any3]
            unfold get3 at this
            split at this
            · cases this
            · split at this
              · cases this
              · split at this
                · cases this
                · simp [*]
        | _ => rfl
    rw [e0]
    exact c_worded_no last_at g2 hw
  | true =>
    obtain ⟨t, ne, w, x, e1, e2⟩ := wd_str hw
    have e3 : x = .str "N N" ∧ isWd ORD (.str w) = true := by
      rw [wp_get] at e2
      show _ ∧ isWd ["same", "ahead", "upto"] (.str w) = true
      rw [any3]
      unfold get3 at e2
      split at e2
      · cases e2; simp [*]
      · split at e2
        · cases e2; simp [*]
        · split at e2
          · cases e2; simp [*]
          · cases e2
    obtain ⟨rfl, e4⟩ := e3
    have c := c_worded_yes (n := n + 3) (ss := ["N", "N"]) (fst2 isTold) last_at g2 bd2 t ne e1 e2 (by decide +kernel) (by decide +kernel) fun pr hpr => by
      obtain ⟨y, rfl, hy⟩ := prs_two hpr
      have gy := gd_its g2 y (List.mem_of_mem_drop hy)
      exact ⟨y, "N", rfl, of_N gy.1.app (Bd.snoc bd2 rfl)⟩
    have e5 := two_all (P := isTold) (s := .str "N") t
    rw [show isOrder v = (isSz v 3 && (isTold (it v 1) && isTold (it v 2))) from by unfold isOrder; rw [e1, e4]; rfl, ← e5]
    exact c
theorem of_fact (g : Gd h v) (bd : Bd h) : Cal (n + 7) "_law_is_of" [v, .str "fact"] h (.bl (isFact v)) := by
  refine of_worded (W := WF) bd (by rfl) (by decide +kernel) (by decide +kernel) (by decide +kernel) (by decide +kernel) (by decide +kernel) (by decide +kernel) (by decide +kernel) (by decide +kernel) words_fact ?_
  have bd1 := bd_pl bd
  have bd2 : Bd ((h ++ [PO.dct PL]) ++ [PO.dct WF]) := bd_w bd1 rfl
  have g2 : Gd ((h ++ [PO.dct PL]) ++ [PO.dct WF]) v := g.app.app
  cases hw : wdG WF v with
  | false =>
    have e0 : isFact v = false := by
      unfold isFact
      cases q : isSz v 3 with
      | false => rfl
      | true =>
        obtain ⟨t, ne⟩ := sz3_ne q
        cases q0 : it v 0 with
        | str w =>
          have := wd_no hw t ne q0
          rw [wf_get] at this
          have k : isWd AB (.str w) = false ∧ isWd ["rising"] (.str w) = false := by
            show isWd ["atmost", "below"] (.str w) = false ∧ _
            rw [any2, any1]
            unfold get3 at this
            split at this
            · cases this
            · split at this
              · cases this
              · split at this
                · cases this
                · simp [*]
          rw [k.1, k.2]
          rfl
        | _ => rfl
    rw [e0]
    exact c_worded_no last_at g2 hw
  | true =>
    obtain ⟨t, ne, w, x, e1, e2⟩ := wd_str hw
    have e3 : (x = .str "N N" ∧ isWd AB (.str w) = false ∧ isWd ["rising"] (.str w) = true) ∨ (x = .str "lot lot" ∧ isWd AB (.str w) = true) := by
      rw [wf_get] at e2
      show (_ ∧ isWd ["atmost", "below"] (.str w) = false ∧ _) ∨ (_ ∧ isWd ["atmost", "below"] (.str w) = true)
      rw [any2, any1]
      unfold get3 at e2
      split at e2
      · rename_i hq
        cases e2
        subst hq
        exact .inl ⟨rfl, by decide +kernel, by decide +kernel⟩
      · split at e2
        · cases e2; exact .inr ⟨rfl, by simp [*]⟩
        · split at e2
          · cases e2; exact .inr ⟨rfl, by simp [*]⟩
          · cases e2
    rcases e3 with ⟨rfl, e4, e5⟩ | ⟨rfl, e4⟩
    · have c := c_worded_yes (n := n + 5) (ss := ["N", "N"]) (fst2 isTold) last_at g2 bd2 t ne e1 e2 (by decide +kernel) (by decide +kernel) fun pr hpr => by
        obtain ⟨y, rfl, hy⟩ := prs_two hpr
        have gy := gd_its g2 y (List.mem_of_mem_drop hy)
        exact ⟨y, "N", rfl, of_N gy.1.app (Bd.snoc bd2 rfl)⟩
      have e6 := two_all (P := isTold) (s := .str "N") t
      rw [show isFact v = (isSz v 3 && (isTold (it v 1) && isTold (it v 2))) from by unfold isFact; rw [e1, e4, e5]; rfl, ← e6]
      exact c
    · have c := c_worded_yes (n := n + 5) (ss := ["lot", "lot"]) (fst2 isStr2) last_at g2 bd2 t ne e1 e2 (by decide +kernel) (by decide +kernel) fun pr hpr => by
        obtain ⟨y, rfl, hy⟩ := prs_two hpr
        have gy := gd_its g2 y (List.mem_of_mem_drop hy)
        exact ⟨y, "lot", rfl, of_lot gy.1.app (Bd.snoc bd2 rfl)⟩
      have e6 := two_all (P := isStr2) (s := .str "lot") t
      rw [show isFact v = (isSz v 3 && (isStr2 (it v 1) && isStr2 (it v 2))) from by unfold isFact; rw [e1, e4]; rfl, ← e6]
      exact c
theorem ge_zero : lenGe v 0 = true := decide_eq_true (Int.natCast_nonneg _)
theorem c_law_is_saying (g : Gd h v) (bd : Bd h) : Cal (n + 9) "_law_is_saying" [v] h (.bl (isSay v)) := by
  refine call_same (fn := f__law_is_saying) rfl rfl (by decide) ?_
  refine rt_ret (p_and (p_call (p_cons (p_var rfl) (p_cons p_int p_nil)) (c_law_is_sized g)) fun e => ?_)
  obtain ⟨a1, a2⟩ := at_it (i := 0) g e (by decide)
  obtain ⟨b1, b2⟩ := at_it (i := 1) g e (by decide)
  have c1 := c_law_are (n := n + 7) (srt := "place") (k := 0) isOrder a2 bd fun x hx => of_place (gd_its a2 x hx).1 bd
  have c2 := c_law_are (n := n + 7) (srt := "fact") (k := 0) isFact b2 bd fun x hx => of_fact (gd_its b2 x hx).1 bd
  rw [are_T, ge_zero, Bool.and_true] at c1 c2
  exact p_and (p_call (p_cons (p_ix (p_var rfl) p_int a1) (p_cons p_str (p_cons p_int p_nil))) c1) fun _ => p_call (p_cons (p_ix (p_var rfl) p_int b1) (p_cons p_str (p_cons p_int p_nil))) c2
end
end K20

end
section
set_option Elab.async false
set_option maxRecDepth 100000
set_option maxHeartbeats 1000000
set_option autoImplicit false
set_option linter.all false
/-! K20ba: the names of which a saying speaks. -/
namespace K20
open PySem Pv
/-- a for over what stays -/
theorem fr_fix {C : Cl} {tg : Tg} {body : ITs} {xs : List PV} (I : Nat → PEnv → PH → Prop) (step : ∀ i x ρ h, xs[i]? = some x → I i ρ h → ∃ ρ1 ρ2 h2, bindTg ρ tg x = some ρ1 ∧ evTs C body ρ1 h = some (.nx ρ2, h2) ∧ I (i + 1) ρ2 h2) :
    ∀ (n i : Nat) (ρ : PEnv) (h : PH), i ≤ xs.length → xs.length < n + i → I i ρ h → ∃ ρ' h', frLoop (.fix xs) (fun ρ x => bindTg ρ tg x) (fun ρ h => evTs C body ρ h) n i ρ h = some (.nx ρ', h') ∧ I xs.length ρ' h' := by
  intro n
  induction n with
  | zero => intro i ρ h h0 hl _; omega
  | succ n ih =>
    intro i ρ h h0 hl hI
    unfold frLoop
    show ∃ ρ' h', (match some xs[i]? with
      | none => none
      | some none => some (.nx ρ, h)
      | some (some x) => match bindTg ρ tg x with
        | none => none
        | some ρ1 => match evTs C body ρ1 h with
          | none => none
          | some (.rt v, h') => some (.rt v, h')
          | some (.bk ρ', h') => some (.nx ρ', h')
          | some (.nx ρ', h') => frLoop (.fix xs) (fun ρ x => bindTg ρ tg x) (fun ρ h => evTs C body ρ h) n (i + 1) ρ' h'
          | some (.ct ρ', h') => frLoop (.fix xs) (fun ρ x => bindTg ρ tg x) (fun ρ h => evTs C body ρ h) n (i + 1) ρ' h') = some (.nx ρ', h') ∧ _
    by_cases hi : i < xs.length
    · have e : xs[i]? = some xs[i] := by simp [hi]
      obtain ⟨ρ1, ρ2, h2, e1, e2, e3⟩ := step i xs[i] ρ h e hI
      rw [e]
      simp only
      rw [e1]
      simp only
      rw [e2]
      exact ih (i + 1) ρ2 h2 (by omega) (by omega) e3
    · have e : xs[i]? = none := by simp; omega
      have e' : i = xs.length := by omega
      rw [e]
      subst e'
      exact ⟨ρ, h, rfl, hI⟩
theorem rt_for {C : Cl} {tg : Tg} {s : IS} {body es : ITs} {ρ ρ' : PEnv} {h h1 h' : PH} {sv : SV} {r : Option (Fl × PH)} (hs : evS C s ρ h = some (sv, h1)) (hf : frLoop sv (fun ρ x => bindTg ρ tg x) (fun ρ h => evTs C body ρ h) TURNS 0 ρ h1 = some (.nx ρ', h')) (hr : evTs C es ρ' h' = r) : evTs C (.cons (.fr tg s body) es) ρ h = r := by
  unfold evTs evT
  rw [hs]
  simp only
  rw [hf]
  exact hr
section
variable {C : Cl} {ρ : PEnv} {h g gg : PH} {acc ys : List PV} {e : IE} {o : PO}
theorem mid_at : (h ++ (o :: g))[h.length]? = some o := by
  rw [List.getElem?_append_right (Nat.le_refl _)]
  simp
theorem mid_ls : PH.ls (h ++ (.lst acc :: g)) h.length = some acc := by
  unfold PH.ls
  rw [mid_at]
theorem mid_set {o' : PO} : (h ++ (o :: g)).set h.length o' = h ++ (o' :: g) := by
  rw [List.set_append_right _ _ (Nat.le_refl _)]
  simp
/-- found.extend(..), found the first behind h -/
theorem e_ext {q : Nat} {i : Nat} (h1 : ρ[i]? = some (some (.ref h.length))) (he : evE C e ρ (h ++ (.lst acc :: g)) = some (.ref q, h ++ (.lst acc :: gg))) (hq : PH.ls (h ++ (.lst acc :: gg)) q = some ys) (hz : acc.length + ys.length ≤ SZ) :
    evE C (.ext (.var i) e) ρ (h ++ (.lst acc :: g)) = some (.non, h ++ (.lst (acc ++ ys) :: gg)) := by
  have hq' : (h ++ (PO.lst acc :: gg))[q]? = some (.lst ys) := by
    unfold PH.ls at hq
    split at hq
    · rename_i e1; cases hq; exact e1
    · cases hq
  unfold evE
  rw [show evE C (.var i) ρ (h ++ (.lst acc :: g)) = some (.ref h.length, h ++ (.lst acc :: g)) from p_var h1]
  simp only
  rw [if_pos (show isL (h ++ (.lst acc :: g)) h.length = true from by unfold isL; rw [mid_at])]
  rw [he]
  simp only
  rw [mid_at, hq']
  simp only
  rw [if_pos hz, mid_set]
theorem bd_nil_of {p q : Nat} {g : PH} : PH.ls (g ++ [.lst ys]) g.length = some ys := by
  unfold PH.ls
  rw [List.getElem?_append_right (Nat.le_refl _)]
  simp
/-- [x, y] -/
theorem e_two {i j : Nat} {x y : PV} (hx : ρ[i]? = some (some x)) (hy : ρ[j]? = some (some y)) {h : PH} : evE C (.lst (.cons (.var i) (.cons (.var j) .nil))) ρ h = some (.ref h.length, h ++ [.lst [x, y]]) := by
  unfold evE
  rw [show evEs C (.cons (.var i) (.cons (.var j) .nil)) ρ h = some ([x, y], h) from p_cons (p_var hx) (p_cons (p_var hy) p_nil)]
  rfl
theorem e_star {i j : Nat} {xs ys : List PV} (hx : ρ[i]? = some (some (.tup xs))) (hy : ρ[j]? = some (some (.tup ys))) (hz : xs.length + ys.length ≤ SZ) {h : PH} : evE C (.lst (.star (.var i) (.star (.var j) .nil))) ρ h = some (.ref h.length, h ++ [.lst (xs ++ ys)]) := by
  have e1 : evEs C (.star (.var i) (.star (.var j) .nil)) ρ h = some (xs ++ (ys ++ []), h) := by
    unfold evEs
    rw [show evE C (.var i) ρ h = some (.tup xs, h) from p_var hx]
    simp only [seqOf]
    unfold evEs
    rw [show evE C (.var j) ρ h = some (.tup ys, h) from p_var hy]
    rfl
  unfold evE
  rw [e1, List.append_nil]
  simp only
  rw [if_pos (by rw [List.length_append]; exact hz)]
  rfl
theorem e_list {i : Nat} {xs : List PV} (hx : ρ[i]? = some (some (.tup xs))) {h : PH} : evE C (.b1 .list (.var i)) ρ h = some (.ref h.length, h ++ [.lst xs]) := by
  unfold evE
  rw [show evE C (.var i) ρ h = some (.tup xs, h) from p_var hx]
  show some (trim h.length (.ref h.length) (h ++ [.lst xs])) = _
  unfold trim
  rw [if_neg]
  rw [show PV.bd h.length (.ref h.length) = false from decide_eq_false (Nat.lt_irrefl _)]
  simp
theorem e_sum {i j : Nat} {xs ys : List PV} (hx : ρ[i]? = some (some (.tup xs))) (hy : ρ[j]? = some (some (.tup ys))) (hz : xs.length + ys.length ≤ SZ) {h : PH} : evE C (.bin .add (.b1 .list (.var i)) (.b1 .list (.var j))) ρ h = some (.ref (h.length + 2), h ++ [.lst xs, .lst ys, .lst (xs ++ ys)]) := by
  unfold evE
  rw [e_list hx]
  simp only
  rw [e_list hy]
  have e1 : ((h ++ [PO.lst xs]) ++ [PO.lst ys])[h.length]? = some (.lst xs) := by simp
  have e2 : ((h ++ [PO.lst xs]) ++ [PO.lst ys])[(h ++ [PO.lst xs]).length]? = some (.lst ys) := last_at
  show (match ((h ++ [PO.lst xs]) ++ [PO.lst ys])[h.length]?, ((h ++ [PO.lst xs]) ++ [PO.lst ys])[(h ++ [PO.lst xs]).length]? with
    | some (.lst xs'), some (.lst ys') => if xs'.length + ys'.length ≤ SZ then some (newO (.lst (xs' ++ ys')) ((h ++ [PO.lst xs]) ++ [PO.lst ys])) else none
    | _, _ => none) = _
  rw [e1, e2]
  simp only
  rw [if_pos hz]
  simp [newO]
end
/-! ### what is spoken of -/
def two12 (r : PV) : List PV := [it r 1, it r 2]
def factN (r : PV) : List PV := if isWd ["rising"] (it r 0) then two12 r else its (it r 1) ++ its (it r 2)
def spokenL (v : PV) : List PV := (its (it v 0)).flatMap two12 ++ (its (it v 1)).flatMap factN
def txt : PV → Str | .str s => s | _ => default
def spokenS (v : PV) : List Str := setS ((spokenL v).map txt)
theorem three {r : PV} (e : isSz r 3 = true) : r = .tup [it r 0, it r 1, it r 2] := by
  obtain ⟨h1, h2⟩ := sz_lt (k := 3) e
  cases r with
  | tup xs =>
    have h2 : xs.length = 3 := h2
    match xs, h2 with
    | [a, b, c], _ => rfl
  | _ => cases h1
theorem order_sz {r : PV} (e : isOrder r = true) : isSz r 3 = true ∧ ∀ x ∈ two12 r, isS x = true := by
  unfold isOrder at e
  simp only [Bool.and_eq_true] at e
  refine ⟨e.1, fun x hx => ?_⟩
  rcases List.mem_cons.mp hx with rfl | hx
  · exact told_s e.2.2.1
  · rcases List.mem_cons.mp hx with rfl | hx
    · exact told_s e.2.2.2
    · cases hx
theorem ab_rising {r : PV} (e : isWd AB r = true) : isWd ["rising"] r = false := by
  cases r with
  | str w =>
    have e' : isWd ["atmost", "below"] (.str w) = true := e
    rw [any2] at e'
    rw [any1]
    cases q : decide ("rising" = w) with
    | false => rfl
    | true =>
      have : ("rising" : Str) = w := of_decide_eq_true q
      subst this
      exact absurd e' (by decide +kernel)
  | _ => rfl
theorem fact_sz {r : PV} (e : isFact r = true) : isSz r 3 = true ∧ ((isWd ["rising"] (it r 0) = true ∧ isTold (it r 1) = true ∧ isTold (it r 2) = true) ∨ (isWd ["rising"] (it r 0) = false ∧ isStr2 (it r 1) = true ∧ isStr2 (it r 2) = true)) := by
  unfold isFact at e
  rw [Bool.and_eq_true] at e
  refine ⟨e.1, ?_⟩
  have e2 := e.2
  cases q : isWd AB (it r 0) with
  | true =>
    rw [q, if_pos rfl, Bool.and_eq_true] at e2
    exact .inr ⟨ab_rising q, e2.1, e2.2⟩
  | false =>
    rw [q, if_neg Bool.false_ne_true] at e2
    simp only [Bool.and_eq_true] at e2
    exact .inl ⟨e2.1, e2.2.1, e2.2.2⟩
theorem str2_of {r : PV} (e : isStr2 r = true) : r = .tup (its r) ∧ (its r).length ≤ 2 ∧ ∀ x ∈ its r, isS x = true := by
  unfold isStr2 at e
  rw [Bool.and_eq_true] at e
  obtain ⟨t, a⟩ := tup_of e.1
  refine ⟨its_t t, ?_, fun x hx => told_s (a x hx)⟩
  have := e.2
  unfold len12 at this
  simp only [Bool.and_eq_true, decide_eq_true_eq] at this
  rw [lenT_its] at this
  omega
theorem factN_s {r : PV} (e : isFact r = true) : (∀ x ∈ factN r, isS x = true) ∧ (factN r).length ≤ 4 := by
  obtain ⟨_, h | h⟩ := fact_sz e
  · unfold factN
    rw [if_pos h.1]
    refine ⟨fun x hx => ?_, by simp [two12]⟩
    rcases List.mem_cons.mp hx with rfl | hx
    · exact told_s h.2.1
    · rcases List.mem_cons.mp hx with rfl | hx
      · exact told_s h.2.2
      · cases hx
  · unfold factN
    rw [h.1, if_neg Bool.false_ne_true]
    obtain ⟨_, l1, s1⟩ := str2_of h.2.1
    obtain ⟨_, l2, s2⟩ := str2_of h.2.2
    refine ⟨fun x hx => (List.mem_append.mp hx).elim (s1 x) (s2 x), by rw [List.length_append]; omega⟩
theorem flat_len {α β : Type} {f : α → List β} {k : Nat} : ∀ {xs : List α}, (∀ x ∈ xs, (f x).length ≤ k) → (xs.flatMap f).length ≤ k * xs.length
  | [], _ => by simp
  | x :: xs, h => by
    rw [List.flatMap_cons, List.length_append, List.length_cons]
    have h1 := h x List.mem_cons_self
    have h2 := flat_len (f := f) fun y hy => h y (List.mem_cons_of_mem _ hy)
    have : k * (xs.length + 1) = k * xs.length + k := Nat.mul_succ _ _
    omega
theorem strs_of : ∀ {xs : List PV}, (∀ x ∈ xs, isS x = true) → strsOf xs = some (xs.map txt)
  | [], _ => rfl
  | x :: xs, h => by
    cases x with
    | str s =>
      show (strsOf xs).map (s :: ·) = _
      rw [strs_of fun y hy => h y (List.mem_cons_of_mem _ hy)]
      rfl
    | _ => cases h _ List.mem_cons_self
end K20

end
section
set_option Elab.async false
set_option maxRecDepth 100000
set_option maxHeartbeats 1000000
set_option autoImplicit false
set_option linter.all false
/-! K20bb: told_names_of, _law_spoken. -/
namespace K20
open PySem Pv
section
variable {C : Cl} {h : PH} {v : PV} {body : ITs} {rows : List PV}
theorem tb : (1000 : Nat) < TURNS := by decide
theorem big : (5000 : Nat) ≤ SZ := by decide
theorem two_le {acc : List PV} {r : PV} (hz : acc.length ≤ 4000) : acc.length + (two12 r).length ≤ SZ := by
  have : (two12 r).length = 2 := rfl
  have := big
  omega
def rowE (ρ : PEnv) (r : PV) : PEnv := ((ρ.set 2 (some (it r 0))).set 3 (some (it r 1))).set 4 (some (it r 2))
/-- the slots that stay -/
structure Keep (h : PH) (v : PV) (ρ : PEnv) : Prop where
  z : ρ[0]? = some (some v)
  o : ρ[1]? = some (some (.ref h.length))
  l : ρ.length = 5
theorem Keep.row {ρ : PEnv} (k : Keep h v ρ) (r : PV) : Keep h v (rowE ρ r) ∧ (rowE ρ r)[2]? = some (some (it r 0)) ∧ (rowE ρ r)[3]? = some (some (it r 1)) ∧ (rowE ρ r)[4]? = some (some (it r 2)) := by
  obtain ⟨z, o, l⟩ := k
  match ρ, l with
  | [a, b, c, d, e], _ => exact ⟨⟨z, o, rfl⟩, rfl, rfl, rfl⟩
theorem take_next {α β : Type} {f : α → List β} {xs : List α} {i : Nat} {x : α} (e : xs[i]? = some x) : (xs.take (i + 1)).flatMap f = (xs.take i).flatMap f ++ f x := by
  rw [List.take_add_one, e, List.flatMap_append]
  simp
theorem loop_rows {N : PV → List PV} {k : Nat} {A : List PV} {g : PH} {ρ : PEnv} (ok : Keep h v ρ) (ht : ∀ r ∈ rows, r = .tup [it r 0, it r 1, it r 2]) (hk : ∀ r ∈ rows, (N r).length ≤ k) (hz : A.length + k * rows.length ≤ 4000) (hr : rows.length ≤ 1000)
    (hb : ∀ r ∈ rows, ∀ (ρ : PEnv) (acc : List PV) (g : PH), Keep h v ρ → ρ[2]? = some (some (it r 0)) → ρ[3]? = some (some (it r 1)) → ρ[4]? = some (some (it r 2)) → acc.length ≤ 4000 → ∃ gg, evTs C body ρ (h ++ (.lst acc :: g)) = some (.nx ρ, h ++ (.lst (acc ++ N r) :: gg))) :
    ∃ ρ' g', frLoop (.fix rows) (fun ρ x => bindTg ρ (.tup [2, 3, 4]) x) (fun ρ h => evTs C body ρ h) TURNS 0 ρ (h ++ (.lst A :: g)) = some (.nx ρ', h ++ (.lst (A ++ rows.flatMap N) :: g')) ∧ Keep h v ρ' := by
  have step : ∀ (i : Nat) (x : PV) (ρ : PEnv) (H : PH), rows[i]? = some x → (Keep h v ρ ∧ ∃ g, H = h ++ (.lst (A ++ (rows.take i).flatMap N) :: g)) →
      ∃ ρ1 ρ2 h2, bindTg ρ (.tup [2, 3, 4]) x = some ρ1 ∧ evTs C body ρ1 H = some (.nx ρ2, h2) ∧ (Keep h v ρ2 ∧ ∃ g, h2 = h ++ (.lst (A ++ (rows.take (i + 1)).flatMap N) :: g)) := by
    rintro i x ρ H e ⟨ok, g, rfl⟩
    have hx := List.mem_of_getElem? e
    obtain ⟨k1, k2, k3, k4⟩ := ok.row x
    have lb : (A ++ (rows.take i).flatMap N).length ≤ 4000 := by
      rw [List.length_append]
      have h1 := flat_len (f := N) (k := k) (xs := rows.take i) fun y hy => hk y (List.mem_of_mem_take hy)
      have h2 : k * (rows.take i).length ≤ k * rows.length := Nat.mul_le_mul_left k (by rw [List.length_take]; omega)
      omega
    obtain ⟨gg, e1⟩ := hb x hx (rowE ρ x) _ g k1 k2 k3 k4 lb
    refine ⟨rowE ρ x, rowE ρ x, _, ?_, e1, k1, gg, ?_⟩
    · rw [ht x hx]
      rfl
    · rw [take_next e, List.append_assoc]
  obtain ⟨ρ', H', e, ok', g', rfl⟩ := fr_fix (C := C) (tg := .tup [2, 3, 4]) (body := body) (xs := rows) _ step TURNS 0 ρ (h ++ (.lst A :: g)) (Nat.zero_le _) (Nat.lt_of_le_of_lt hr tb) ⟨ok, g, by simp⟩
  rw [List.take_length] at e
  exact ⟨ρ', g', e, ok'⟩
theorem exp_of {e : IE} {ρ : PEnv} {H H' : PH} {u : PV} (he : evE C e ρ H = some (u, H')) : evTs C (.cons (.exp e) .nil) ρ H = some (.nx ρ, H') := by
  unfold evTs evT
  rw [he]
  rfl
theorem body_two (r : PV) (ρ : PEnv) (acc : List PV) (g : PH) (k : Keep h v ρ) (_ : ρ[2]? = some (some (it r 0))) (h3 : ρ[3]? = some (some (it r 1))) (h4 : ρ[4]? = some (some (it r 2))) (hz : acc.length ≤ 4000) :
    ∃ gg, evTs C (.cons (.exp (.ext (.var 1) (.lst (.cons (.var 3) (.cons (.var 4) .nil))))) .nil) ρ (h ++ (.lst acc :: g)) = some (.nx ρ, h ++ (.lst (acc ++ two12 r) :: gg)) := by
  refine ⟨g ++ [.lst (two12 r)], exp_of (u := .non) ?_⟩
  refine e_ext (acc := acc) (gg := g ++ [.lst (two12 r)]) k.o ?_ (ys := two12 r) (q := (h ++ (PO.lst acc :: g)).length) ?_ (two_le hz)
  · rw [e_two h3 h4]
    simp [two12]
  · have := bd_nil_of (ys := two12 r) (p := 0) (q := 0) (g := h ++ (PO.lst acc :: g))
    simpa using this
theorem body_fact {sum : Bool} (r : PV) (fr : isFact r = true) (ρ : PEnv) (acc : List PV) (g : PH) (k : Keep h v ρ) (h2 : ρ[2]? = some (some (it r 0))) (h3 : ρ[3]? = some (some (it r 1))) (h4 : ρ[4]? = some (some (it r 2))) (hz : acc.length ≤ 4000) :
    ∃ gg, evTs C (.cons (.exp (.ext (.var 1) (.ite (.cmp .eq (.var 2) (.con (.str "rising"))) (.lst (.cons (.var 3) (.cons (.var 4) .nil))) (if sum = true then .bin .add (.b1 .list (.var 3)) (.b1 .list (.var 4)) else .lst (.star (.var 3) (.star (.var 4) .nil)))))) .nil) ρ (h ++ (.lst acc :: g)) =
      some (.nx ρ, h ++ (.lst (acc ++ factN r) :: gg)) := by
  obtain ⟨sz, alt⟩ := fact_sz fr
  have hw : ∃ w, it r 0 = .str w := by
    have e := fr
    unfold isFact at e
    rw [Bool.and_eq_true] at e
    cases q : it r 0 with
    | str w => exact ⟨w, rfl⟩
    | _ =>
      rw [q] at e
      exact absurd e.2 (by simp [isWd])
  obtain ⟨w, hw⟩ := hw
  have big := big
  have ceq : ∀ H : PH, Pe C ρ H (.cmp .eq (.var 2) (.con (.str "rising"))) (.bl (w == "rising")) := fun H => q_eq (by rw [h2, hw]) rfl
  have wd : isWd ["rising"] (it r 0) = (w == "rising") := by
    rw [hw, any1]
    show decide ("rising" = w) = decide (w = "rising")
    rw [decide_eq_decide]
    exact eq_comm
  rcases alt with ⟨a1, a2, a3⟩ | ⟨a1, a2, a3⟩
  · have e1 : factN r = two12 r := by unfold factN; rw [if_pos a1]
    rw [e1]
    refine ⟨g ++ [.lst (two12 r)], exp_of (u := .non) ?_⟩
    refine e_ext (acc := acc) (gg := g ++ [.lst (two12 r)]) k.o ?_ (ys := two12 r) (q := (h ++ (PO.lst acc :: g)).length) ?_ (two_le hz)
    · have c := ceq (h ++ (PO.lst acc :: g))
      rw [← wd, a1] at c
      unfold evE
      rw [show evE C (.cmp .eq (.var 2) (.con (.str "rising"))) ρ (h ++ (PO.lst acc :: g)) = some (.bl true, h ++ (PO.lst acc :: g)) from c]
      show evE C (.lst (.cons (.var 3) (.cons (.var 4) .nil))) ρ (h ++ (PO.lst acc :: g)) = _
      rw [e_two h3 h4]
      simp [two12]
    · have := bd_nil_of (ys := two12 r) (p := 0) (q := 0) (g := h ++ (PO.lst acc :: g))
      simpa using this
  · have e1 : factN r = its (it r 1) ++ its (it r 2) := by unfold factN; rw [a1, if_neg Bool.false_ne_true]
    rw [e1]
    obtain ⟨t1, l1, _⟩ := str2_of a2
    obtain ⟨t2, l2, _⟩ := str2_of a3
    rw [t1] at h3
    rw [t2] at h4
    have c := ceq (h ++ (PO.lst acc :: g))
    rw [← wd, a1] at c
    cases sum with
    | false =>
      refine ⟨g ++ [.lst (its (it r 1) ++ its (it r 2))], exp_of (u := .non) ?_⟩
      refine e_ext (acc := acc) (gg := g ++ [.lst (its (it r 1) ++ its (it r 2))]) k.o ?_ (ys := its (it r 1) ++ its (it r 2)) (q := (h ++ (PO.lst acc :: g)).length) ?_ (by rw [List.length_append]; omega)
      · unfold evE
        rw [show evE C (.cmp .eq (.var 2) (.con (.str "rising"))) ρ (h ++ (PO.lst acc :: g)) = some (.bl false, h ++ (PO.lst acc :: g)) from c]
        show evE C (.lst (.star (.var 3) (.star (.var 4) .nil))) ρ (h ++ (PO.lst acc :: g)) = _
        rw [e_star h3 h4 (by omega)]
        simp
      · have := bd_nil_of (ys := its (it r 1) ++ its (it r 2)) (p := 0) (q := 0) (g := h ++ (PO.lst acc :: g))
        simpa using this
    | true =>
      refine ⟨g ++ [.lst (its (it r 1)), .lst (its (it r 2)), .lst (its (it r 1) ++ its (it r 2))], exp_of (u := .non) ?_⟩
      refine e_ext (acc := acc) (gg := g ++ [.lst (its (it r 1)), .lst (its (it r 2)), .lst (its (it r 1) ++ its (it r 2))]) k.o ?_ (ys := its (it r 1) ++ its (it r 2)) (q := (h ++ (PO.lst acc :: g)).length + 2) ?_ (by rw [List.length_append]; omega)
      · unfold evE
        rw [show evE C (.cmp .eq (.var 2) (.con (.str "rising"))) ρ (h ++ (PO.lst acc :: g)) = some (.bl false, h ++ (PO.lst acc :: g)) from c]
        show evE C (.bin .add (.b1 .list (.var 3)) (.b1 .list (.var 4))) ρ (h ++ (PO.lst acc :: g)) = _
        rw [e_sum h3 h4 (by omega)]
        simp
      · have := bd_nil_of (ys := its (it r 1) ++ its (it r 2)) (p := 0) (q := 0) (g := h ++ (PO.lst acc :: (g ++ [.lst (its (it r 1)), .lst (its (it r 2))])))
        rw [show (h ++ (PO.lst acc :: g)).length + 2 = (h ++ (PO.lst acc :: (g ++ [.lst (its (it r 1)), .lst (its (it r 2))]))).length from by simp; omega]
        rw [show h ++ (PO.lst acc :: (g ++ [.lst (its (it r 1)), .lst (its (it r 2)), .lst (its (it r 1) ++ its (it r 2))])) = (h ++ (PO.lst acc :: (g ++ [.lst (its (it r 1)), .lst (its (it r 2))]))) ++ [.lst (its (it r 1) ++ its (it r 2))] from by simp]
        exact this
end
end K20

end
section
set_option Elab.async false
set_option maxRecDepth 100000
set_option maxHeartbeats 1000000
set_option autoImplicit false
set_option linter.all false
/-! K20bc: told_names_of, _law_spoken, plain sayings. -/
namespace K20
open PySem Pv
theorem trim_some {n : Nat} {v : PV} {h g : PH} (hn : h.length ≤ n) : ∃ gg, trim n v (h ++ g) = (v, h ++ gg) := by
  unfold trim
  split
  · refine ⟨g.take (n - h.length), ?_⟩
    rw [List.take_append, List.take_of_length_le hn]
  · exact ⟨g, rfl⟩
section
variable {C : Cl} {n : Nat} {h : PH} {v : PV}
theorem say_of (e : isSay v = true) : isSz v 2 = true ∧ tupOf isOrder (it v 0) = true ∧ tupOf isFact (it v 1) = true := by
  unfold isSay at e
  simp only [Bool.and_eq_true] at e
  exact ⟨e.1, e.2.1, e.2.2⟩
theorem spoken_s (e : isSay v = true) : ∀ x ∈ spokenL v, isS x = true := by
  obtain ⟨_, e1, e2⟩ := say_of e
  obtain ⟨_, a1⟩ := tup_of e1
  obtain ⟨_, a2⟩ := tup_of e2
  intro x hx
  rcases List.mem_append.mp hx with hx | hx
  · obtain ⟨r, hr, hx⟩ := List.mem_flatMap.mp hx
    exact (order_sz (a1 r hr)).2 x hx
  · obtain ⟨r, hr, hx⟩ := List.mem_flatMap.mp hx
    exact (factN_s (a2 r hr)).1 x hx
theorem spoken_len (g : Gd h v) (e : isSay v = true) : (spokenL v).length < 4000 := by
  obtain ⟨e0, e1, e2⟩ := say_of e
  obtain ⟨_, a1⟩ := tup_of e1
  obtain ⟨_, a2⟩ := tup_of e2
  obtain ⟨_, g1⟩ := at_it (i := 0) g e0 (by decide)
  obtain ⟨_, g2⟩ := at_it (i := 1) g e0 (by decide)
  unfold spokenL
  rw [List.length_append]
  have h1 := flat_len (f := two12) (k := 2) (xs := its (it v 0)) fun r _ => Nat.le_refl 2
  have h2 := flat_len (f := factN) (k := 4) (xs := its (it v 1)) fun r hr => (factN_s (a2 r hr)).2
  have := its_len5 g1
  have := its_len5 g2
  omega
/-- up to the last statement -/
theorem run_rows {sum : Bool} {last : ITs} (g : Gd h v) (e : isSay v = true) : ∃ ρ' g', Keep h v ρ' ∧
    evTs C (.cons (.asg 1 (.lst .nil)) (.cons (.fr (.tup [2, 3, 4]) (.it (.ix (.var 0) (.con (.int 0)))) (.cons (.exp (.ext (.var 1) (.lst (.cons (.var 3) (.cons (.var 4) .nil))))) .nil)) (.cons (.fr (.tup [2, 3, 4]) (.it (.ix (.var 0) (.con (.int 1)))) (.cons (.exp (.ext (.var 1) (.ite (.cmp .eq (.var 2) (.con (.str "rising"))) (.lst (.cons (.var 3) (.cons (.var 4) .nil))) (if sum = true then .bin .add (.b1 .list (.var 3)) (.b1 .list (.var 4)) else .lst (.star (.var 3) (.star (.var 4) .nil)))))) .nil)) last)))
      [some v, none, none, none, none] h = evTs C last ρ' (h ++ (.lst (spokenL v) :: g')) := by
  obtain ⟨e0, e1, e2⟩ := say_of e
  obtain ⟨t1, a1⟩ := tup_of e1
  obtain ⟨t2, a2⟩ := tup_of e2
  obtain ⟨_, g1⟩ := at_it (i := 0) g e0 (by decide)
  obtain ⟨_, g2⟩ := at_it (i := 1) g e0 (by decide)
  have l1 := its_len5 g1
  have l2 := its_len5 g2
  have k0 : Keep h v [some v, some (.ref h.length), none, none, none] := ⟨rfl, rfl, rfl⟩
  have asg : evE C (.lst .nil) [some v, none, none, none, none] h = some (.ref h.length, h ++ (.lst [] :: [])) := by
    unfold evE
    rw [show evEs C .nil [some v, none, none, none, none] h = some ([], h) from rfl]
    rfl
  have src : ∀ (i : Nat) (ρ : PEnv) (H : PH), Keep h v ρ → i < 2 → isT (it v i) = true → evS C (.it (.ix (.var 0) (.con (.int i)))) ρ H = some (.fix (its (it v i)), H) := fun i ρ H k hi t => by
    have p : Pe C ρ H (.ix (.var 0) (.con (.int i))) (.tup (its (it v i))) := by
      rw [← its_t t]
      obtain ⟨q1, q2⟩ := sz_lt (k := 2) e0
      exact p_ix (p_var k.z) p_int (ix_it q1 (by omega))
    exact (s_it p).1
  obtain ⟨ρ1, h1, f1, k1⟩ := loop_rows (C := C) (h := h) (v := v) (rows := its (it v 0)) (N := two12) (k := 2) (A := []) (g := []) k0 (fun r hr => three (order_sz (a1 r hr)).1) (fun r _ => Nat.le_refl 2) (by simp; omega) (by omega) fun r hr => body_two r
  obtain ⟨ρ2, h2, f2, k2⟩ := loop_rows (C := C) (h := h) (v := v) (rows := its (it v 1)) (N := factN) (k := 4) (A := [] ++ (its (it v 0)).flatMap two12) (g := h1) k1 (fun r hr => three (fact_sz (a2 r hr)).1) (fun r hr => (factN_s (a2 r hr)).2)
    (by have := flat_len (f := two12) (k := 2) (xs := its (it v 0)) fun r _ => Nat.le_refl 2
        rw [List.nil_append]
        omega) (by omega) fun r hr => body_fact (sum := sum) r (a2 r hr)
  refine ⟨ρ2, h2, k2, ?_⟩
  refine rt_asgG asg (rt_for (src 0 _ _ k0 (by decide) t1) f1 (rt_for (src 1 _ _ k1 (by decide) t2) f2 ?_))
  rw [List.nil_append]
  rfl
theorem e_sort {ρ : PEnv} {g' : PH} (k : Keep h v ρ) (g : Gd h v) (e : isSay v = true) : evE C (.sortset (.var 1)) ρ (h ++ (.lst (spokenL v) :: g')) = some (.ref (h ++ (PO.lst (spokenL v) :: g')).length, (h ++ (.lst (spokenL v) :: g')) ++ [.lst ((spokenS v).map .str)]) := by
  unfold evE
  rw [show evE C (.var 1) ρ (h ++ (PO.lst (spokenL v) :: g')) = some (.ref h.length, h ++ (.lst (spokenL v) :: g')) from p_var k.o]
  simp only
  rw [show seqOf (h ++ (PO.lst (spokenL v) :: g')) (.ref h.length) = some (spokenL v) from mid_ls]
  show ((strsOf (spokenL v)).bind fun xs => if xs.length < 4000 then some (newO (.lst ((setS xs).map .str)) (h ++ (PO.lst (spokenL v) :: g'))) else none) = _
  rw [strs_of (spoken_s e)]
  show (if ((spokenL v).map txt).length < 4000 then _ else _) = _
  rw [if_pos (by rw [List.length_map]; exact spoken_len g e)]
  rfl
theorem bds_strs {m : Nat} : ∀ l : List Str, PV.bds m (l.map .str) = true
  | [] => rfl
  | _ :: l => bds_strs l
theorem c_told_names_of (g : Gd h v) (bd : Bd h) (e : isSay v = true) : Cal (n + 1) "told_names_of" [v] h (.tup ((spokenS v).map .str)) := by
  obtain ⟨ρ', g', k, r⟩ := run_rows (C := ⟨evCall tab gl n, gl⟩) (sum := false) (last := .cons (.ret (.b1 .tuple (.sortset (.var 1)))) .nil) g e
  have e1 : ∃ gg, evE ⟨evCall tab gl n, gl⟩ (.b1 .tuple (.sortset (.var 1))) ρ' (h ++ (.lst (spokenL v) :: g')) = some (.tup ((spokenS v).map .str), h ++ gg) := by
    unfold evE
    rw [e_sort k g e]
    show ∃ gg, tm (h ++ (PO.lst (spokenL v) :: g')).length ((PH.ls ((h ++ (PO.lst (spokenL v) :: g')) ++ [.lst ((spokenS v).map .str)]) (h ++ (PO.lst (spokenL v) :: g')).length).map fun xs => (.tup xs, (h ++ (PO.lst (spokenL v) :: g')) ++ [.lst ((spokenS v).map .str)])) = _
    rw [ls_new, List.append_assoc]
    obtain ⟨gg, q⟩ := trim_some (n := (h ++ (PO.lst (spokenL v) :: g')).length) (v := .tup ((spokenS v).map .str)) (h := h) (g := (PO.lst (spokenL v) :: g') ++ [.lst ((spokenS v).map .str)]) (by simp)
    exact ⟨gg, congrArg some q⟩
  obtain ⟨gg, e2⟩ := e1
  exact call_app (g := gg) (fn := f_told_names_of) rfl rfl (by decide) bd (bds_strs _) (r.trans (rt_retG e2))
theorem c_law_spoken (g : Gd h v) (e : isSay v = true) : ∃ q gg, evCall tab gl (n + 1) "_law_spoken" [v] h = some (.ref q, h ++ gg) ∧ PH.ls (h ++ gg) q = some ((spokenS v).map .str) := by
  obtain ⟨ρ', g', k, r⟩ := run_rows (C := ⟨evCall tab gl n, gl⟩) (sum := true) (last := .cons (.ret (.sortset (.var 1))) .nil) g e
  have e1 := e_sort (C := ⟨evCall tab gl n, gl⟩) (g' := g') k g e
  have c := call_def (fn := f__law_spoken) (n := n) (tab := tab) (gl := gl) (f := "_law_spoken") (vs := [v]) (h := h) rfl rfl (by decide) (r.trans (rt_retG e1))
  rw [List.append_assoc] at c
  obtain ⟨gg, q⟩ := trim_some (n := h.length) (v := .ref (h ++ (PO.lst (spokenL v) :: g')).length) (h := h) (g := (PO.lst (spokenL v) :: g') ++ [.lst ((spokenS v).map .str)]) (Nat.le_refl _)
  have nb : PV.bd h.length (.ref (h ++ (PO.lst (spokenL v) :: g')).length) = false := decide_eq_false (by simp)
  refine ⟨(h ++ (PO.lst (spokenL v) :: g')).length, (PO.lst (spokenL v) :: g') ++ [.lst ((spokenS v).map .str)], ?_, ?_⟩
  · rw [c]
    unfold trim
    rw [nb]
    rfl
  · rw [← List.append_assoc]
    exact ls_new

/-! ### plain sayings -/
def isPlain (v : PV) : Bool := isSay v && !((spokenS v).map PV.str).any fun y => PV.eqF y (.str "result")
theorem c_is_plain_saying (g : Gd h v) (bd : Bd h) : Cal (n + 8) "is_plain_saying" [v] h (.bl (isPlain v)) := by
  refine call_same (fn := f_is_plain_saying) rfl rfl (by decide) ?_
  exact rt_ret (p_and (p_call (p_cons (p_var rfl) p_nil) (c_is_saying_form g bd)) fun e => p_cmp p_str (p_call (p_cons (p_var rfl) p_nil) (c_told_names_of g bd e)) (notin_of in_strs))
/-- .. and the law's -/
theorem p_law_plain {ρ : PEnv} {i : Nat} (hv : ρ[i]? = some (some v)) (g : Gd h v) (bd : Bd h) (e : isSay v = true) : Pe ⟨evCall tab gl (n + 1), gl⟩ ρ h (.cmp .notin (.con (.str "result")) (.call "_law_spoken" (.cons (.var i) .nil))) (.bl (!((spokenS v).map PV.str).any fun y => PV.eqF y (.str "result"))) := by
  obtain ⟨q, gg, e1, e2⟩ := c_law_spoken (n := n) g e
  refine p_cmpG (g1 := []) (g2 := gg) (x := .str "result") (y := .ref q) bd (by rw [List.append_nil]; exact p_str) ?_ ?_
  · rw [List.append_nil]
    unfold evE
    rw [show evEs ⟨evCall tab gl (n + 1), gl⟩ (.cons (.var i) .nil) ρ h = some ([v], h) from p_cons (p_var hv) p_nil]
    exact e1
  · refine notin_of ?_
    have e3 : (h ++ gg)[q]? = some (.lst ((spokenS v).map .str)) := by
      unfold PH.ls at e2
      split at e2
      · rename_i e1; cases e2; exact e1
      · cases e2
    show (match (h ++ gg)[q]? with
      | some (.lst ys) => if (PV.str "result").flat && ys.all PV.flat then some (ys.any fun y => PV.eqF y (.str "result")) else none
      | some (.dct kvs) => (match keyV (.str "result") with
        | some k => some (getK kvs k).isSome
        | none => none)
      | _ => none) = _
    rw [e3]
    simp only
    rw [flat_strs]
    rfl
end
end K20

end
section
set_option Elab.async false
set_option maxRecDepth 100000
set_option maxHeartbeats 1000000
set_option autoImplicit false
set_option linter.all false
/-! K20ca: loops whose source may be an object; lists of truths; alike. -/
namespace K20
open PySem Pv
theorem fr_any {C : Cl} {sv : SV} {tg : Tg} {body : ITs} {xs : List PV} (I : Nat → PEnv → PH → Prop) (src : ∀ i ρ h, I i ρ h → svAt h sv i = some xs[i]?)
    (step : ∀ i x ρ h, xs[i]? = some x → I i ρ h → ∃ ρ1 ρ2 h2, bindTg ρ tg x = some ρ1 ∧ evTs C body ρ1 h = some (.nx ρ2, h2) ∧ I (i + 1) ρ2 h2) :
    ∀ (n i : Nat) (ρ : PEnv) (h : PH), i ≤ xs.length → xs.length < n + i → I i ρ h → ∃ ρ' h', frLoop sv (fun ρ x => bindTg ρ tg x) (fun ρ h => evTs C body ρ h) n i ρ h = some (.nx ρ', h') ∧ I xs.length ρ' h' := by
  intro n
  induction n with
  | zero => intro i ρ h h0 hl _; omega
  | succ n ih =>
    intro i ρ h h0 hl hI
    unfold frLoop
    rw [src i ρ h hI]
    by_cases hi : i < xs.length
    · have e : xs[i]? = some xs[i] := by simp [hi]
      obtain ⟨ρ1, ρ2, h2, e1, e2, e3⟩ := step i xs[i] ρ h e hI
      rw [e]
      simp only
      rw [e1]
      simp only
      rw [e2]
      exact ih (i + 1) ρ2 h2 (by omega) (by omega) e3
    · have e : xs[i]? = none := by simp; omega
      have e' : i = xs.length := by omega
      rw [e]
      subst e'
      exact ⟨ρ, h, rfl, hI⟩
section
variable {C : Cl} {ρ : PEnv} {h : PH} {es : IEs} {ts : ITs} {e : IE} {i : Nat} {r : Option (Fl × PH)}
theorem e_lst {vs : List PV} (he : Ps C ρ h es vs) (hz : vs.length ≤ SZ) : evE C (.lst es) ρ h = some (.ref h.length, h ++ [.lst vs]) := by
  unfold evE
  rw [he]
  simp only
  rw [if_pos hz]
  rfl
/-- if c: return False, where c does not hold -/
theorem sk_if {c : IE} {ta : ITs} (hc : Pe C ρ h c (.bl false)) (hr : evTs C ts ρ h = r) : evTs C (.cons (.ite c ta .nil) ts) ρ h = r := rt_skip hc hr
theorem bds_bls {m : Nat} : ∀ l : List Bool, PV.bds m (l.map .bl) = true
  | [] => rfl
  | _ :: l => bds_bls l
end

/-! ### alike -/
theorem lays : ∀ bs : List Bool, PyData.canLayAll0 (bs.map .bool) = true
  | [] => rfl
  | b :: bs => by
    show (PyData.canLay0 (.bool b) && PyData.canLayAll0 (bs.map .bool)) = true
    rw [lays bs]
    rfl
theorem toD_bls {k : Nat} {h : PH} : ∀ bs : List Bool, (bs.map PV.bl).mapM (toD k h) = some (bs.map .bool)
  | [] => rfl
  | b :: bs => by
    rw [List.map_cons, List.mapM_cons, toD_bls bs]
    cases k <;> rfl
theorem toD_lst {h : PH} {p : Nat} {bs : List Bool} (hp : PH.ls h p = some (bs.map .bl)) : toD DD h (.ref p) = some (.list (bs.map .bool)) := by
  show (match PH.ls h p with | some xs => (xs.mapM (toD 23 h)).map PyData.list | none => none) = _
  rw [hp]
  simp only
  rw [toD_bls]
  rfl
theorem shows : ∀ bs : List Bool, PyData.showableAll (bs.map .bool) = true
  | [] => rfl
  | b :: bs => by
    show (PyData.showable (.bool b) && PyData.showableAll (bs.map .bool)) = true
    rw [shows bs]
    rfl
theorem short8 : ∀ bs : List Bool, PyData.leavesShortAll 8 (bs.map .bool) = true
  | [] => rfl
  | b :: bs => by
    show (PyData.leavesShort 8 (.bool b) && PyData.leavesShortAll 8 (bs.map .bool)) = true
    rw [short8 bs]
    rfl
theorem weigh : ∀ bs : List Bool, PyData.weightAll (bs.map .bool) = bs.length
  | [] => rfl
  | b :: bs => by
    show PyData.weight (.bool b) + 1 + PyData.weightAll (bs.map .bool) = _
    rw [weigh bs]
    show 0 + 1 + bs.length = bs.length + 1
    omega
theorem shown_sz (bs : List Bool) (hl : bs.length ≤ 1000) : (PyData.shown (.list (bs.map .bool))).length ≤ SZ := by
  have h1 := PyData.shown_le 8 (Nat.le_refl 8) (.list (bs.map .bool)) (short8 bs)
  have h2 : PyData.weight (.list (bs.map .bool)) = bs.length := weigh bs
  rw [h2] at h1
  have : (20000 : Nat) ≤ SZ := by decide
  omega
section
variable {n : Nat} {h : PH} {p q : Nat} {bs : List Bool}
theorem c_alike (bd : Bd h) (hp : PH.ls h p = some (bs.map .bl)) (hq : PH.ls h q = some (bs.map .bl)) (hl : bs.length ≤ 1000) : Cal (n + 1) "_law_alike" [.ref p, .ref q] h (.bl true) := by
  refine call_same (fn := f__law_alike) rfl rfl (by decide) ?_
  have rp : ∀ {p : Nat}, PH.ls h p = some (bs.map .bl) → b1PV .repr h (.ref p) = some (.str (PyData.shown (.list (bs.map .bool))), h) := fun {p} hp => by
    show (reprPV h (.ref p)).map _ = _
    unfold reprPV
    rw [toD_lst hp]
    show (if (true && (PyData.showable (.list (bs.map .bool)) && decide ((PyData.shown (.list (bs.map .bool))).length ≤ SZ))) = true then _ else _ : Option Str).map _ = _
    rw [if_pos (by rw [show PyData.showable (.list (bs.map .bool)) = true from shows bs, decide_eq_true (shown_sz bs hl)]; rfl)]
    rfl
  refine rt_ret (p_and (p := true) (q := true) (p_cmp (p_b1 (p_var rfl) (rp hp)) (p_b1 (p_var rfl) (rp hq)) ?_) fun _ => p_cmp (p_var rfl) (p_var rfl) ?_)
  · show some (PyData.shown (.list (bs.map .bool)) == PyData.shown (.list (bs.map .bool))) = some true
    rw [beq_self_eq_true]
  · show (match toD DD h (.ref p), toD DD h (.ref q) with
      | some d, some e => if d.canLay0 && e.canLay0 then some (PyData.eqv d e) else none
      | _, _ => none) = some true
    rw [toD_lst hp, toD_lst hq]
    simp only
    have cl : PyData.canLay0 (.list (bs.map .bool)) = true := lays bs
    rw [if_pos (by rw [cl]; rfl), PySem.SeqAt.eqv_refl _ cl]
end
end K20

end
section
set_option Elab.async false
set_option maxRecDepth 100000
set_option maxHeartbeats 1000000
set_option autoImplicit false
set_option linter.all false
/-! K20cb: the bag. -/
namespace K20
open PySem Pv
section
variable {C : Cl} {ρ : PEnv} {h h1 : PH} {a : IE} {p q : Nat}
/-- [e for tg in s], the source being new -/
theorem e_lcG {sv : SV} {tg : Tg} {s : IS} {own : List Nat} {xs : List PV} {F : PV → PV} (hs : evS C s ρ h = some (sv, h1)) (hv : ∀ i, svAt h1 sv i = some xs[i]?) (hz : xs.length < TURNS)
    (hf : ∀ x ∈ xs, ∃ ρx, bindTg (wipeP ρ own) tg x = some ρx ∧ Pe C ρx h1 a (F x)) : evE C (.lc a tg s own .none) ρ h = some (.ref h1.length, h1 ++ [.lst (xs.map F)]) := by
  unfold evE
  rw [hs]
  simp only
  rw [lc_map (F := fun x => some (F x)) hv (fun x hx => ?_) TURNS 0 [] (Nat.zero_le _) (by omega)]
  · rw [List.nil_append, List.drop_zero, fm_some (G := F) fun _ _ => rfl]
    rfl
  · obtain ⟨ρx, e1, e2⟩ := hf x hx
    refine ⟨ρx, e1, ?_⟩
    show (match evC C .none ρx h1 with
      | some (true, h) => (match evE C a ρx h with | some (v, h) => some (some v, h) | none => none)
      | some (false, h) => some (none, h)
      | none => none) = _
    rw [show evC C .none ρx h1 = some (true, h1) from rfl]
    simp only
    rw [e2]
theorem cut_map {α β : Type} {f : α → β} {xs : List α} {lo hi : Option Int} : cutP (xs.map f) lo hi = (cutP xs lo hi).map f := by
  unfold cutP
  rw [List.length_map, List.map_take, List.map_drop]
theorem cut_le {α : Type} {xs : List α} {lo hi : Option Int} : (cutP xs lo hi).length ≤ xs.length := by
  unfold cutP
  rw [List.length_take, List.length_drop]
  omega
theorem at_lst {xs : List PV} (hp : h[p]? = some (.lst xs)) (i : Nat) : svAt h (.lst p) i = some xs[i]? := by
  show (match h[p]? with | some (.lst xs) => some xs[i]? | _ => none) = _
  rw [hp]
end
def absI (i : Int) : Int := if i < 0 then -i else i
theorem c_law_bag {n : Nat} (ns : List Int) (hn : ns.length ≤ 63) : ∃ xs ys : List Int, ys.length ≤ 63 ∧ evCall tab gl (n + 1) "_law_bag" [PV.rol (ns.map PV.int)] [] = some (.ref 2, [.lst (xs.map .int), .lst (ys.map .int), .lst [.int 0, .int 1234567891, .int 0, .ref 1]]) := by
  have sl : evE ⟨evCall tab gl n, gl⟩ (.sl (.var 0) .none (.some (.con (.int 63)))) [some (PV.rol (ns.map PV.int)), none] [] = some (.ref 0, [.lst ((cutP ns none (some 63)).map .int)]) := by
    unfold evE
    rw [show evE ⟨evCall tab gl n, gl⟩ (.var 0) [some (PV.rol (ns.map PV.int)), none] [] = some (PV.rol (ns.map PV.int), []) from rfl]
    simp only
    rw [show evO ⟨evCall tab gl n, gl⟩ .none [some (PV.rol (ns.map PV.int)), none] [] = some (none, []) from rfl]
    simp only
    rw [show evO ⟨evCall tab gl n, gl⟩ (.some (.con (.int 63))) [some (PV.rol (ns.map PV.int)), none] [] = some (some 63, []) from rfl]
    show some (newO (.lst (cutP (ns.map PV.int) none (some 63))) []) = _
    rw [cut_map]
    rfl
  have src : evS ⟨evCall tab gl n, gl⟩ (.it (.sl (.var 0) .none (.some (.con (.int 63))))) [some (PV.rol (ns.map PV.int)), none] [] = some (.lst 0, [.lst ((cutP ns none (some 63)).map .int)]) := by
    unfold evS
    rw [sl]
    rfl
  have lc := e_lcG (C := ⟨evCall tab gl n, gl⟩) (a := .b1 .abs (.var 1)) (tg := .one 1) (own := [1]) (F := fun x => match x with | .int i => .int (absI i) | x => x) src (at_lst rfl) (by
    rw [List.length_map]
    have : (cutP ns none (some 63)).length ≤ ns.length := cut_le
    have : (1000 : Nat) < TURNS := tb
    omega) fun x hx => by
      obtain ⟨i, _, rfl⟩ := List.mem_map.mp hx
      exact ⟨_, bind_one, p_b1 (p_var rfl) rfl⟩
  refine ⟨cutP ns none (some 63), (cutP ns none (some 63)).map absI, by rw [List.length_map]; exact Nat.le_trans cut_le hn, ?_⟩
  rw [call_def (fn := f__law_bag) (v := .ref 2) (h' := [.lst ((cutP ns none (some 63)).map .int), .lst (((cutP ns none (some 63)).map absI).map .int), .lst [.int 0, .int 1234567891, .int 0, .ref 1]]) rfl rfl (by decide) (rt_retG ?_)]
  · rfl
  · have es : evEs ⟨evCall tab gl n, gl⟩ (.cons (.con (.int 0)) (.cons (.con (.int 1234567891)) (.cons (.con (.int 0)) (.cons (.lc (.b1 .abs (.var 1)) (.one 1) (.it (.sl (.var 0) .none (.some (.con (.int 63))))) [1] .none) .nil)))) [some (PV.rol (ns.map PV.int)), none] [] =
        some ([.int 0, .int 1234567891, .int 0, .ref 1], [.lst ((cutP ns none (some 63)).map .int), .lst (((cutP ns none (some 63)).map absI).map .int)]) := by
      unfold evEs
      rw [show evE ⟨evCall tab gl n, gl⟩ (.con (.int 0)) [some (PV.rol (ns.map PV.int)), none] [] = some (.int 0, []) from rfl]
      simp only
      unfold evEs
      rw [show evE ⟨evCall tab gl n, gl⟩ (.con (.int 1234567891)) [some (PV.rol (ns.map PV.int)), none] [] = some (.int 1234567891, []) from rfl]
      simp only
      unfold evEs
      rw [show evE ⟨evCall tab gl n, gl⟩ (.con (.int 0)) [some (PV.rol (ns.map PV.int)), none] [] = some (.int 0, []) from rfl]
      simp only
      unfold evEs
      rw [lc, List.map_map]
      simp only [evEs]
      congr 2
      simp [List.map_map]
    unfold evE
    show (match evEs ⟨evCall tab gl n, gl⟩ (.cons (.con (.int 0)) (.cons (.con (.int 1234567891)) (.cons (.con (.int 0)) (.cons (.lc (.b1 .abs (.var 1)) (.one 1) (.it (.sl (.var 0) .none (.some (.con (.int 63))))) [1] .none) .nil)))) [some (PV.rol (ns.map PV.int)), none] [] with
      | some (vs, h) => if vs.length ≤ SZ then some (newO (.lst vs) h) else none
      | none => none) = _
    rw [es]
    rfl
end K20

end
section
set_option Elab.async false
set_option maxRecDepth 100000
set_option maxHeartbeats 1000000
set_option autoImplicit false
set_option linter.all false
/-! K20cc: taking from the bag. -/
namespace K20
open PySem Pv
abbrev bagO (a b k : Int) (q : Nat) : PO := .lst [.int a, .int b, .int k, .ref q]
section
variable {C : Cl} {ρ : PEnv} {h : PH} {p q : Nat} {a b k : Int} {e f : IE} {es : ITs} {r : Option (Fl × PH)}
theorem ix_bag (hp : h[p]? = some (bagO a b k q)) (i : Int) : ixPV h (.ref p) (.int i) = (ixOf 4 i).bind fun j => [PV.int a, .int b, .int k, .ref q][j]? := by
  unfold ixPV
  simp only
  rw [hp]
  rfl
theorem b0 (hv : ρ[0]? = some (some (.ref p))) (hp : h[p]? = some (bagO a b k q)) : Pe C ρ h (.ix (.var 0) (.con (.int 0))) (.int a) := p_ix (p_var hv) p_int (ix_bag hp 0)
theorem b1 (hv : ρ[0]? = some (some (.ref p))) (hp : h[p]? = some (bagO a b k q)) : Pe C ρ h (.ix (.var 0) (.con (.int 1))) (.int b) := p_ix (p_var hv) p_int (ix_bag hp 1)
theorem b2 (hv : ρ[0]? = some (some (.ref p))) (hp : h[p]? = some (bagO a b k q)) : Pe C ρ h (.ix (.var 0) (.con (.int 2))) (.int k) := p_ix (p_var hv) p_int (ix_bag hp 2)
theorem b3 (hv : ρ[0]? = some (some (.ref p))) (hp : h[p]? = some (bagO a b k q)) : Pe C ρ h (.ix (.var 0) (.con (.int 3))) (.ref q) := p_ix (p_var hv) p_int (ix_bag hp 3)
theorem eq_int {i j : Int} : eqPV h (.int i) (.int j) = some (i == j) := by
  show (if (true && true) = true then some (PyData.eqv (.int i) (.int j)) else none) = _
  exact if_pos rfl
theorem p_add {i j : Int} (x : Pe C ρ h e (.int i)) (y : Pe C ρ h f (.int j)) : Pe C ρ h (.bin .add e f) (.int (i + j)) := p_bin x y rfl
theorem p_mulr {i j : Int} (x : Pe C ρ h e (.int i)) (y : Pe C ρ h f (.int j)) (hj : -(2 ^ 64) < j ∧ j < 2 ^ 64) : Pe C ρ h (.bin .mul e f) (.int (i * j)) := p_bin x y (if_pos (.inr hj))
theorem p_mull {i j : Int} (x : Pe C ρ h e (.int i)) (y : Pe C ρ h f (.int j)) (hj : -(2 ^ 64) < i ∧ i < 2 ^ 64) : Pe C ρ h (.bin .mul e f) (.int (i * j)) := p_bin x y (if_pos (.inl hj))
theorem p_mod {i j : Int} (x : Pe C ρ h e (.int i)) (y : Pe C ρ h f (.int j)) (hj : 0 < j) : Pe C ρ h (.bin .mod e f) (.int (i % j)) := p_bin x y (if_pos hj)
theorem p_div {i j : Int} (x : Pe C ρ h e (.int i)) (y : Pe C ρ h f (.int j)) (hj : 0 < j ∧ j < 1073741824) : Pe C ρ h (.bin .fdiv e f) (.int (i / j)) := p_bin x y (if_pos hj)
theorem p_toint {i : Int} (x : Pe C ρ h e (.int i)) : Pe C ρ h (.b1 .int e) (.int i) := p_b1 x rfl
theorem t_sub {i : Int} {v : PV} {h' : PH} (he : Pe C ρ h e v) (hv : ρ[0]? = some (some (.ref p))) (hs : setI h (.ref p) (.int i) v = some h') (hr : evTs C es ρ h' = r) : evTs C (.cons (.sub (.var 0) (.con (.int i)) e) es) ρ h = r := by
  unfold evTs evT
  rw [show evE C e ρ h = some (v, h) from he]
  simp only
  rw [show evE C (.var 0) ρ h = some (.ref p, h) from p_var hv]
  simp only
  rw [show evE C (.con (.int i)) ρ h = some (.int i, h) from rfl]
  simp only
  rw [hs]
  exact hr
theorem set_bag (hp : h[p]? = some (bagO a b k q)) (i : Int) (v : PV) : setI h (.ref p) (.int i) v = (ixOf 4 i).map fun j => h.set p (.lst (([PV.int a, .int b, .int k, .ref q] : List PV).set j v)) := by
  unfold setI
  simp only
  rw [hp]
  rfl
theorem t_inc (hv : ρ[0]? = some (some (.ref p))) (hp : h[p]? = some (bagO a b k q)) (hr : evTs C es ρ (h.set p (bagO a b (k + 1) q)) = r) : evTs C (.cons (.augS (.var 0) (.con (.int 2)) .add (.con (.int 1))) es) ρ h = r := by
  unfold evTs evT
  rw [show evE C (.var 0) ρ h = some (.ref p, h) from p_var hv]
  simp only
  rw [show evE C (.con (.int 2)) ρ h = some (.int 2, h) from rfl]
  simp only
  rw [show ixPV h (.ref p) (.int 2) = some (.int k) from ix_bag hp 2]
  simp only
  rw [if_pos (show nnB (.int 2) = true from rfl)]
  rw [show evE C (.con (.int 1)) ρ h = some (.int 1, h) from rfl]
  show (match (match setI h (.ref p) (.int 2) (.int (k + 1)) with | some h => some (Fl.nx ρ, h) | none => none) with
    | some (.nx ρ, h) => evTs C es ρ h
    | r => r) = r
  rw [show setI h (.ref p) (.int 2) (.int (k + 1)) = some (h.set p (bagO a b (k + 1) q)) from set_bag hp 2 _]
  exact hr

/-- the first stretch of the taking -/
theorem stir {m : Int} {ys : List Int} (hp : h[p]? = some (bagO 0 b k q)) (hq : h[q]? = some (.lst (ys.map .int))) (hy : ys.length ≤ 63) (pl : p < h.length) :
    ∃ c, evE C (.ix (.bin .add (.sl (.ix (.var 0) (.con (.int 3))) (.some (.ix (.var 0) (.con (.int 2)))) .none) (.lst (.cons (.con (.int 0)) .nil))) (.con (.int 0))) [some (.ref p), some (.int m), none, none, none, none, none] h =
      some (.int c, h ++ [.lst ((cutP ys (some k) none).map .int), .lst [.int 0], .lst ((cutP ys (some k) none ++ [0]).map .int)]) := by
  have cl : (cutP ys (some k) none).length ≤ 63 := Nat.le_trans cut_le hy
  have e1 : evE C (.sl (.ix (.var 0) (.con (.int 3))) (.some (.ix (.var 0) (.con (.int 2)))) .none) [some (.ref p), some (.int m), none, none, none, none, none] h = some (.ref h.length, h ++ [.lst ((cutP ys (some k) none).map .int)]) := by
    unfold evE
    rw [show evE C (.ix (.var 0) (.con (.int 3))) [some (.ref p), some (.int m), none, none, none, none, none] h = some (.ref q, h) from b3 rfl hp]
    simp only
    unfold evO
    rw [show evE C (.ix (.var 0) (.con (.int 2))) [some (.ref p), some (.int m), none, none, none, none, none] h = some (.int k, h) from b2 rfl hp]
    show slPV h (.ref q) (some k) none = _
    unfold slPV
    simp only
    rw [show PH.ls h q = some (ys.map .int) from by unfold PH.ls; rw [hq]]
    simp only
    rw [cut_map]
    rfl
  have e2 : evE C (.bin .add (.sl (.ix (.var 0) (.con (.int 3))) (.some (.ix (.var 0) (.con (.int 2)))) .none) (.lst (.cons (.con (.int 0)) .nil))) [some (.ref p), some (.int m), none, none, none, none, none] h =
      some (.ref (h.length + 2), h ++ [.lst ((cutP ys (some k) none).map .int), .lst [.int 0], .lst ((cutP ys (some k) none ++ [0]).map .int)]) := by
    unfold evE
    rw [e1]
    simp only
    rw [show evE C (.lst (.cons (.con (.int 0)) .nil)) [some (.ref p), some (.int m), none, none, none, none, none] (h ++ [.lst ((cutP ys (some k) none).map .int)]) = some (.ref (h.length + 1), h ++ [.lst ((cutP ys (some k) none).map .int), .lst [.int 0]]) from by
      rw [e_lst (vs := [.int 0]) (p_cons p_int p_nil) (by decide)]
      simp]
    show (match (h ++ [PO.lst ((cutP ys (some k) none).map .int), .lst [.int 0]])[h.length]?, (h ++ [PO.lst ((cutP ys (some k) none).map .int), .lst [.int 0]])[h.length + 1]? with
      | some (.lst xs), some (.lst ys) => if xs.length + ys.length ≤ SZ then some (newO (.lst (xs ++ ys)) _) else none
      | _, _ => none) = _
    rw [show (h ++ [PO.lst ((cutP ys (some k) none).map .int), .lst [.int 0]])[h.length]? = some (PO.lst ((cutP ys (some k) none).map .int)) from mid_at, show (h ++ [PO.lst ((cutP ys (some k) none).map .int), .lst [.int 0]])[h.length + 1]? = some (PO.lst [.int 0]) from by simp]
    simp only
    rw [if_pos (by
      rw [List.length_map]
      show _ + 1 ≤ SZ
      have : (64 : Nat) ≤ SZ := by decide
      omega)]
    simp [newO]
  obtain ⟨c, t, ht⟩ : ∃ c t, cutP ys (some k) none ++ [0] = c :: t := by
    cases cutP ys (some k) none with
    | nil => exact ⟨0, [], rfl⟩
    | cons c t => exact ⟨c, t ++ [0], rfl⟩
  refine ⟨c, ?_⟩
  have e3 : (h ++ [PO.lst ((cutP ys (some k) none).map .int), .lst [.int 0], .lst ((cutP ys (some k) none ++ [0]).map .int)])[h.length + 2]? = some (.lst ((c :: t).map .int)) := by rw [ht]; simp
  unfold evE
  rw [e2]
  simp only
  show ((ixPV (h ++ [PO.lst ((cutP ys (some k) none).map .int), .lst [.int 0], .lst ((cutP ys (some k) none ++ [0]).map .int)]) (.ref (h.length + 2)) (.int 0)).map fun v => (v, h ++ [PO.lst ((cutP ys (some k) none).map .int), .lst [.int 0], .lst ((cutP ys (some k) none ++ [0]).map .int)])) = _
  unfold ixPV
  simp only
  rw [e3]
  simp only
  rw [show ixOf ((c :: t).map PV.int).length 0 = some 0 from by simp [ixOf, L2.ixN]]
  rfl
/-- the bag after one taking -/
theorem take1 {m : Int} {ys : List Int} (hp : h[p]? = some (bagO 0 b k q)) (hq : h[q]? = some (.lst (ys.map .int))) (hy : ys.length ≤ 63) (pl : p < h.length) : ∃ a' b' c d, ∃ g : PH,
    evTs C (.cons (.asg 4 (.ix (.bin .add (.sl (.ix (.var 0) (.con (.int 3))) (.some (.ix (.var 0) (.con (.int 2)))) .none) (.lst (.cons (.con (.int 0)) .nil))) (.con (.int 0)))) (.cons (.augS (.var 0) (.con (.int 2)) .add (.con (.int 1))) (.cons (.ite (.cmp .ge (.var 4) (.bin .pow (.con (.int 10)) (.con (.int 18)))) (.cons (.sub (.var 0) (.con (.int 0)) (.var 4)) .nil) .nil) (.cons (.asg 5 (.bin .add (.bin .add (.bin .mul (.ix (.var 0) (.con (.int 1))) (.con (.int 48271))) (.bin .mod (.b1 .int (.var 4)) (.con (.int 2147483647)))) (.bin .mul (.con (.int 7919)) (.ix (.var 0) (.con (.int 2)))))) (.cons (.sub (.var 0) (.con (.int 1)) (.bin .mod (.b1 .int (.var 5)) (.con (.int 2147483647)))) .nil)))))
      [some (.ref p), some (.int m), none, none, none, none, none] h = some (.nx [some (.ref p), some (.int m), none, none, some (.int c), some (.int d), none], h.set p (bagO a' b' (k + 1) q) ++ g) := by
  obtain ⟨c, hc⟩ := stir (C := C) (m := m) hp hq hy pl
  have pg : ∀ {h g : PH} {o : PO}, p < h.length → (h.set p o ++ g)[p]? = some o := fun pl => by
    rw [List.getElem?_append_left (by rw [List.length_set]; exact pl)]
    simp [pl]
  have ss : ∀ {h g : PH} {o o' : PO}, p < h.length → (h.set p o ++ g).set p o' = h.set p o' ++ g := fun pl => by
    rw [List.set_append_left _ _ (by rw [List.length_set]; exact pl), List.set_set]
  generalize hg : ([.lst ((cutP ys (some k) none).map .int), .lst [.int 0], .lst ((cutP ys (some k) none ++ [0]).map .int)] : PH) = g at hc
  have s1 : (h ++ g).set p (bagO 0 b (k + 1) q) = h.set p (bagO 0 b (k + 1) q) ++ g := List.set_append_left _ _ pl
  have h1 : (h ++ g)[p]? = some (bagO 0 b k q) := by rw [List.getElem?_append_left pl, hp]
  obtain ⟨a', ha⟩ : ∃ a', evT C (.ite (.cmp .ge (.var 4) (.bin .pow (.con (.int 10)) (.con (.int 18)))) (.cons (.sub (.var 0) (.con (.int 0)) (.var 4)) .nil) .nil) [some (.ref p), some (.int m), none, none, some (.int c), none, none] (h.set p (bagO 0 b (k + 1) q) ++ g) = some (.nx [some (.ref p), some (.int m), none, none, some (.int c), none, none], h.set p (bagO a' b (k + 1) q) ++ g) := by
    have hcnd : Pe C [some (.ref p), some (.int m), none, none, some (.int c), none, none] (h.set p (bagO 0 b (k + 1) q) ++ g) (.cmp .ge (.var 4) (.bin .pow (.con (.int 10)) (.con (.int 18)))) (.bl (decide ((10 : Int) ^ 18 ≤ c))) := p_cmp (p_var rfl) (p_bin (v := .int (10 ^ 18)) p_int p_int (show (if (0 : Int) ≤ 18 ∧ (18 : Int) ≤ 1000 ∧ (10 : Int).natAbs < 2 ^ 64 then some (PV.int (10 ^ (18 : Int).toNat), _) else none) = _ from if_pos (by decide))) rfl
    unfold evT
    rw [hcnd]
    by_cases hh : (10 : Int) ^ 18 ≤ c
    · refine ⟨c, ?_⟩
      rw [decide_eq_true hh]
      exact t_sub (p_var rfl) rfl (by rw [show setI _ (.ref p) (.int 0) (.int c) = some ((h.set p (bagO 0 b (k + 1) q) ++ g).set p (bagO c b (k + 1) q)) from set_bag (pg pl) 0 _, ss pl]) rfl
    · refine ⟨0, ?_⟩
      rw [decide_eq_false hh]
      rfl
  refine ⟨a', (b * 48271 + c % 2147483647 + 7919 * (k + 1)) % 2147483647, c, b * 48271 + c % 2147483647 + 7919 * (k + 1), g, rt_asgG hc ?_⟩
  refine t_inc (a := 0) (b := b) (k := k) (q := q) rfl h1 ?_
  rw [s1]
  show (match evT C (.ite (.cmp .ge (.var 4) (.bin .pow (.con (.int 10)) (.con (.int 18)))) (.cons (.sub (.var 0) (.con (.int 0)) (.var 4)) .nil) .nil) [some (.ref p), some (.int m), none, none, some (.int c), none, none] (h.set p (bagO 0 b (k + 1) q) ++ g) with
    | some (.nx ρ, h) => evTs C _ ρ h
    | r => r) = _
  rw [ha]
  refine rt_asgG (p_add (p_add (p_mulr (b1 rfl (pg pl)) p_int (by decide)) (p_mod (p_toint (p_var rfl)) p_int (by decide))) (p_mull p_int (b2 rfl (pg pl)) (by decide))) ?_
  refine t_sub (p_mod (p_toint (p_var rfl)) p_int (by decide)) rfl (by rw [show setI _ (.ref p) (.int 1) _ = some ((h.set p (bagO a' b (k + 1) q) ++ g).set p (bagO a' _ (k + 1) q)) from set_bag (pg pl) 1 _, ss pl]) rfl
end
end K20

end
section
set_option Elab.async false
set_option maxRecDepth 100000
set_option maxHeartbeats 1000000
set_option autoImplicit false
set_option linter.all false
/-! K20cd: taking, some. -/
namespace K20
open PySem Pv
theorem pgs {p : Nat} {h g : PH} {o : PO} (pl : p < h.length) : (h.set p o ++ g)[p]? = some o := by
  rw [List.getElem?_append_left (by rw [List.length_set]; exact pl)]
  simp [pl]
theorem sss {p : Nat} {h g : PH} {o o' : PO} (pl : p < h.length) : (h.set p o ++ g).set p o' = h.set p o' ++ g := by
  rw [List.set_append_left _ _ (by rw [List.length_set]; exact pl), List.set_set]
theorem Bd.set {h : PH} {p : Nat} {o : PO} (b : Bd h) (bo : o.bd h.length = true) : Bd (h.set p o) := by
  unfold Bd at *
  rw [List.length_set, List.all_eq_true]
  intro x hx
  rcases List.mem_or_eq_of_mem_set hx with m | rfl
  · exact (List.all_eq_true.mp b) x m
  · exact bo
section
variable {C : Cl} {ρ : PEnv} {h : PH} {p q : Nat} {a b k : Int} {e f : IE} {es : ITs} {r : Option (Fl × PH)}
theorem take2 {m : Int} {x4 x5 : Option PV} {g : PH} (pl : p < h.length) (hm : 0 < m) (hm2 : m < 1073741824) : ∃ a' r, 0 ≤ r ∧ r < m ∧
    evTs C (.cons (.ite (.cmp .gt (.ix (.var 0) (.con (.int 0))) (.con (.int 0))) (.cons (.asg 6 (.bin .mod (.b1 .int (.ix (.var 0) (.con (.int 0)))) (.var 1))) (.cons (.sub (.var 0) (.con (.int 0)) (.bin .fdiv (.b1 .int (.ix (.var 0) (.con (.int 0)))) (.var 1))) (.cons (.ret (.var 6)) .nil))) .nil) (.cons (.asg 2 (.bin .mod (.b1 .int (.bin .mul (.bin .add (.ix (.var 0) (.con (.int 1))) (.con (.int 1))) (.con (.int 39373)))) (.con (.int 1000000007)))) (.cons (.asg 3 (.bin .mod (.b1 .int (.bin .mul (.bin .mod (.b1 .int (.bin .mul (.var 2) (.var 2))) (.con (.int 998244353))) (.con (.int 30011)))) (.con (.int 998244353)))) (.cons (.ret (.bin .mod (.b1 .int (.bin .fdiv (.var 3) (.con (.int 7)))) (.var 1))) .nil))))
      [some (.ref p), some (.int m), none, none, x4, x5, none] (h.set p (bagO a b k q) ++ g) = some (.rt (.int r), h.set p (bagO a' b k q) ++ g) := by
  have hc : ∀ ρ : PEnv, ρ[0]? = some (some (.ref p)) → Pe C ρ (h.set p (bagO a b k q) ++ g) (.cmp .gt (.ix (.var 0) (.con (.int 0))) (.con (.int 0))) (.bl (decide ((0 : Int) < a))) := fun ρ hv => p_cmp (b0 hv (pgs pl)) p_int rfl
  by_cases ha : (0 : Int) < a
  · refine ⟨a / m, a % m, Int.emod_nonneg _ (by omega), Int.emod_lt_of_pos _ hm, ?_⟩
    refine rt_take (by rw [show decide ((0 : Int) < a) = true from decide_eq_true ha] at hc; exact hc _ rfl) ?_
    refine rt_asgG (p_mod (p_toint (b0 rfl (pgs pl))) (p_var rfl) hm) ?_
    refine t_sub (p_div (p_toint (b0 rfl (pgs pl))) (p_var rfl) ⟨hm, hm2⟩) rfl (by rw [show setI _ (.ref p) (.int 0) _ = some ((h.set p (bagO a b k q) ++ g).set p (bagO (a / m) b k q)) from set_bag (pgs pl) 0 _, sss pl]) ?_
    exact rt_retG (p_var rfl)
  · have l1 : (0 : Int) ≤ (b + 1) * 39373 % 1000000007 := Int.emod_nonneg _ (by omega)
    have l2 : (b + 1) * 39373 % 1000000007 < 1000000007 := Int.emod_lt_of_pos _ (by omega)
    refine ⟨a, (((b + 1) * 39373 % 1000000007) * ((b + 1) * 39373 % 1000000007) % 998244353 * 30011 % 998244353) / 7 % m, Int.emod_nonneg _ (by omega), Int.emod_lt_of_pos _ hm, ?_⟩
    refine rt_skip (by rw [show decide ((0 : Int) < a) = false from decide_eq_false ha] at hc; exact hc _ rfl) ?_
    refine rt_asgG (p_mod (p_toint (p_mulr (p_add (b1 rfl (pgs pl)) p_int) p_int (by decide))) p_int (by decide)) ?_
    generalize (b + 1) * 39373 % 1000000007 = x at *
    refine rt_asgG (p_mod (p_toint (p_mulr (p_mod (p_toint (p_mulr (p_var rfl) (p_var rfl) ⟨by omega, by omega⟩)) p_int (by decide)) p_int (by decide))) p_int (by decide)) ?_
    exact rt_retG (p_mod (p_toint (p_div (p_var rfl) p_int ⟨by decide, by decide⟩)) (p_var rfl) hm)
/-- a bag at p: its cells at q -/
structure Bag (h : PH) (p q : Nat) : Prop where
  bd : Bd h
  at' : ∃ a b k, h[p]? = some (bagO a b k q)
  cells : ∃ ys : List Int, h[q]? = some (.lst (ys.map .int)) ∧ ys.length ≤ 63
  ne : p ≠ q
theorem lt_of_at {o : PO} (e : h[p]? = some o) : p < h.length := by
  by_cases hh : p < h.length
  · exact hh
  · rw [List.getElem?_eq_none (by omega)] at e
    cases e
theorem Bag.set (g : Bag h p q) : Bag (h.set p (bagO a b k q)) p q := by
  obtain ⟨a0, b0, k0, e0⟩ := g.at'
  obtain ⟨ys, e1, l1⟩ := g.cells
  have pl := lt_of_at e0
  have ql := lt_of_at e1
  refine ⟨Bd.set g.bd ?_, ⟨a, b, k, by simp [pl]⟩, ⟨ys, by rw [List.getElem?_set_ne g.ne]; exact e1, l1⟩, g.ne⟩
  show (true && (true && (true && (decide (q < h.length) && true)))) = true
  rw [decide_eq_true ql]
  rfl
theorem Bag.up (g : Bag h p q) {gg : PH} (b : Bd (h ++ gg)) : Bag (h ++ gg) p q := by
  obtain ⟨a0, b0, k0, e0⟩ := g.at'
  obtain ⟨ys, e1, l1⟩ := g.cells
  refine ⟨b, ⟨a0, b0, k0, by rw [List.getElem?_append_left (lt_of_at e0)]; exact e0⟩, ⟨ys, by rw [List.getElem?_append_left (lt_of_at e1)]; exact e1, l1⟩, g.ne⟩
theorem c_law_take {n : Nat} {m : Int} (g : Bag h p q) (hm : 0 < m) (hm2 : m < 1073741824) : ∃ a' b' k' r, 0 ≤ r ∧ r < m ∧ evCall tab gl (n + 1) "_law_take" [.ref p, .int m] h = some (.int r, h.set p (bagO a' b' k' q)) := by
  obtain ⟨a, b, k, hp⟩ := g.at'
  obtain ⟨ys, hq, hy⟩ := g.cells
  have pl := lt_of_at hp
  have fin : ∀ {a' b' k' : Int} {r : Int} {gg : PH}, trim h.length (.int r) (h.set p (bagO a' b' k' q) ++ gg) = (.int r, h.set p (bagO a' b' k' q)) := fun {a' b' k' r gg} => by
    have := trim_app (v := .int r) (g := gg) (g.set (a := a') (b := b') (k := k')).bd rfl
    rw [List.length_set] at this
    exact this
  have hc : Pe ⟨evCall tab gl n, gl⟩ [some (.ref p), some (.int m), none, none, none, none, none] h (.cmp .eq (.ix (.var 0) (.con (.int 0))) (.con (.int 0))) (.bl (a == 0)) := p_cmp (b0 rfl hp) p_int (eq_int (h := h))
  by_cases ha : a = 0
  · subst ha
    obtain ⟨a1, b1, c, d, g1, e1⟩ := take1 (C := ⟨evCall tab gl n, gl⟩) (m := m) hp hq hy pl
    obtain ⟨a2, r, r0, r1, e2⟩ := take2 (C := ⟨evCall tab gl n, gl⟩) (a := a1) (b := b1) (k := k + 1) (q := q) (m := m) (x4 := some (.int c)) (x5 := some (.int d)) (g := g1) pl hm hm2
    refine ⟨a2, b1, k + 1, r, r0, r1, ?_⟩
    rw [call_def (fn := f__law_take) (v := .int r) (h' := h.set p (bagO a2 b1 (k + 1) q) ++ g1) rfl rfl (by decide), fin]
    show evTs _ (.cons (.ite _ _ .nil) _) [some (.ref p), some (.int m), none, none, none, none, none] h = _
    unfold evTs evT
    rw [show evE _ _ [some (.ref p), some (.int m), none, none, none, none, none] h = _ from hc]
    show (match evTs _ _ [some (.ref p), some (.int m), none, none, none, none, none] h with
      | some (.nx ρ, h) => evTs _ _ ρ h
      | r => r) = _
    rw [e1]
    exact e2
  · obtain ⟨a2, r, r0, r1, e2⟩ := take2 (C := ⟨evCall tab gl n, gl⟩) (a := a) (b := b) (k := k) (q := q) (m := m) (x4 := none) (x5 := none) (g := []) pl hm hm2
    have hs : h.set p (bagO a b k q) = h := by
      apply List.ext_getElem?
      intro i
      by_cases hi : p = i
      · subst hi
        rw [hp]
        simp [pl]
      · rw [List.getElem?_set_ne hi]
    rw [hs, List.append_nil] at e2
    refine ⟨a2, b, k, r, r0, r1, ?_⟩
    rw [call_def (fn := f__law_take) (v := .int r) (h' := h.set p (bagO a2 b k q) ++ []) rfl rfl (by decide), fin]
    refine rt_skip ?_ e2
    rw [show (a == 0) = false from by simp [ha]] at hc
    exact hc
end
end K20

end
section
set_option Elab.async false
set_option maxRecDepth 100000
set_option maxHeartbeats 1000000
set_option autoImplicit false
set_option linter.all false
/-! K20ce: one of a list; what stays of a heap. -/
namespace K20
open PySem Pv
/-- h' holds all that h held, but for the bag -/
structure Nx (p q : Nat) (h h' : PH) : Prop where
  bag : Bag h' p q
  keep : ∀ i o, i ≠ p → h[i]? = some o → h'[i]? = some o
section
variable {C : Cl} {ρ : PEnv} {h h1 h2 : PH} {p q : Nat}
theorem Nx.trans (a : Nx p q h h1) (b : Nx p q h1 h2) : Nx p q h h2 := ⟨b.bag, fun i o ne e => b.keep i o ne (a.keep i o ne e)⟩
theorem Nx.set {a b k : Int} (g : Bag h p q) : Nx p q h (h.set p (bagO a b k q)) := ⟨g.set, fun i o ne e => by rw [List.getElem?_set_ne (Ne.symm ne)]; exact e⟩
theorem Nx.app {g : PH} (b : Bag h p q) (bd : Bd (h ++ g)) : Nx p q h (h ++ g) := ⟨b.up bd, fun i o _ e => by rw [List.getElem?_append_left (lt_of_at e)]; exact e⟩
theorem c_law_some {n t : Nat} {xs : List PV} (g : Bag h p q) (ht : h[t]? = some (.lst xs)) (ne : t ≠ p) (x0 : 0 < xs.length) (xl : xs.length < 1073741824) : ∃ x h', x ∈ xs ∧ Nx p q h h' ∧ h'.length = h.length ∧ evCall tab gl (n + 2) "_law_some" [.ref p, .ref t] h = some (x, h') := by
  obtain ⟨a, b, k, r, r0, r1, e⟩ := c_law_take (n := n) (m := xs.length) g (by omega) (by omega)
  obtain ⟨j, rfl⟩ : ∃ j : Nat, r = j := ⟨r.toNat, by omega⟩
  have hj : j < xs.length := by omega
  refine ⟨xs[j], h.set p (bagO a b k q), List.getElem_mem hj, Nx.set g, List.length_set, ?_⟩
  have ht' : (h.set p (bagO a b k q))[t]? = some (.lst xs) := by rw [List.getElem?_set_ne (Ne.symm ne)]; exact ht
  have tr : trim h.length xs[j] (h.set p (bagO a b k q)) = (xs[j], h.set p (bagO a b k q)) := by
    have := trim_same (v := xs[j]) (h := h.set p (bagO a b k q))
    rw [List.length_set] at this
    exact this
  rw [call_def (fn := f__law_some) (v := xs[j]) (h' := h.set p (bagO a b k q)) rfl rfl (by decide) (rt_retG ?_), tr]
  show evE _ _ [some (.ref p), some (.ref t)] h = _
  unfold evE
  rw [show evE ⟨evCall tab gl (n + 1), gl⟩ (.var 1) [some (.ref p), some (.ref t)] h = some (.ref t, h) from p_var rfl]
  simp only
  rw [show evE ⟨evCall tab gl (n + 1), gl⟩ (.call "_law_take" (.cons (.var 0) (.cons (.b1 .len (.var 1)) .nil))) [some (.ref p), some (.ref t)] h = some (.int j, h.set p (bagO a b k q)) from by
    unfold evE
    rw [show evEs ⟨evCall tab gl (n + 1), gl⟩ (.cons (.var 0) (.cons (.b1 .len (.var 1)) .nil)) [some (.ref p), some (.ref t)] h = some ([.ref p, .int xs.length], h) from p_cons (p_var rfl) (p_cons (p_len (p_var rfl) (by
      show (PH.ls h t).map List.length = _
      rw [show PH.ls h t = some xs from by unfold PH.ls; rw [ht]]
      rfl)) p_nil)]
    exact e]
  show ((ixPV (h.set p (bagO a b k q)) (.ref t) (.int j)).map fun v => (v, h.set p (bagO a b k q))) = _
  unfold ixPV
  simp only
  rw [ht']
  simp only
  rw [show ixOf xs.length (j : Int) = some j from by simp [ixOf, L2.ixN, hj]]
  simp [hj]
/-! ### good, data, bounded -/
structure Ok (k : Nat) (h : PH) (v : PV) : Prop where
  gd : Gd h v
  dat : Dat k h v
  bd : v.bd h.length = true
variable {v : PV} {k : Nat} {xs : List PV}
theorem bds_all {m : Nat} : ∀ {xs : List PV}, (∀ x ∈ xs, x.bd m = true) → PV.bds m xs = true
  | [], _ => rfl
  | x :: xs, hx => by
    show (x.bd m && PV.bds m xs) = true
    rw [hx x List.mem_cons_self, bds_all fun y hy => hx y (List.mem_cons_of_mem _ hy)]
    rfl
theorem Ok.app {g : PH} (o : Ok k h v) : Ok k (h ++ g) v := ⟨o.gd.app, o.dat.app, (bds_up (by rw [List.length_append]; omega)).1 v o.bd⟩
theorem Ok.up (o : Ok k h v) : Ok (k + 1) h v := ⟨o.gd, o.dat.up, o.bd⟩
theorem Ok.le {j : Nat} (o : Ok k h v) (hj : k ≤ j) : Ok j h v := by
  obtain ⟨d, rfl⟩ := Nat.le.dest hj
  exact ⟨o.gd, o.dat.ups d, o.bd⟩
theorem Ok.non : Ok 0 h .non := ⟨.non, ⟨_, rfl, rfl⟩, rfl⟩
theorem Ok.bl (b : Bool) : Ok 0 h (.bl b) := ⟨.bl b, ⟨_, rfl, rfl⟩, rfl⟩
theorem Ok.int (i : Int) : Ok 0 h (.int i) := ⟨.int i, ⟨_, rfl, rfl⟩, rfl⟩
theorem Ok.str (s : Str) (z : s.length ≤ 1000) (c : (PyData.str s).canLay0 = true) : Ok 0 h (.str s) := ⟨.str s z c, ⟨_, rfl, c⟩, rfl⟩
theorem Ok.tup (z : xs.length ≤ 500) (hx : ∀ x ∈ xs, Ok k h x) (hk : k ≤ 20) : Ok (k + 1) h (.tup xs) :=
  ⟨.tup xs z (fun x m => (hx x m).gd) (fun x m => ((hx x m).le hk).dat), Dat.tup fun x m => (hx x m).dat, bds_all fun x m => (hx x m).bd⟩
theorem Ok.lst {p : Nat} (e : h[p]? = some (.lst xs)) (hx : ∀ x ∈ xs, Ok k h x) : Ok (k + 1) h (.ref p) := by
  refine ⟨.lst p xs e, ?_, decide_eq_true (lt_of_at e)⟩
  obtain ⟨ds, e1, e2, _⟩ := Dat.lst (k := k) (p := p) (xs := xs) (by unfold PH.ls; rw [e]) fun x m => (hx x m).dat
  exact ⟨_, e1, by rw [PyData.canLay0]; exact e2⟩
end
end K20

end
section
set_option Elab.async false
set_option maxRecDepth 100000
set_option maxHeartbeats 1000000
set_option autoImplicit false
set_option linter.all false
/-! K20cf: rows of unlike names. -/
namespace K20
open PySem Pv
/-! ### plain -/
theorem dd_mem : ∀ {ss : List Str} {x : Str}, x ∈ ddS ss ↔ x ∈ ss
  | [], _ => Iff.rfl
  | s :: ss, x => by
    show x ∈ (if s ∈ ddS ss then ddS ss else s :: ddS ss) ↔ _
    by_cases hs : s ∈ ddS ss
    · rw [if_pos hs, dd_mem, List.mem_cons]
      constructor
      · exact .inr
      · rintro (rfl | e)
        · exact dd_mem.mp hs
        · exact e
    · rw [if_neg hs, List.mem_cons, List.mem_cons, dd_mem]
theorem dd_le : ∀ ss : List Str, (ddS ss).length ≤ ss.length
  | [] => Nat.le_refl _
  | s :: ss => by
    show (if s ∈ ddS ss then ddS ss else s :: ddS ss).length ≤ _
    have := dd_le ss
    split <;> simp <;> omega
theorem dd_nodup : ∀ ss : List Str, (ddS ss).length = ss.length ↔ ss.Nodup
  | [] => by simp [ddS]
  | s :: ss => by
    show (if s ∈ ddS ss then ddS ss else s :: ddS ss).length = _ ↔ _
    have h1 := dd_le ss
    rw [List.nodup_cons, ← dd_nodup ss]
    by_cases hs : s ∈ ddS ss
    · rw [if_pos hs, List.length_cons]
      constructor
      · intro e; omega
      · intro e; exact absurd (dd_mem.mp hs) e.1
    · rw [if_neg hs, List.length_cons, List.length_cons]
      constructor
      · intro e; exact ⟨fun m => hs (dd_mem.mpr m), by omega⟩
      · intro e; rw [e.2]
def ens : Nat → List PV → List PV
  | _, [] => []
  | i, x :: xs => .tup [.int i, x] :: ens (i + 1) xs
theorem ens_at : ∀ (xs : List PV) (k i : Nat), (ens k xs)[i]? = xs[i]?.map fun x => PV.tup [.int ((k + i : Nat) : Int), x]
  | [], _, _ => rfl
  | x :: xs, k, 0 => rfl
  | x :: xs, k, i + 1 => by
    show (ens (k + 1) xs)[i]? = _
    rw [ens_at xs (k + 1) i, List.getElem?_cons_succ]
    rw [show k + 1 + i = k + (i + 1) from by omega]
theorem ens_len : ∀ (xs : List PV) (k : Nat), (ens k xs).length = xs.length
  | [], _ => rfl
  | x :: xs, k => by show (ens (k + 1) xs).length + 1 = _; rw [ens_len xs (k + 1)]; rfl
/-- one that stands not among those before it -/
def fstP (xs : List PV) : PV → Bool
  | .tup [.int k, x] => !((xs.take k.toNat).any fun y => PV.eqF y x)
  | _ => false
def unl (v : PV) : Bool := isT v && (ens 0 (its v)).all (fstP (its v))
theorem unl_names {ss : List Str} : (ens 0 (ss.map PV.str)).all (fstP (ss.map PV.str)) = decide ((ddS ss).length = ss.length) := by
  rw [Bool.eq_iff_iff, decide_eq_true_iff, dd_nodup, List.nodup_iff_pairwise_ne, List.pairwise_iff_getElem, List.all_eq_true]
  constructor
  · intro e i j hi hj hij he
    have h1 : (ens 0 (ss.map PV.str))[j]? = some (.tup [.int ((0 + j : Nat) : Int), .str ss[j]]) := by
      rw [ens_at, List.getElem?_map, List.getElem?_eq_getElem hj]
      rfl
    have h2 := e _ (List.mem_of_getElem? h1)
    rw [show fstP (ss.map PV.str) (.tup [.int ((0 + j : Nat) : Int), .str ss[j]]) = !(((ss.map PV.str).take (((0 + j : Nat) : Int).toNat)).any fun y => PV.eqF y (.str ss[j])) from rfl] at h2
    rw [Int.toNat_natCast, Nat.zero_add, Bool.not_eq_true', List.any_eq_false] at h2
    refine h2 (.str ss[i]) ?_ ?_
    · refine List.mem_of_getElem? (i := i) ?_
      rw [List.getElem?_take_of_lt hij, List.getElem?_map, List.getElem?_eq_getElem hi]
      rfl
    · show (ss[i] == ss[j]) = true
      rw [he]
      exact beq_self_eq_true _
  · intro e p hp
    obtain ⟨j, hj⟩ := List.getElem?_of_mem hp
    have jl : j < ss.length := by
      by_cases hh : j < ss.length
      · exact hh
      · rw [List.getElem?_eq_none (by rw [ens_len, List.length_map]; omega)] at hj
        cases hj
    rw [ens_at, List.getElem?_map, List.getElem?_eq_getElem jl] at hj
    cases hj
    show (!(((ss.map PV.str).take (((0 + j : Nat) : Int).toNat)).any fun y => PV.eqF y (.str ss[j]))) = true
    rw [Int.toNat_natCast, Nat.zero_add, Bool.not_eq_true', List.any_eq_false]
    intro y hy hq
    obtain ⟨i, hi⟩ := List.getElem?_of_mem hy
    have il : i < j := by
      by_cases hh : i < j
      · exact hh
      · rw [List.getElem?_eq_none (by rw [List.length_take]; omega)] at hi
        cases hi
    rw [List.getElem?_take_of_lt il, List.getElem?_map, List.getElem?_eq_getElem (by omega : i < ss.length)] at hi
    cases hi
    exact e i j (by omega) jl il (beq_iff_eq.mp (show (ss[i] == ss[j]) = true from hq))
theorem strs_is : ∀ {xs : List PV}, (∀ x ∈ xs, isS x = true) → ∃ ss, xs = ss.map PV.str ∧ strsOf xs = some ss
  | [], _ => ⟨[], rfl, rfl⟩
  | x :: xs, hx => by
    obtain ⟨ss, e1, e2⟩ := strs_is fun y hy => hx y (List.mem_cons_of_mem _ hy)
    have := hx x List.mem_cons_self
    cases x with
    | str s => exact ⟨s :: ss, by rw [e1]; rfl, by show (strsOf xs).map _ = _; rw [e2]; rfl⟩
    | _ => cases this
section
variable {n : Nat} {C : Cl} {ρ : PEnv} {h : PH} {v : PV}
/-! ### rows of unlike names -/
theorem c_is_names_list (g : Gd h v) (bd : Bd h) : Cal (n + 3) "is_names_list" [v] h (.bl (tupOf isName v && unl v)) := by
  refine call_same (fn := f_is_names_list) rfl rfl (by decide) ?_
  refine rt_ret (p_and (p_call (p_cons (p_var rfl) (p_cons (p_gl (v := .fn "is_name") rfl) p_nil)) (c_names g bd)) fun e => ?_)
  obtain ⟨t, a⟩ := tup_of e
  obtain ⟨ss, e1, e2⟩ := strs_is fun x hx => name_s (a x hx)
  have sl : ss.length ≤ 1000 := by have := its_len g; rw [e1, List.length_map] at this; exact this
  have el : Pe ⟨evCall tab gl (n + 2), gl⟩ [some v] h (.lenset (.var 0)) (.int (ddS ss).length) := by
    show evE _ _ _ _ = _
    unfold evE
    rw [show evE ⟨evCall tab gl (n + 2), gl⟩ (.var 0) [some v] h = some (v, h) from p_var rfl]
    simp only
    rw [its_t t]
    show ((strsOf (its v)).bind fun xs => if xs.length < 4000 then some (PV.int (ddS xs).length, h) else none) = _
    rw [e2]
    show (if ss.length < 4000 then _ else _ : Option (PV × PH)) = _
    rw [if_pos (by omega)]
  have eu : unl v = ((ddS ss).length == (lenT v : Int)) := by
    unfold unl
    rw [t, e1, unl_names, lenT_its, e1, List.length_map, Bool.eq_iff_iff, Bool.true_and, decide_eq_true_iff, beq_iff_eq]
    omega
  rw [eu]
  exact p_cmp el (p_len (p_var rfl) (len_t t)) (eq_int (h := h))
theorem c_is_params (g : Gd h v) (bd : Bd h) : Cal (n + 4) "is_params" [v] h (.bl ((tupOf isName v && unl v) && len26 v)) := by
  refine call_same (fn := f_is_params) rfl rfl (by decide) ?_
  refine rt_ret (p_and (p_call (p_cons (p_var rfl) p_nil) (c_is_names_list g bd)) fun e => ?_)
  obtain ⟨t, a⟩ := tup_of (Bool.and_eq_true_iff.mp e).1
  exact p_cmp2 (p_gl (v := .int 2) rfl) (p_len (p_var rfl) (len_t t)) (p_gl (v := .int 6) rfl) rfl rfl
end
end K20

end
section
set_option Elab.async false
set_option maxRecDepth 100000
set_option maxHeartbeats 1000000
set_option autoImplicit false
set_option linter.all false
/-! K20cg: what the law itself asks of a plain thing. -/
namespace K20
open PySem Pv
section
variable {n : Nat} {C : Cl} {ρ : PEnv} {h : PH} {v : PV}
theorem sl_to {k : Nat} (g : isT v = true) : slPV h v none (some (k : Int)) = some (.tup ((its v).take k), h) := by
  rw [its_t g]
  show some (PV.tup (cutP (its v) none (some (k : Int))), h) = _
  unfold cutP
  rw [HT.sIx_nat]
  show some (PV.tup (((its v).drop 0).take (min k (its v).length - 0)), h) = some (PV.tup ((its v).take k), h)
  rw [List.drop_zero, Nat.sub_zero]
  congr 3
  by_cases hk : k ≤ (its v).length
  · rw [Nat.min_eq_left hk]
  · rw [Nat.min_eq_right (by omega), List.take_of_length_le (by omega), List.take_of_length_le (by omega)]
theorem enum_at {xs : List PV} (i : Nat) : svAt h (.enum (.fix xs)) i = some (ens 0 xs)[i]? := by
  rw [ens_at, Nat.zero_add]
  show (match some xs[i]? with | some (some x) => some (some (PV.tup [.int i, x])) | some none => some none | none => none) = _
  cases xs[i]? <;> rfl
theorem p_unlike (g : Gd h v) (bd : Bd h) (hv : ρ[3]? = some (some v)) (fl : ∀ x ∈ its v, x.flat = true)
    (hr : ∀ a b, ∃ ρx, bindTg (wipeP ρ [21, 18]) (.tup [21, 18]) (.tup [a, b]) = some ρx ∧ ρx[3]? = some (some v) ∧ ρx[18]? = some (some b) ∧ ρx[21]? = some (some a)) :
    Pe C ρ h (.and (.isi (.var 3) "tuple") (.cmp .eq (.b1 .len (.var 3)) (.b1 .len (.lc (.var 21) (.tup [21, 18]) (.enum (.var 3)) [21, 18] (.some (.cmp .notin (.var 18) (.sl (.var 3) .none (.some (.var 21))))))))) (.bl (unl v)) := by
  unfold unl
  refine p_and (p_isi (p_var hv) (k_tup g)) fun t => ?_
  have lc := e_lc (C := C) (a := .var 21) (tg := .tup [21, 18]) (s := .enum (.var 3)) (own := [21, 18]) (cnd := .some (.cmp .notin (.var 18) (.sl (.var 3) .none (.some (.var 21))))) (sv := .enum (.fix (its v))) (ρ := ρ) (h := h) (xs := ens 0 (its v)) (F := fun p => if fstP (its v) p = true then some (match p with | .tup [a, _] => a | x => x) else none) (by
    unfold evS
    rw [show evE C (.var 3) ρ h = some (v, h) from p_var hv]
    show (seqSV h v).map _ = _
    rw [its_t t]
    rfl) enum_at (turns_ok (by rw [ens_len]; exact its_len g)) fun p hp => by
      obtain ⟨j, hj⟩ := List.getElem?_of_mem hp
      have jl : j < (its v).length := by
        by_cases hh : j < (its v).length
        · exact hh
        · rw [List.getElem?_eq_none (by rw [ens_len]; omega)] at hj
          cases hj
      rw [ens_at, List.getElem?_eq_getElem jl, Nat.zero_add] at hj
      cases hj
      obtain ⟨ρx, r1, r2, r3, r4⟩ := hr (.int (j : Int)) (its v)[j]
      refine ⟨ρx, r1, ?_⟩
      have hc : Pe C ρx h (.cmp .notin (.var 18) (.sl (.var 3) .none (.some (.var 21)))) (.bl (fstP (its v) (.tup [.int (j : Int), (its v)[j]]))) := by
        refine p_cmp (p_var r3) (p_sl (p_var r2) o_no (o_yes (p_var r4)) (sl_to t)) ?_
        refine notin_of ?_
        show (if (its v)[j].flat && ((its v).take j).all PV.flat then some (((its v).take j).any fun y => PV.eqF y (its v)[j]) else none) = _
        rw [fl _ (List.getElem_mem jl), List.all_eq_true.mpr fun x hx => fl x (List.mem_of_mem_take hx)]
        rfl
      have hc' : evC C (.some (.cmp .notin (.var 18) (.sl (.var 3) .none (.some (.var 21))))) ρx h = some (fstP (its v) (.tup [.int (j : Int), (its v)[j]]), h) := by
        unfold evC
        rw [hc]
        rfl
      by_cases hb : fstP (its v) (.tup [.int (j : Int), (its v)[j]]) = true
      · rw [hb] at hc'
        exact .inr ⟨hc', _, p_var r4, if_pos hb⟩
      · rw [Bool.not_eq_true _ |>.mp hb] at hc'
        exact .inl ⟨hc', if_neg hb⟩
  have e2 : Pe C ρ h (.b1 .len (.lc (.var 21) (.tup [21, 18]) (.enum (.var 3)) [21, 18] (.some (.cmp .notin (.var 18) (.sl (.var 3) .none (.some (.var 21))))))) _ := p_b1G (g1 := [.lst _]) (g2 := [.lst _]) (v := .int ((ens 0 (its v)).filterMap fun p => if fstP (its v) p = true then some (match p with | .tup [a, _] => a | x => x) else none).length) bd lc (by
    show ((PH.ls (h ++ [.lst _]) h.length).map List.length).map _ = _
    rw [ls_new]
    rfl) rfl
  have e3 : (ens 0 (its v)).all (fstP (its v)) = ((lenT v : Int) == ((ens 0 (its v)).filterMap fun p => if fstP (its v) p = true then some (match p with | .tup [a, _] => a | x => x) else none).length) := by
    rw [lenT_its, ← ens_len (its v) 0]
    generalize ens 0 (its v) = l
    generalize fstP (its v) = P
    generalize hG : (fun p : PV => match p with | .tup [a, _] => a | x => x) = G
    have : ∀ l : List PV, (l.filterMap fun p => if P p = true then some (G p) else none).length ≤ l.length := fun l => List.length_filterMap_le _ _
    have key : ∀ l : List PV, l.all P = ((l.length : Int) == (l.filterMap fun p => if P p = true then some (G p) else none).length) := by
      intro l
      induction l with
      | nil => rfl
      | cons x l ih =>
        have h1 := this l
        rw [List.all_cons, ih, List.filterMap_cons]
        cases hx : P x with
        | true =>
          rw [if_pos rfl, Bool.true_and, Bool.eq_iff_iff, beq_iff_eq, beq_iff_eq]
          simp only [List.length_cons]
          omega
        | false =>
          rw [if_neg (by decide), Bool.false_and, Bool.eq_iff_iff, beq_iff_eq]
          simp only [List.length_cons]
          constructor
          · intro e; cases e
          · intro e; omega
    subst hG
    exact key l
  rw [e3]
  exact p_cmp (p_len (p_var hv) (len_t t)) e2 (eq_int (h := h))
theorem p_ints {m : Nat} (g : Gd h v) (bd : Bd h) (hv : ρ[3]? = some (some v)) (hr : ∀ b, ∃ ρx, bindTg (wipeP ρ [18]) (.one 18) b = some ρx ∧ ρx[18]? = some (some b)) :
    Pe ⟨evCall tab gl (m + 1), gl⟩ ρ h (.and (.isi (.var 3) "tuple") (.cmp .eq (.lc (.var 18) (.one 18) (.it (.var 3)) [18] (.some (.not (.call "_law_is_integer" (.cons (.var 18) .nil))))) (.lst .nil))) (.bl (tupOf isInt v)) := by
  refine p_and (p_isi (p_var hv) (k_tup g)) fun t => ?_
  obtain ⟨s1, s2⟩ := s_it (C := ⟨evCall tab gl (m + 1), gl⟩) (ρ := ρ) (h := h) (a := .var 3) (xs := its v) (by rw [← its_t t]; exact p_var hv)
  have e1 : (its v).all isInt = (its v).all fun x => !(!isInt x) := by
    congr 1
    funext x
    rw [Bool.not_not]
  rw [e1]
  refine p_none (fun x => !isInt x) id bd s1 s2 (turns_ok (its_len g)) (fun x hx => ?_) fun x hx => (gd_its g x hx).2.ups 3
  obtain ⟨ρx, r1, r2⟩ := hr x
  exact ⟨ρx, r1, p_not (p_call (p_cons (p_var r2) p_nil) (c_law_is_integer (gd_its g x hx).1)), p_var r2⟩
theorem give_alt : (isT v && ((its v).isEmpty || (((lenT v : Int) == 1) && isName (it v 0)))) = isGive v := by
  unfold isGive tupOf
  cases v with
  | tup xs => match xs with
    | [] => rfl
    | [x] =>
      show (true && (false || (((1 : Nat) : Int) == 1) && isName x)) = ((true && (isName x && true)) && decide (((1 : Nat) : Int) ≤ 1))
      cases isName x <;> rfl
    | x :: y :: r =>
      show (true && (false || ((((r.length + 1 + 1 : Nat) : Int) == 1) && isName x))) = ((true && (isName x && (isName y && r.all isName))) && decide (((r.length + 1 + 1 : Nat) : Int) ≤ 1))
      rw [decide_eq_false (by omega), show ((((r.length + 1 + 1 : Nat) : Int)) == 1) = false from by rw [beq_eq_false_iff_ne]; omega]
      simp
  | _ => rfl
theorem c_law_is_give (g : Gd h v) (bd : Bd h) : Cal (n + 2) "_law_is_give" [v] h (.bl (isGive v)) := by
  refine call_same (fn := f__law_is_give) rfl rfl (by decide) ?_
  rw [← give_alt]
  refine rt_ret (p_and (p_isi (p_var rfl) (k_tup g)) fun t => p_or (p_cmp (p_var rfl) (p_tup p_nil (by decide)) (eq_nilT g t)) fun _ => p_and (p_cmp (p_len (p_var rfl) (len_t t)) p_int (eq_int (h := h))) fun e => ?_)
  have hl : (its v).length = 1 := by rw [← lenT_its]; have := beq_iff_eq.mp e; omega
  exact p_call (p_cons (p_ix (p_var rfl) p_int (ix_it t (i := 0) (by omega))) p_nil) (c_law_is_name (gd_its g _ (it_mem (by omega))).1 bd)
end
end K20

end
section
set_option maxRecDepth 100000
set_option maxHeartbeats 1000000
set_option autoImplicit false
set_option linter.all false
/-! K20ch: the law's text in parts (printed by cutlaw.py). -/
namespace K20
open PySem Pv
abbrev L_0_E : IE := (.call "_law_bag" (.cons (.var 0) .nil))
abbrev L_0 : IT := .asg 1 L_0_E
abbrev L_1_E : IE := (.lst (.cons (.con .non) (.cons (.con (.bl true)) (.cons (.con (.bl false)) (.cons (.con (.int 0)) (.cons (.con (.int 7)) (.cons (.con (.int 8)) (.cons (.neg (.con (.int 1))) (.cons (.bin .pow (.con (.int 10)) (.con (.int 12))) (.cons (.con (.str "x")) (.cons (.con (.str "result")) (.cons (.con (.str "rising")) (.cons (.con (.str "less")) (.cons (.con (.str "x9")) (.cons (.con (.str "9x")) (.cons (.con (.str "0a")) (.cons (.con (.str "12b")) (.cons (.con (.str "01a")) (.cons (.con (.str "a")) (.cons (.con (.str "X")) (.cons (.con (.str "")) (.cons (.con (.str "abcdefgh")) (.cons (.con (.str "abcdefghi")) (.cons (.con (.str "a b")) (.cons (.tup .nil) .nil)))))))))))))))))))))))))
abbrev L_1 : IT := .asg 2 L_1_E
abbrev L_2_E : IE := (.bin .add (.var 2) (.lst (.cons (.tup (.cons (.con (.str "x")) .nil)) (.cons (.lst (.cons (.con (.str "x")) .nil)) (.cons .dct0 (.cons (.tup (.cons (.con (.str "x")) (.cons (.con (.str "y")) .nil))) (.cons (.tup (.cons (.con (.str "y")) (.cons (.con (.str "x")) .nil))) (.cons (.tup (.cons (.con (.str "x")) (.cons (.con (.str "x")) .nil))) (.cons (.tup (.cons (.con (.str "x")) (.cons (.con .non) .nil))) .nil)))))))))
abbrev L_2 : IT := .asg 2 L_2_E
abbrev L_3_E : IE := (.bin .add (.var 2) (.lst (.cons (.tup (.cons (.con (.str "result")) (.cons (.con (.str "x")) .nil))) (.cons (.tup (.cons (.con (.int 1)) (.cons (.con (.int 2)) .nil))) (.cons (.tup (.cons (.con (.int 1)) (.cons (.con (.bl true)) .nil))) (.cons (.tup (.cons (.con (.str "a")) (.cons (.con (.str "b")) (.cons (.con (.str "c")) (.cons (.con (.str "d")) (.cons (.con (.str "e")) (.cons (.con (.str "f")) .nil))))))) (.cons (.tup (.cons (.con (.str "a")) (.cons (.con (.str "b")) (.cons (.con (.str "c")) (.cons (.con (.str "d")) (.cons (.con (.str "e")) (.cons (.con (.str "f")) (.cons (.con (.str "g")) .nil)))))))) (.cons (.tup (.cons (.neg (.con (.int 3))) (.cons (.con (.int 0)) (.cons (.con (.int 9)) .nil)))) (.cons (.lst (.cons (.con (.int 1)) .nil)) .nil)))))))))
abbrev L_3 : IT := .asg 2 L_3_E
abbrev L_4_0_E : IE := (.lst (.cons (.call "is_integer" (.cons (.var 3) .nil)) (.cons (.call "is_count" (.cons (.var 3) .nil)) (.cons (.call "is_register" (.cons (.var 3) .nil)) (.cons (.call "is_name" (.cons (.var 3) .nil)) (.cons (.call "is_told_name" (.cons (.var 3) .nil)) (.cons (.call "is_own_name" (.cons (.var 3) .nil)) (.cons (.call "is_cut_name" (.cons (.var 3) .nil)) (.cons (.call "is_key" (.cons (.var 3) .nil)) .nil)))))))))
abbrev L_4_0 : IT := .asg 5 L_4_0_E
abbrev L_4_1_E : IE := (.lst (.cons (.call "_law_is_integer" (.cons (.var 3) .nil)) (.cons (.call "_law_is_count" (.cons (.var 3) .nil)) (.cons (.call "_law_is_register" (.cons (.var 3) .nil)) (.cons (.call "_law_is_name" (.cons (.var 3) .nil)) (.cons (.call "_law_is_told_name" (.cons (.var 3) .nil)) (.cons (.call "_law_is_own_name" (.cons (.var 3) .nil)) .nil)))))))
abbrev L_4_1 : IT := .asg 6 L_4_1_E
abbrev L_4_2_E : IE := (.bin .add (.var 6) (.lst (.cons (.call "_law_is_cut_name" (.cons (.var 3) .nil)) (.cons (.call "_law_is_of" (.cons (.var 3) (.cons (.con (.str "k")) .nil))) .nil))))
abbrev L_4_2 : IT := .asg 6 L_4_2_E
abbrev L_4_3_C : IE := (.not (.call "_law_alike" (.cons (.var 5) (.cons (.var 6) .nil))))
abbrev L_4_3 : IT := .ite L_4_3_C (.cons (.ret (.con (.bl false))) .nil) .nil
abbrev L_4_4_E : IE := (.call "_law_are" (.cons (.var 3) (.cons (.con (.str "n")) (.cons (.con (.int 0)) .nil))))
abbrev L_4_4 : IT := .asg 7 L_4_4_E
abbrev L_4_5_E : IE := (.and (.isi (.var 3) "tuple") (.cmp .eq (.b1 .len (.var 3)) (.b1 .len (.lc (.var 21) (.tup [21, 18]) (.enum (.var 3)) [21, 18] (.some (.cmp .notin (.var 18) (.sl (.var 3) .none (.some (.var 21)))))))))
abbrev L_4_5 : IT := .asg 8 L_4_5_E
abbrev L_4_6_E : IE := (.and (.isi (.var 3) "tuple") (.cmp .eq (.lc (.var 18) (.one 18) (.it (.var 3)) [18] (.some (.not (.call "_law_is_integer" (.cons (.var 18) .nil))))) (.lst .nil)))
abbrev L_4_6 : IT := .asg 9 L_4_6_E
abbrev L_4_7_E : IE := (.lst (.cons (.call "is_names_list" (.cons (.var 3) .nil)) (.cons (.call "is_names" (.cons (.var 3) .nil)) (.cons (.call "is_tuple_of" (.cons (.var 3) (.cons (.gl "is_name") .nil))) (.cons (.call "is_args" (.cons (.var 3) .nil)) (.cons (.call "is_params" (.cons (.var 3) .nil)) (.cons (.call "is_row" (.cons (.var 3) .nil)) (.cons (.call "is_give" (.cons (.var 3) .nil)) .nil))))))))
abbrev L_4_7 : IT := .asg 5 L_4_7_E
abbrev L_4_8_C : IE := (.not (.call "_law_alike" (.cons (.var 5) (.cons (.lst (.cons (.and (.var 7) (.var 8)) (.cons (.and (.var 7) (.call "_law_rises_up" (.cons (.var 3) .nil))) (.cons (.var 7) (.cons (.call "_law_is_of" (.cons (.var 3) (.cons (.con (.str "args")) .nil))) (.cons (.and (.call "_law_is_of" (.cons (.var 3) (.cons (.con (.str "args")) .nil))) (.var 8)) (.cons (.var 9) (.cons (.call "_law_is_give" (.cons (.var 3) .nil)) .nil)))))))) .nil))))
abbrev L_4_8 : IT := .ite L_4_8_C (.cons (.ret (.con (.bl false))) .nil) .nil
abbrev L_4_B : ITs := (.cons L_4_0 (.cons L_4_1 (.cons L_4_2 (.cons L_4_3 (.cons L_4_4 (.cons L_4_5 (.cons L_4_6 (.cons L_4_7 (.cons L_4_8 .nil)))))))))
abbrev L_4_S : IS := (.it (.var 2))
abbrev L_4 : IT := .fr (.one 3) L_4_S L_4_B
abbrev L_5_0_E : IE := (.lst (.cons (.con (.str "x")) (.cons (.con (.str "y")) (.cons (.con (.str "result")) .nil))))
abbrev L_5_0 : IT := .asg 7 L_5_0_E
abbrev L_5_1_E : IE := (.tup (.cons (.call "_law_some" (.cons (.var 1) (.cons (.lst (.cons (.con (.str "same")) (.cons (.con (.str "ahead")) (.cons (.con (.str "upto")) .nil)))) .nil))) (.cons (.call "_law_some" (.cons (.var 1) (.cons (.var 7) .nil))) (.cons (.call "_law_some" (.cons (.var 1) (.cons (.var 7) .nil))) .nil))))
abbrev L_5_1 : IT := .asg 10 L_5_1_E
abbrev L_5_2_E : IE := (.lst (.cons (.tup (.cons (.con (.str "x")) .nil)) (.cons (.tup (.cons (.con (.str "x")) (.cons (.con (.str "y")) .nil))) (.cons (.tup (.cons (.con (.str "result")) .nil)) (.cons (.tup (.cons (.con (.str "y")) (.cons (.con (.str "result")) .nil))) .nil)))))
abbrev L_5_2 : IT := .asg 11 L_5_2_E
abbrev L_5_3_E : IE := (.call "_law_some" (.cons (.var 1) (.cons (.lst (.cons (.tup (.cons (.con (.str "rising")) (.cons (.call "_law_some" (.cons (.var 1) (.cons (.var 7) .nil))) (.cons (.con (.str "y")) .nil)))) (.cons (.tup (.cons (.call "_law_some" (.cons (.var 1) (.cons (.lst (.cons (.con (.str "atmost")) (.cons (.con (.str "below")) .nil))) .nil))) (.cons (.call "_law_some" (.cons (.var 1) (.cons (.var 11) .nil))) (.cons (.call "_law_some" (.cons (.var 1) (.cons (.var 11) .nil))) .nil)))) .nil))) .nil)))
abbrev L_5_3 : IT := .asg 12 L_5_3_E
abbrev L_5_4_E : IE := (.call "_law_some" (.cons (.var 1) (.cons (.lst (.cons (.tup (.cons (.tup (.cons (.var 10) .nil)) (.cons (.tup (.cons (.var 12) .nil)) .nil))) (.cons (.tup (.cons (.tup .nil) (.cons (.tup (.cons (.var 12) (.cons (.var 12) .nil))) .nil))) (.cons (.tup (.cons (.tup (.cons (.var 10) (.cons (.var 10) .nil))) (.cons (.tup .nil) .nil))) (.cons (.tup (.cons (.tup .nil) (.cons (.tup .nil) .nil))) .nil))))) .nil)))
abbrev L_5_4 : IT := .asg 13 L_5_4_E
abbrev L_5_5_E : IE := (.lst (.cons (.con (.int 0)) (.cons (.tup .nil) (.cons (.tup (.cons (.var 10) .nil)) (.cons (.tup (.cons (.var 12) .nil)) (.cons (.tup (.cons (.tup (.cons (.ix (.var 10) (.con (.int 0))) (.cons (.con (.str "x")) (.cons (.con .non) .nil)))) .nil)) (.cons (.tup (.cons (.tup (.cons (.con (.str "rising")) (.cons (.con (.str "x")) .nil))) .nil)) (.cons (.tup (.cons (.tup (.cons (.con (.str "below")) (.cons (.tup (.cons (.con (.str "x")) .nil)) (.cons (.tup .nil) .nil)))) .nil)) (.cons (.tup (.cons (.tup (.cons (.con (.str "below")) (.cons (.tup (.cons (.con (.str "x")) (.cons (.con (.str "y")) (.cons (.con (.str "x")) .nil)))) (.cons (.tup (.cons (.con (.str "x")) .nil)) .nil)))) .nil)) .nil)))))))))
abbrev L_5_5 : IT := .asg 14 L_5_5_E
abbrev L_5_6_E : IE := (.bin .add (.var 14) (.lst (.cons (.tup (.cons (.tup (.cons (.con (.str "same")) (.cons (.con (.str "x")) (.cons (.con (.str "less")) .nil)))) .nil)) (.cons (.lst (.cons (.var 10) .nil)) (.cons (.tup (.cons (.tup (.cons (.con (.str "upto")) (.cons (.lst (.cons (.con (.str "x")) .nil)) (.cons (.con (.str "y")) .nil)))) .nil)) .nil)))))
abbrev L_5_6 : IT := .asg 14 L_5_6_E
abbrev L_5_7_0_E : IE := (.call "_law_is_saying" (.cons (.var 3) .nil))
abbrev L_5_7_0 : IT := .asg 17 L_5_7_0_E
abbrev L_5_7_1_C : IE := (.not (.call "_law_alike" (.cons (.lst (.cons (.call "is_saying_form" (.cons (.var 3) .nil)) (.cons (.call "is_plain_saying" (.cons (.var 3) .nil)) .nil))) (.cons (.lst (.cons (.var 17) (.cons (.and (.var 17) (.cmp .notin (.con (.str "result")) (.call "_law_spoken" (.cons (.var 3) .nil)))) .nil))) .nil))))
abbrev L_5_7_1 : IT := .ite L_5_7_1_C (.cons (.ret (.con (.bl false))) .nil) .nil
abbrev L_5_7_B : ITs := (.cons L_5_7_0 (.cons L_5_7_1 .nil))
abbrev L_5_7_S : IS := (.it (.call "_law_odds" (.cons (.var 13) (.cons (.var 14) .nil))))
abbrev L_5_7 : IT := .fr (.one 3) L_5_7_S L_5_7_B
abbrev L_5_8_C : IE := (.cmp .ne (.call "told_names_of" (.cons (.var 13) .nil)) (.b1 .tuple (.call "_law_spoken" (.cons (.var 13) .nil))))
abbrev L_5_8 : IT := .ite L_5_8_C (.cons (.ret (.con (.bl false))) .nil) .nil
abbrev L_5_9_E : IE := (.tup (.cons (.sl (.tup (.cons (.con (.int 3)) (.cons (.neg (.con (.int 1))) (.cons (.con (.int 3)) .nil)))) .none (.some (.call "_law_take" (.cons (.var 1) (.cons (.con (.int 4)) .nil))))) (.cons (.sl (.tup (.cons (.tup (.cons (.con (.str "a")) (.cons (.con (.int 1)) .nil))) (.cons (.tup (.cons (.con (.str "result")) (.cons (.con (.int 0)) .nil))) (.cons (.tup (.cons (.con (.str "0a")) (.cons (.con (.int 2)) .nil))) .nil)))) .none (.some (.call "_law_take" (.cons (.var 1) (.cons (.con (.int 4)) .nil))))) .nil)))
abbrev L_5_9 : IT := .asg 15 L_5_9_E
abbrev L_5_10_0_E : IE := (.and (.call "_law_is_sized" (.cons (.var 3) (.cons (.con (.int 2)) .nil))) (.and (.isi (.ix (.var 3) (.con (.int 0))) "tuple") (.and (.cmp .eq (.lc (.var 18) (.one 18) (.it (.ix (.var 3) (.con (.int 0)))) [18] (.some (.not (.call "_law_is_integer" (.cons (.var 18) .nil))))) (.lst .nil)) (.isi (.ix (.var 3) (.con (.int 1))) "tuple"))))
abbrev L_5_10_0 : IT := .asg 6 L_5_10_0_E
abbrev L_5_10_1_E : IE := (.and (.var 6) (.cmp .eq (.lc (.var 9) (.one 9) (.it (.ix (.var 3) (.con (.int 1)))) [9] (.some (.not (.and (.call "_law_is_sized" (.cons (.var 9) (.cons (.con (.int 2)) .nil))) (.and (.call "_law_is_cut_name" (.cons (.ix (.var 9) (.con (.int 0))) .nil)) (.call "_law_is_count" (.cons (.ix (.var 9) (.con (.int 1))) .nil))))))) (.lst .nil)))
abbrev L_5_10_1 : IT := .asg 6 L_5_10_1_E
abbrev L_5_10_2_C : IE := (.cmp .ne (.call "is_memory_form" (.cons (.var 3) .nil)) (.var 6))
abbrev L_5_10_2 : IT := .ite L_5_10_2_C (.cons (.ret (.con (.bl false))) .nil) .nil
abbrev L_5_10_B : ITs := (.cons L_5_10_0 (.cons L_5_10_1 (.cons L_5_10_2 .nil)))
abbrev L_5_10_S : IS := (.it (.call "_law_odds" (.cons (.var 15) (.cons (.lst (.cons (.con (.int 0)) (.cons (.tup .nil) (.cons (.tup (.cons (.con (.int 1)) .nil)) (.cons (.tup (.cons (.con (.bl true)) .nil)) (.cons (.tup (.cons (.tup (.cons (.con (.str "x")) (.cons (.con (.int 1)) .nil))) .nil)) (.cons (.tup (.cons (.tup (.cons (.con (.str "x")) (.cons (.neg (.con (.int 1))) .nil))) .nil)) (.cons (.tup (.cons (.tup (.cons (.con (.str "01a")) (.cons (.con (.int 1)) .nil))) .nil)) (.cons (.tup (.cons (.tup (.cons (.con (.str "x")) (.cons (.con (.bl true)) .nil))) .nil)) (.cons (.tup (.cons (.tup (.cons (.con (.str "less")) (.cons (.con (.int 1)) .nil))) .nil)) (.cons (.lst (.cons (.con (.int 1)) .nil)) .nil))))))))))) .nil))))
abbrev L_5_10 : IT := .fr (.one 3) L_5_10_S L_5_10_B
abbrev L_5_11_E : IE := (.tup (.cons (.tup (.cons (.tup (.cons (.con (.str "a")) .nil)) (.cons (.tup (.cons (.con (.str "0a")) (.cons (.con (.str "b")) .nil))) .nil))) (.cons (.tup (.cons (.con (.int 1)) (.cons (.call "_law_take" (.cons (.var 1) (.cons (.con (.int 5)) .nil))) .nil))) (.cons (.tup (.cons (.tup (.cons (.con (.int 0)) (.cons (.con (.int 1)) .nil))) (.cons (.tup (.cons (.con (.int 2)) (.cons (.call "_law_take" (.cons (.var 1) (.cons (.con (.int 4)) .nil))) .nil))) .nil))) .nil))))
abbrev L_5_11 : IT := .asg 16 L_5_11_E
abbrev L_5_12_0_E : IE := (.and (.call "_law_is_sized" (.cons (.var 3) (.cons (.con (.int 3)) .nil))) (.cmp .eq (.lc (.var 19) (.one 19) (.it (.var 3)) [19] (.some (.not (.isi (.var 19) "tuple")))) (.lst .nil)))
abbrev L_5_12_0 : IT := .asg 6 L_5_12_0_E
abbrev L_5_12_1_C : IE := (.var 6)
abbrev L_5_12_1 : IT := .ite L_5_12_1_C (.cons (.asg 6 (.cmp .eq (.lc (.var 20) (.one 20) (.it (.ix (.var 3) (.con (.int 0)))) [20] (.some (.not (.and (.isi (.var 20) "tuple") (.and (.cmp .eq (.lc (.var 18) (.one 18) (.it (.var 20)) [18] (.some (.not (.call "_law_is_cut_name" (.cons (.var 18) .nil))))) (.lst .nil)) (.call "_law_rises_up" (.cons (.var 20) .nil))))))) (.lst .nil))) (.cons (.asg 6 (.and (.var 6) (.cmp .eq (.lc (.var 22) (.one 22) (.it (.ix (.var 3) (.con (.int 1)))) [22] (.some (.not (.and (.call "_law_is_integer" (.cons (.var 22) .nil)) (.cmp2 .le .le (.con (.int 1)) (.var 22) (.con (.int 3))))))) (.lst .nil)))) (.cons (.asg 6 (.and (.var 6) (.cmp .eq (.lc (.var 9) (.one 9) (.it (.ix (.var 3) (.con (.int 2)))) [9] (.some (.not (.and (.isi (.var 9) "tuple") (.cmp .eq (.lc (.var 18) (.one 18) (.it (.var 9)) [18] (.some (.not (.and (.call "_law_is_integer" (.cons (.var 18) .nil)) (.cmp2 .le .le (.con (.int 0)) (.var 18) (.con (.int 2))))))) (.lst .nil)))))) (.lst .nil)))) .nil))) .nil
abbrev L_5_12_2_C : IE := (.cmp .ne (.call "is_world_form" (.cons (.var 3) .nil)) (.var 6))
abbrev L_5_12_2 : IT := .ite L_5_12_2_C (.cons (.ret (.con (.bl false))) .nil) .nil
abbrev L_5_12_B : ITs := (.cons L_5_12_0 (.cons L_5_12_1 (.cons L_5_12_2 .nil)))
abbrev L_5_12_S : IS := (.it (.call "_law_odds" (.cons (.var 16) (.cons (.lst (.cons (.con (.int 0)) (.cons (.tup .nil) (.cons (.tup (.cons (.tup (.cons (.con (.str "b")) (.cons (.con (.str "a")) .nil))) .nil)) (.cons (.tup (.cons (.tup (.cons (.con (.str "a")) (.cons (.con (.str "a")) .nil))) .nil)) (.cons (.tup (.cons (.con (.int 3)) .nil)) (.cons (.tup (.cons (.con (.bl true)) .nil)) (.cons (.tup (.cons (.tup (.cons (.con (.int 0)) (.cons (.con (.int 3)) .nil))) .nil)) (.cons (.tup (.cons (.con (.int 0)) .nil)) (.cons (.lst (.cons (.tup .nil) .nil)) .nil)))))))))) .nil))))
abbrev L_5_12 : IT := .fr (.one 3) L_5_12_S L_5_12_B
abbrev L_5_B : ITs := (.cons L_5_0 (.cons L_5_1 (.cons L_5_2 (.cons L_5_3 (.cons L_5_4 (.cons L_5_5 (.cons L_5_6 (.cons L_5_7 (.cons L_5_8 (.cons L_5_9 (.cons L_5_10 (.cons L_5_11 (.cons L_5_12 .nil)))))))))))))
abbrev L_5_S : IS := (.rng (.con (.int 4)))
abbrev L_5 : IT := .fr (.one 4) L_5_S L_5_B
abbrev L_6 : IT := (.ret (.con (.bl true)))
theorem law_is : f_law = ⟨1, 23, (.cons L_0 (.cons L_1 (.cons L_2 (.cons L_3 (.cons L_4 (.cons L_5 (.cons L_6 .nil)))))))⟩ := rfl
end K20

end
section
set_option Elab.async false
set_option maxRecDepth 100000
set_option maxHeartbeats 1000000
set_option autoImplicit false
set_option linter.all false
/-! K20ci: one plain thing. -/
namespace K20
open PySem Pv
abbrev C29 : Cl := ⟨evCall tab gl 29, gl⟩
section
variable {C : Cl} {ρ : PEnv} {h h' : PH} {v : PV} {ts ta : ITs} {c : IE} {r : Option (Fl × PH)} {vs us : List PV} {es fs : IEs}
/-- if not c: return False, where c holds -/
theorem sk_not {c : IE} (hc : evE C c ρ h = some (.bl true, h')) (hr : evTs C ts ρ h' = r) : evTs C (.cons (.ite (.not c) ta .nil) ts) ρ h = r := by
  unfold evTs evT
  rw [show evE C (.not c) ρ h = some (.bl false, h') from by
    unfold evE
    rw [hc]
    rfl]
  exact hr
theorem bd_bls (bd : Bd h) (bs : List Bool) : Bd (h ++ [.lst (bs.map .bl)]) := Bd.snoc bd (bds_bls bs)
theorem e_plus {i p : Nat} {xs : List PV} (hv : ρ[i]? = some (some (.ref p))) (hp : h[p]? = some (.lst xs)) (he : Ps C ρ h es us) (hz : xs.length + us.length ≤ SZ) : evE C (.bin .add (.var i) (.lst es)) ρ h = some (.ref (h.length + 1), (h ++ [PO.lst us]) ++ [PO.lst (xs ++ us)]) := by
  unfold evE
  rw [show evE C (.var i) ρ h = some (.ref p, h) from p_var hv]
  simp only
  rw [e_lst he (by omega)]
  show (match (h ++ [PO.lst us])[p]?, (h ++ [PO.lst us])[h.length]? with
    | some (.lst xs), some (.lst ys) => if xs.length + ys.length ≤ SZ then some (newO (PO.lst (xs ++ ys)) (h ++ [PO.lst us])) else none
    | _, _ => none) = _
  rw [List.getElem?_append_left (lt_of_at hp), hp, last_at]
  simp only
  rw [if_pos hz]
  simp [newO]
theorem keepL {g : PH} {p : Nat} {o : PO} (e : h[p]? = some o) : (h ++ g)[p]? = some o := by rw [List.getElem?_append_left (lt_of_at e)]; exact e
theorem lsL {p : Nat} {xs : List PV} (e : h[p]? = some (.lst xs)) : PH.ls h p = some xs := by unfold PH.ls; rw [e]
end
/-- the statements end well, and Q holds -/
def Ev (C : Cl) (ts : ITs) (ρ : PEnv) (h : PH) (Q : PEnv → PH → Prop) : Prop := ∃ ρ' h', evTs C ts ρ h = some (.nx ρ', h') ∧ Q ρ' h'
section
variable {C : Cl} {ρ : PEnv} {h h1 h2 : PH} {v u : PV} {ts ta : ITs} {c a : IE} {i : Nat} {Q : PEnv → PH → Prop}
theorem Ev.asg (he : evE C a ρ h = some (u, h1)) (hr : Ev C ts (ρ.set i (some u)) h1 Q) : Ev C (.cons (.asg i a) ts) ρ h Q := by
  obtain ⟨ρ', h', e, q⟩ := hr
  exact ⟨ρ', h', rt_asgG he e, q⟩
theorem Ev.sk (hc : evE C c ρ h = some (.bl true, h1)) (hr : Ev C ts ρ h1 Q) : Ev C (.cons (.ite (.not c) ta .nil) ts) ρ h Q := by
  obtain ⟨ρ', h', e, q⟩ := hr
  exact ⟨ρ', h', sk_not hc e, q⟩
theorem Ev.sk0 (hc : Pe C ρ h c (.bl false)) (hr : Ev C ts ρ h Q) : Ev C (.cons (.ite c ta .nil) ts) ρ h Q := by
  obtain ⟨ρ', h', e, q⟩ := hr
  exact ⟨ρ', h', rt_skip hc e, q⟩
theorem Ev.nil (q : Q ρ h) : Ev C .nil ρ h Q := ⟨ρ, h, rfl, q⟩
/-- h grew to h' -/
def Ge (h h' : PH) : Prop := ∃ g, h' = h ++ g
theorem Ge.refl : Ge h h := ⟨[], (List.append_nil h).symm⟩
theorem Ge.mk {g : PH} : Ge h (h ++ g) := ⟨g, rfl⟩
theorem Ge.trans (a : Ge h h1) (b : Ge h1 h2) : Ge h h2 := by
  obtain ⟨g1, rfl⟩ := a
  obtain ⟨g2, rfl⟩ := b
  exact ⟨g1 ++ g2, by rw [List.append_assoc]⟩
theorem Ge.gd (a : Ge h h1) (g : Gd h v) : Gd h1 v := by
  obtain ⟨g1, rfl⟩ := a
  exact g.app
theorem Ge.ok {k : Nat} (a : Ge h h1) (g : Ok k h v) : Ok k h1 v := by
  obtain ⟨g1, rfl⟩ := a
  exact g.app
theorem Ge.at' {p : Nat} {o : PO} (a : Ge h h1) (g : h[p]? = some o) : h1[p]? = some o := by
  obtain ⟨g1, rfl⟩ := a
  exact keepL g
theorem e_second {f : Str} {x y w : PV} {b : IE} (hv : ρ[i]? = some (some x)) (e5 : evE C b ρ h = some (y, h1)) (hc : C.call f [x, y] h1 = some (w, h2)) : evE C (.call f (.cons (.var i) (.cons b .nil))) ρ h = some (w, h2) := by
  unfold evE
  rw [show evEs C (.cons (.var i) (.cons b .nil)) ρ h = some ([x, y], h1) from by
    unfold evEs
    rw [show evE C (.var i) ρ h = some (x, h) from p_var hv]
    simp only
    unfold evEs
    rw [e5]
    rfl]
  exact hc
abbrev NB (C : Cl) (e : IE) (ρ : PEnv) (h : PH) (bs : List Bool) : Prop := ∃ p h1, evE C e ρ h = some (.ref p, h1) ∧ h1[p]? = some (.lst (bs.map .bl)) ∧ Ge h h1 ∧ Bd h1
/-- a new list of truths -/
theorem new_bls {es : IEs} {bs : List Bool} {vs : List PV} (bd : Bd h) (he : Ps C ρ h es vs) (e : vs = bs.map .bl) (hz : bs.length ≤ 1000) : ∃ p h1, evE C (.lst es) ρ h = some (.ref p, h1) ∧ h1[p]? = some (.lst (bs.map .bl)) ∧ Ge h h1 ∧ Bd h1 := by
  subst e
  exact ⟨_, _, e_lst he (by rw [List.length_map]; exact Nat.le_trans hz (by decide)), last_at, Ge.mk, bd_bls bd bs⟩
theorem more_bls {es : IEs} {as bs : List Bool} {vs : List PV} {p : Nat} (bd : Bd h) (hv : ρ[i]? = some (some (.ref p))) (hp : h[p]? = some (.lst (as.map .bl))) (he : Ps C ρ h es vs) (e : vs = bs.map .bl) (hz : as.length + bs.length ≤ 1000) : ∃ p h1, evE C (.bin .add (.var i) (.lst es)) ρ h = some (.ref p, h1) ∧ h1[p]? = some (.lst ((as ++ bs).map .bl)) ∧ Ge h h1 ∧ Bd h1 := by
  subst e
  refine ⟨_, _, e_plus hv hp he (by rw [List.length_map, List.length_map]; exact Nat.le_trans hz (by decide)), ?_, Ge.mk.trans Ge.mk, ?_⟩
  · rw [show h.length + 1 = (h ++ [PO.lst (bs.map .bl)]).length from by simp, last_at, List.map_append]
  · rw [← List.map_append]
    exact bd_bls (bd_bls bd bs) (as ++ bs)
end
section
variable {h : PH} {v : PV}
def foundA (v : PV) : List Bool := [isInt v, isCnt v, isReg v, isName v, isTold v, isOwn v, isCut v, isKey v]
def foundB (v : PV) : List Bool := [tupOf isName v && unl v, isNames v, tupOf isName v, isArgs v, (tupOf isName v && unl v) && len26 v, tupOf isInt v, isGive v]
abbrev P8 : IE := (.lst (.cons (.and (.var 7) (.var 8)) (.cons (.and (.var 7) (.call "_law_rises_up" (.cons (.var 3) .nil))) (.cons (.var 7) (.cons (.call "_law_is_of" (.cons (.var 3) (.cons (.con (.str "args")) .nil))) (.cons (.and (.call "_law_is_of" (.cons (.var 3) (.cons (.con (.str "args")) .nil))) (.var 8)) (.cons (.var 9) (.cons (.call "_law_is_give" (.cons (.var 3) .nil)) .nil))))))))
theorem plain_body (g : Gd h v) (bd : Bd h) (fl : ∀ x ∈ its v, x.flat = true) (s0 s1 s2 s4 s5 s6 s7 s8 s9 : Option PV) :
    Ev C29 L_4_B [s0, s1, s2, some v, s4, s5, s6, s7, s8, s9, none, none, none, none, none, none, none, none, none, none, none, none, none] h fun ρ' h' =>
      (∃ t5 t6 t7 t8 t9, ρ' = [s0, s1, s2, some v, s4, t5, t6, t7, t8, t9, none, none, none, none, none, none, none, none, none, none, none, none, none]) ∧ Ge h h' ∧ Bd h' := by
  obtain ⟨p1, h1, e1, a1, k1, b1⟩ : NB C29 L_4_0_E [s0, s1, s2, some v, s4, s5, s6, s7, s8, s9, none, none, none, none, none, none, none, none, none, none, none, none, none] h (foundA v) := new_bls bd (p_cons (p_call (p_cons (p_var rfl) p_nil) (c_is_integer g)) (p_cons (p_call (p_cons (p_var rfl) p_nil) (c_is_count g)) (p_cons (p_call (p_cons (p_var rfl) p_nil) (c_is_register g)) (p_cons (p_call (p_cons (p_var rfl) p_nil) (c_is_name g bd)) (p_cons (p_call (p_cons (p_var rfl) p_nil) (c_is_told_name g bd)) (p_cons (p_call (p_cons (p_var rfl) p_nil) (c_is_own_name g bd)) (p_cons (p_call (p_cons (p_var rfl) p_nil) (c_is_cut_name g bd)) (p_cons (p_call (p_cons (p_var rfl) p_nil) (c_is_key g bd)) p_nil)))))))) rfl (by show 8 ≤ 1000; decide)
  refine Ev.asg e1 ?_
  have g1 := k1.gd g
  obtain ⟨p2, h2, e2, a2, k2, b2⟩ : NB C29 L_4_1_E [s0, s1, s2, some v, s4, some (.ref p1), s6, s7, s8, s9, none, none, none, none, none, none, none, none, none, none, none, none, none] h1 ((foundA v).take 6) := new_bls b1 (p_cons (p_call (p_cons (p_var rfl) p_nil) (c_law_is_integer g1)) (p_cons (p_call (p_cons (p_var rfl) p_nil) (c_law_is_count g1)) (p_cons (p_call (p_cons (p_var rfl) p_nil) (c_law_is_register g1)) (p_cons (p_call (p_cons (p_var rfl) p_nil) (c_law_is_name g1 b1)) (p_cons (p_call (p_cons (p_var rfl) p_nil) (c_law_is_told_name g1 b1)) (p_cons (p_call (p_cons (p_var rfl) p_nil) (c_law_is_own_name g1 b1)) p_nil)))))) rfl (by show 6 ≤ 1000; decide)
  refine Ev.asg e2 ?_
  have g2 := k2.gd g1
  obtain ⟨p3, h3, e3, a3, k3, b3⟩ : NB C29 L_4_2_E [s0, s1, s2, some v, s4, some (.ref p1), some (.ref p2), s7, s8, s9, none, none, none, none, none, none, none, none, none, none, none, none, none] h2 (foundA v) := more_bls (as := (foundA v).take 6) (bs := [isCut v, isKey v]) b2 rfl a2 (p_cons (p_call (p_cons (p_var rfl) p_nil) (c_law_is_cut_name g2 b2)) (p_cons (p_call (p_cons (p_var rfl) (p_cons p_str p_nil)) (of_k g2 b2)) p_nil)) rfl (by show 6 + 2 ≤ 1000; decide)
  refine Ev.asg e3 ?_
  have g3 := k3.gd g2
  refine Ev.sk (p_call (p_cons (p_var rfl) (p_cons (p_var rfl) p_nil)) (c_alike b3 (bs := foundA v) (lsL (k3.at' (k2.at' a1))) (lsL a3) (by show 8 ≤ 1000; decide))) ?_
  refine Ev.asg (u := .bl (tupOf isName v)) (h1 := h3) ?_ ?_
  · have := c_law_are (n := 28) (srt := "n") (k := 0) isName g3 b3 fun x hx => of_n (gd_its g3 x hx).1 b3
    refine p_call (p_cons (p_var rfl) (p_cons p_str (p_cons p_int p_nil))) ?_
    rw [show tupOf isName v = (isT v && (lenGe v 0 && (its v).all isName)) from by
      unfold tupOf lenGe
      rw [decide_eq_true (by omega), Bool.true_and]]
    exact this
  refine Ev.asg (p_unlike g3 b3 rfl fl fun a b => ⟨_, rfl, rfl, rfl, rfl⟩) ?_
  refine Ev.asg (p_ints (m := 28) g3 b3 rfl fun b => ⟨_, rfl, rfl⟩) ?_
  obtain ⟨p4, h4, e4, a4, k4, b4⟩ : NB C29 L_4_7_E [s0, s1, s2, some v, s4, some (.ref p1), some (.ref p3), some (.bl (tupOf isName v)), some (.bl (unl v)), some (.bl (tupOf isInt v)), none, none, none, none, none, none, none, none, none, none, none, none, none] h3 (foundB v) := new_bls b3 (p_cons (p_call (p_cons (p_var rfl) p_nil) (c_is_names_list g3 b3)) (p_cons (p_call (p_cons (p_var rfl) p_nil) (c_is_names g3 b3)) (p_cons (p_call (p_cons (p_var rfl) (p_cons (p_gl (v := .fn "is_name") rfl) p_nil)) (c_names g3 b3)) (p_cons (p_call (p_cons (p_var rfl) p_nil) (c_is_args g3 b3)) (p_cons (p_call (p_cons (p_var rfl) p_nil) (c_is_params g3 b3)) (p_cons (p_call (p_cons (p_var rfl) p_nil) (c_is_row g3 b3)) (p_cons (p_call (p_cons (p_var rfl) p_nil) (c_is_give g3 b3)) p_nil))))))) rfl (by show 7 ≤ 1000; decide)
  refine Ev.asg e4 ?_
  have g4 := k4.gd g3
  obtain ⟨p5, h5, e5, a5, k5, b5⟩ : NB C29 P8 [s0, s1, s2, some v, s4, some (.ref p4), some (.ref p3), some (.bl (tupOf isName v)), some (.bl (unl v)), some (.bl (tupOf isInt v)), none, none, none, none, none, none, none, none, none, none, none, none, none] h4 [tupOf isName v && unl v, tupOf isName v && rises v, tupOf isName v, isArgs v, isArgs v && unl v, tupOf isInt v, isGive v] := new_bls b4
    (p_cons (p_and (p_var rfl) fun _ => p_var rfl) (p_cons (p_and (p_var rfl) fun e => p_call (p_cons (p_var rfl) p_nil) (c_law_rises_up g4 b4 (tup_of e).1 fun x hx => name_s ((tup_of e).2 x hx))) (p_cons (p_var rfl) (p_cons (p_call (p_cons (p_var rfl) (p_cons p_str p_nil)) (of_args g4 b4)) (p_cons (p_and (p_call (p_cons (p_var rfl) (p_cons p_str p_nil)) (of_args g4 b4)) fun _ => p_var rfl) (p_cons (p_var rfl) (p_cons (p_call (p_cons (p_var rfl) p_nil) (c_law_is_give g4 b4)) p_nil))))))) rfl (by show 7 ≤ 1000; decide)
  have eB : foundB v = [tupOf isName v && unl v, tupOf isName v && rises v, tupOf isName v, isArgs v, isArgs v && unl v, tupOf isInt v, isGive v] := by
    unfold foundB isArgs isNames
    rw [Bool.and_assoc, Bool.and_assoc, Bool.and_comm (len26 v) (unl v)]
  refine Ev.sk (h1 := h5) ?_ ?_
  · refine e_second (C := C29) (f := "_law_alike") rfl e5 ?_
    exact c_alike b5 (bs := foundB v) (lsL (k5.at' a4)) (lsL (by rw [eB]; exact a5)) (by show 7 ≤ 1000; decide)
  exact Ev.nil ⟨⟨_, _, _, _, _, rfl⟩, k1.trans (k2.trans (k3.trans (k4.trans k5))), b5⟩
end
end K20

end
section
set_option Elab.async false
set_option maxRecDepth 100000
set_option maxHeartbeats 1000000
set_option autoImplicit false
set_option linter.all false
/-! K20cj: the plain things and their loop. -/
namespace K20
open PySem Pv
section
variable {C : Cl} {ρ : PEnv} {h h1 : PH} {ts body : ITs} {Q : PEnv → PH → Prop}
theorem Ev.fr {tg : Tg} {s : IS} {sv : SV} {xs : List PV} (I : Nat → PEnv → PH → Prop) (hs : evS C s ρ h = some (sv, h1)) (hI : I 0 ρ h1) (hz : xs.length < TURNS) (src : ∀ i ρ h, I i ρ h → svAt h sv i = some xs[i]?)
    (step : ∀ i x ρ h, xs[i]? = some x → I i ρ h → ∃ ρ1, bindTg ρ tg x = some ρ1 ∧ Ev C body ρ1 h fun ρ' h' => I (i + 1) ρ' h') (hr : ∀ ρ' h', I xs.length ρ' h' → Ev C ts ρ' h' Q) : Ev C (.cons (.fr tg s body) ts) ρ h Q := by
  obtain ⟨ρ2, h2, e2, q2⟩ := fr_any (C := C) (tg := tg) (body := body) I src (fun i x ρ h hx hi => by
    obtain ⟨ρ1, b1, ρ', h', e, q⟩ := step i x ρ h hx hi
    exact ⟨ρ1, ρ', h', b1, e, q⟩) TURNS 0 ρ h1 (Nat.zero_le _) (by omega) hI
  obtain ⟨ρ3, h3, e3, q3⟩ := hr ρ2 h2 q2
  exact ⟨ρ3, h3, rt_for hs e2 e3, q3⟩
end
def h0 (xs ys : List Int) : PH := [.lst (xs.map .int), .lst (ys.map .int), bagO 0 1234567891 0 1]
def P1 : List PV := [.non, .bl true, .bl false, .int 0, .int 7, .int 8, .int (-1), .int (10 ^ 12), .str "x", .str "result", .str "rising", .str "less", .str "x9", .str "9x", .str "0a", .str "12b", .str "01a", .str "a", .str "X", .str "", .str "abcdefgh", .str "abcdefghi", .str "a b", .tup []]
def P2 : List PV := [.tup [.str "x"], .ref 4, .ref 5, .tup [.str "x", .str "y"], .tup [.str "y", .str "x"], .tup [.str "x", .str "x"], .tup [.str "x", .non]]
def P3 : List PV := [.tup [.str "result", .str "x"], .tup [.int 1, .int 2], .tup [.int 1, .bl true], .tup [.str "a", .str "b", .str "c", .str "d", .str "e", .str "f"], .tup [.str "a", .str "b", .str "c", .str "d", .str "e", .str "f", .str "g"], .tup [.int (-3), .int 0, .int 9], .ref 8]
def P4 : List PV := P1 ++ P2 ++ P3
def h3 (xs ys : List Int) : PH := h0 xs ys ++ [.lst P1, .lst [.str "x"], .dct [], .lst P2, .lst (P1 ++ P2), .lst [.int 1], .lst P3, .lst P4]
section
variable {C : Cl} {ρ : PEnv} {xs ys : List Int}
theorem e_L1 : evE C L_1_E ρ (h0 xs ys) = some (.ref 3, h0 xs ys ++ [.lst P1]) := rfl
theorem e_L2 (hv : ρ[2]? = some (some (.ref 3))) : evE C L_2_E ρ (h0 xs ys ++ [.lst P1]) = some (.ref 7, h0 xs ys ++ [.lst P1, .lst [.str "x"], .dct [], .lst P2, .lst (P1 ++ P2)]) := by
  show evE C (.bin .add (.var 2) (.lst _)) ρ _ = _
  unfold evE
  rw [show evE C (.var 2) ρ (h0 xs ys ++ [.lst P1]) = some (.ref 3, h0 xs ys ++ [.lst P1]) from p_var hv]
  rfl
theorem e_L3 (hv : ρ[2]? = some (some (.ref 7))) : evE C L_3_E ρ (h0 xs ys ++ [.lst P1, .lst [.str "x"], .dct [], .lst P2, .lst (P1 ++ P2)]) = some (.ref 10, h3 xs ys) := by
  show evE C (.bin .add (.var 2) (.lst _)) ρ _ = _
  unfold evE
  rw [show evE C (.var 2) ρ (h0 xs ys ++ [.lst P1, .lst [.str "x"], .dct [], .lst P2, .lst (P1 ++ P2)]) = some (.ref 7, h0 xs ys ++ [.lst P1, .lst [.str "x"], .dct [], .lst P2, .lst (P1 ++ P2)]) from p_var hv]
  rfl
theorem bds_ints {m : Nat} : ∀ l : List Int, PV.bds m (l.map .int) = true
  | [] => rfl
  | _ :: l => bds_ints l
theorem bd_h3 : Bd (h3 xs ys) := by
  show (PV.bds 11 (xs.map .int) && (PV.bds 11 (ys.map .int) && _)) = true
  rw [bds_ints, bds_ints]
  rfl
theorem lay_str {s : Str} (e : (s.cps.toList.all fun c => decide (c < 0x110000)) = true) : (PyData.str s).canLay0 = true := by
  rw [Array.all_toList] at e
  rw [PyData.canLay0]
  exact e
/-- a thing that is good by its own look -/
def gdB (h : PH) : PV → Bool
  | .non => true | .bl _ => true | .int _ => true
  | .str s => decide (s.length ≤ 1000) && (s.cps.toList.all fun c => decide (c < 0x110000))
  | .tup xs => decide (xs.length ≤ 500) && xs.all fun x => match x with | .non => true | .bl _ => true | .int _ => true | .str s => decide (s.length ≤ 1000) && (s.cps.toList.all fun c => decide (c < 0x110000)) | _ => false
  | .ref p => match h[p]? with | some (.lst _) => true | some (.dct _) => true | _ => false
  | _ => false
theorem gd_of {h : PH} {v : PV} (e : gdB h v = true) : Gd h v ∧ ∀ x ∈ its v, x.flat = true := by
  cases v with
  | non => exact ⟨.non, fun _ z => nomatch z⟩
  | bl b => exact ⟨.bl b, fun _ z => nomatch z⟩
  | int i => exact ⟨.int i, fun _ z => nomatch z⟩
  | str s =>
    have := Bool.and_eq_true_iff.mp e
    exact ⟨.str s (of_decide_eq_true this.1) (lay_str this.2), fun _ z => nomatch z⟩
  | tup xs =>
    have h1 := Bool.and_eq_true_iff.mp e
    have h2 := List.all_eq_true.mp h1.2
    have h3 : ∀ x ∈ xs, Ok 0 h x ∧ x.flat = true := fun x hx => by
      have := h2 x hx
      cases x with
      | non => exact ⟨Ok.non, rfl⟩
      | bl b => exact ⟨Ok.bl b, rfl⟩
      | int i => exact ⟨Ok.int i, rfl⟩
      | str s =>
        have := Bool.and_eq_true_iff.mp this
        exact ⟨Ok.str s (of_decide_eq_true this.1) (lay_str this.2), rfl⟩
      | _ => cases this
    exact ⟨(Ok.tup (k := 0) (of_decide_eq_true h1.1) (fun x hx => (h3 x hx).1) (by decide)).gd, fun x hx => (h3 x hx).2⟩
  | ref p =>
    refine ⟨?_, fun _ z => nomatch z⟩
    have e : (match h[p]? with | some (.lst _) => true | some (.dct _) => true | _ => false) = true := e
    split at e
    · rename_i xs e1; exact .lst p xs e1
    · rename_i xs e1; exact .dct p xs e1
    · cases e
  | _ => cases e
theorem gd_plain : ∀ v ∈ P4, Gd (h3 xs ys) v ∧ ∀ x ∈ its v, x.flat = true := by
  have : P4.all (gdB (h3 xs ys)) = true := rfl
  exact fun v hv => gd_of (List.all_eq_true.mp this v hv)
/-- the loop over the plain things -/
theorem plain_loop {ts : ITs} {s0 s1 : Option PV} {Q : PEnv → PH → Prop}
    (hr : ∀ s3 t5 t6 t7 t8 t9 h', Ge (h3 xs ys) h' → Bd h' → Ev C29 ts [s0, s1, some (.ref 10), s3, none, t5, t6, t7, t8, t9, none, none, none, none, none, none, none, none, none, none, none, none, none] h' Q) :
    Ev C29 (.cons L_4 ts) [s0, s1, some (.ref 10), none, none, none, none, none, none, none, none, none, none, none, none, none, none, none, none, none, none, none, none] (h3 xs ys) Q := by
  refine Ev.fr (sv := .lst 10) (xs := P4) (fun _ ρ h => (∃ s3 t5 t6 t7 t8 t9, ρ = [s0, s1, some (.ref 10), s3, none, t5, t6, t7, t8, t9, none, none, none, none, none, none, none, none, none, none, none, none, none]) ∧ Ge (h3 xs ys) h ∧ Bd h) rfl ⟨⟨_, _, _, _, _, _, rfl⟩, Ge.refl, bd_h3⟩ (turns_ok (k := P4.length) (by decide)) ?_ ?_ ?_
  · rintro i ρ h ⟨_, k, _⟩
    exact at_lst (k.at' (p := 10) (o := .lst P4) rfl) i
  · rintro i x ρ h hx ⟨⟨s3, t5, t6, t7, t8, t9, rfl⟩, k, b⟩
    obtain ⟨g, fl⟩ := gd_plain (xs := xs) (ys := ys) x (List.mem_of_getElem? hx)
    refine ⟨_, rfl, ?_⟩
    obtain ⟨ρ', h', e, ⟨u5, u6, u7, u8, u9, rfl⟩, k', b'⟩ := plain_body (k.gd g) b fl s0 s1 (some (.ref 10)) none t5 t6 t7 t8 t9
    exact ⟨_, h', e, ⟨_, _, _, _, _, _, rfl⟩, k.trans k', b'⟩
  · rintro ρ' h' ⟨⟨s3, t5, t6, t7, t8, t9, rfl⟩, k, b⟩
    exact hr s3 t5 t6 t7 t8 t9 h' k b
end
end K20

end
section
set_option Elab.async false
set_option maxRecDepth 100000
set_option maxHeartbeats 1000000
set_option autoImplicit false
set_option linter.all false
/-! K20ck: draws. -/
namespace K20
open PySem Pv
/-- good in every heap, by its own look -/
def okB : Nat → PV → Bool
  | _, .non => true
  | _, .bl _ => true
  | _, .int _ => true
  | _, .str s => decide (s.length ≤ 1000) && (s.cps.toList.all fun c => decide (c < 0x110000))
  | k + 1, .tup xs => decide (xs.length ≤ 500) && xs.all (okB k)
  | _, _ => false
section
variable {C : Cl} {ρ : PEnv} {h h1 h2 : PH} {v u x : PV} {es : IEs} {vs us xs : List PV} {a b : IE} {p q i k : Nat}
theorem ok_of : ∀ (k : Nat) (v : PV), k ≤ 20 → okB k v = true → Ok k h v := by
  intro k
  induction k with
  | zero =>
    intro v _ e
    cases v with
    | non => exact Ok.non
    | bl b => exact Ok.bl b
    | int i => exact Ok.int i
    | str s =>
      have := Bool.and_eq_true_iff.mp e
      exact Ok.str s (of_decide_eq_true this.1) (lay_str this.2)
    | _ => cases e
  | succ k ih =>
    intro v hk e
    cases v with
    | non => exact Ok.le Ok.non (Nat.zero_le _)
    | bl b => exact Ok.le (Ok.bl b) (Nat.zero_le _)
    | int i => exact Ok.le (Ok.int i) (Nat.zero_le _)
    | str s =>
      have := Bool.and_eq_true_iff.mp e
      exact Ok.le (Ok.str s (of_decide_eq_true this.1) (lay_str this.2)) (Nat.zero_le _)
    | tup xs =>
      have := Bool.and_eq_true_iff.mp e
      exact Ok.tup (of_decide_eq_true this.1) (fun x hx => ih x (by omega) (List.all_eq_true.mp this.2 x hx)) (by omega)
    | _ => cases e
theorem ok_bd (e : okB k v = true) (hk : k ≤ 20) : v.bd h.length = true := (ok_of (h := h) k v hk e).bd
theorem ok_up (k : Nat) (v : PV) (e : okB k v = true) : okB (k + 1) v = true := by
  induction k generalizing v with
  | zero => cases v <;> first | exact e | cases e
  | succ k ih =>
    cases v with
    | tup xs =>
      have := Bool.and_eq_true_iff.mp e
      exact Bool.and_eq_true_iff.mpr ⟨this.1, List.all_eq_true.mpr fun x hx => ih x (List.all_eq_true.mp this.2 x hx)⟩
    | _ => exact e
theorem bds_ok (hk : k ≤ 20) (e : vs.all (okB k) = true) {m : Nat} : PV.bds m vs = true := by
  refine bds_all fun x hx => ?_
  have := (ok_of (h := List.replicate m (.lst [])) k x hk (List.all_eq_true.mp e x hx)).bd
  rw [List.length_replicate] at this
  exact this
theorem es_cons (ha : evE C a ρ h = some (v, h1)) (hs : evEs C es ρ h1 = some (vs, h2)) : evEs C (.cons a es) ρ h = some (v :: vs, h2) := by
  unfold evEs
  rw [ha]
  simp only
  rw [hs]
theorem e_tup (hs : evEs C es ρ h = some (vs, h1)) (hz : vs.length ≤ SZ) : evE C (.tup es) ρ h = some (.tup vs, h1) := by
  unfold evE
  rw [hs]
  simp only
  rw [if_pos hz]
theorem Bag.lt (g : Bag h p q) : p < h.length := by
  obtain ⟨a, b, k, e⟩ := g.at'
  exact lt_of_at e
theorem Nx.refl (g : Bag h p q) : Nx p q h h := ⟨g, fun _ _ _ e => e⟩
/-- _law_some(bag, [..]) -/
theorem d_lst (n1 : Nx p q h h1) (hv : ρ[1]? = some (some (.ref p))) (hs : evEs C29 es ρ h = some (vs, h1)) (bv : PV.bds (h1.length + 1) vs = true) (z0 : 0 < vs.length) (z1 : vs.length ≤ 1000) :
    ∃ x h', x ∈ vs ∧ Nx p q h h' ∧ evE C29 (.call "_law_some" (.cons (.var 1) (.cons (.lst es) .nil))) ρ h = some (x, h') := by
  have b2 : Bd (h1 ++ [.lst vs]) := Bd.snoc n1.bag.bd bv
  have n2 : Nx p q h1 (h1 ++ [.lst vs]) := Nx.app n1.bag b2
  obtain ⟨x, h', hx, n3, _, e⟩ := c_law_some (n := 27) n2.bag (t := h1.length) last_at (Nat.ne_of_gt n1.bag.lt) z0 (by omega)
  refine ⟨x, h', hx, (n1.trans n2).trans n3, e_second hv ?_ e⟩
  unfold evE
  rw [hs]
  simp only
  rw [if_pos (Nat.le_trans z1 (by decide))]
  rfl
/-- _law_some(bag, names) -/
theorem d_var {t : Nat} (g : Bag h p q) (hv : ρ[1]? = some (some (.ref p))) (ht : ρ[i]? = some (some (.ref t))) (hp : h[t]? = some (.lst vs)) (ne : t ≠ p) (z0 : 0 < vs.length) (z1 : vs.length ≤ 1000) :
    ∃ x h', x ∈ vs ∧ Nx p q h h' ∧ evE C29 (.call "_law_some" (.cons (.var 1) (.cons (.var i) .nil))) ρ h = some (x, h') := by
  obtain ⟨x, h', hx, n3, _, e⟩ := c_law_some (n := 27) g hp ne z0 (by omega)
  exact ⟨x, h', hx, n3, e_second hv (p_var ht) e⟩
end
end K20

end
section
set_option Elab.async false
set_option maxRecDepth 100000
set_option maxHeartbeats 1000000
set_option autoImplicit false
set_option linter.all false
/-! K20cl: what a lap draws. -/
namespace K20
open PySem Pv
def NM : List PV := [.str "x", .str "y", .str "result"]
def OR : List PV := [.str "same", .str "ahead", .str "upto"]
def AO : List PV := [.str "atmost", .str "below"]
def LT : List PV := [.tup [.str "x"], .tup [.str "x", .str "y"], .tup [.str "result"], .tup [.str "y", .str "result"]]
theorem in_all {l : List PV} {P : PV → Bool} {x : PV} (e : l.all P = true) (hx : x ∈ l) : P x = true := List.all_eq_true.mp e x hx
structure Place (v : PV) : Prop where
  ok : okB 1 v = true
  ord : isOrder v = true
  at0 : ∃ a b c, v = .tup [a, b, c] ∧ okB 0 a = true
theorem place_of {a b c : PV} (ha : a ∈ OR) (hb : b ∈ NM) (hc : c ∈ NM) : Place (.tup [a, b, c]) := by
  have a1 : okB 0 a = true := in_all (l := OR) rfl ha
  have b1 : okB 0 b = true := in_all (l := NM) rfl hb
  have c1 : okB 0 c = true := in_all (l := NM) rfl hc
  have a2 : isWd ORD a = true := in_all (l := OR) rfl ha
  have b2 : isTold b = true := in_all (l := NM) rfl hb
  have c2 : isTold c = true := in_all (l := NM) rfl hc
  refine ⟨?_, ?_, a, b, c, rfl, a1⟩
  · show (decide (3 ≤ 500) && (okB 0 a && (okB 0 b && (okB 0 c && true)))) = true
    rw [a1, b1, c1]; rfl
  · show (true && (isWd ORD a && (isTold b && isTold c))) = true
    rw [a2, b2, c2]; rfl
structure Fact (v : PV) : Prop where
  ok : okB 2 v = true
  fac : isFact v = true
theorem fact_of1 {b : PV} (hb : b ∈ NM) : Fact (.tup [.str "rising", b, .str "y"]) := by
  have b1 : okB 1 b = true := in_all (l := NM) rfl hb
  have b2 : isTold b = true := in_all (l := NM) rfl hb
  refine ⟨?_, ?_⟩
  · show (decide (3 ≤ 500) && (okB 1 (.str "rising") && (okB 1 b && (okB 1 (.str "y") && true)))) = true
    rw [b1]; rfl
  · show (true && (isWd ["rising"] (.str "rising") && (isTold b && isTold (.str "y")))) = true
    rw [b2]; rfl
theorem fact_of2 {a b c : PV} (ha : a ∈ AO) (hb : b ∈ LT) (hc : c ∈ LT) : Fact (.tup [a, b, c]) := by
  have a1 : okB 1 a = true := in_all (l := AO) rfl ha
  have b1 : okB 1 b = true := in_all (l := LT) rfl hb
  have c1 : okB 1 c = true := in_all (l := LT) rfl hc
  have a2 : isWd AB a = true := in_all (l := AO) rfl ha
  have b2 : isStr2 b = true := in_all (l := LT) rfl hb
  have c2 : isStr2 c = true := in_all (l := LT) rfl hc
  refine ⟨?_, ?_⟩
  · show (decide (3 ≤ 500) && (okB 1 a && (okB 1 b && (okB 1 c && true)))) = true
    rw [a1, b1, c1]; rfl
  · show (true && (if isWd AB a then isStr2 b && isStr2 c else _)) = true
    rw [a2, b2, c2]; rfl
structure Good (v : PV) : Prop where
  ok : okB 4 v = true
  say : isSay v = true
  two : ∃ a b, v = .tup [a, b]
theorem good_of {p f : PV} (hp : Place p) (hf : Fact f) : ∀ v ∈ ([.tup [.tup [p], .tup [f]], .tup [.tup [], .tup [f, f]], .tup [.tup [p, p], .tup []], .tup [.tup [], .tup []]] : List PV), Good v := by
  have p3 : okB 2 p = true := ok_up _ _ hp.ok
  have f3 : okB 2 f = true := hf.ok
  have two : ∀ xs ys : List PV, xs.length ≤ 2 → ys.length ≤ 2 → xs.all (okB 2) = true → ys.all (okB 2) = true → xs.all isOrder = true → ys.all isFact = true → Good (.tup [.tup xs, .tup ys]) := by
    intro xs ys l1 l2 o1 o2 i1 i2
    refine ⟨?_, ?_, _, _, rfl⟩
    · show (decide (2 ≤ 500) && ((decide (xs.length ≤ 500) && xs.all (okB 2)) && ((decide (ys.length ≤ 500) && ys.all (okB 2)) && true))) = true
      rw [o1, o2, decide_eq_true (show xs.length ≤ 500 by omega), decide_eq_true (show ys.length ≤ 500 by omega)]; rfl
    · show (true && ((true && xs.all isOrder) && (true && ys.all isFact))) = true
      rw [i1, i2]; rfl
  have pa : ∀ P : PV → Bool, P p = true → [p].all P = true ∧ [p, p].all P = true := fun P e => ⟨by show (P p && true) = true; rw [e]; rfl, by show (P p && (P p && true)) = true; rw [e]; rfl⟩
  have fa : ∀ P : PV → Bool, P f = true → [f].all P = true ∧ [f, f].all P = true := fun P e => ⟨by show (P f && true) = true; rw [e]; rfl, by show (P f && (P f && true)) = true; rw [e]; rfl⟩
  intro v hv
  simp only [List.mem_cons, List.not_mem_nil, or_false] at hv
  rcases hv with rfl | rfl | rfl | rfl
  · exact two _ _ (by simp) (by simp) (pa _ p3).1 (fa _ f3).1 (pa _ hp.ord).1 (fa _ hf.fac).1
  · exact two _ _ (by simp) (by simp) rfl (fa _ f3).2 rfl (fa _ hf.fac).2
  · exact two _ _ (by simp) (by simp) (pa _ p3).2 rfl (pa _ hp.ord).2 rfl
  · exact two _ _ (by simp) (by simp) rfl rfl rfl rfl
/-- the lap's draws -/
theorem lap_draws {ts : ITs} {h : PH} {Q : PEnv → PH → Prop} (g : Bag h 2 1) (s0 s2 s3 s4 s5 s6 s7 s8 s9 s10 s11 s12 s13 s14 s15 s16 s17 s18 s19 s20 s21 s22 : Option PV)
    (hr : ∀ t7 t11 place fact good h', Place place → Fact fact → Good good → Bag h' 2 1 → Ev C29 ts [s0, some (.ref 2), s2, s3, s4, s5, s6, t7, s8, s9, some place, t11, some fact, some good, s14, s15, s16, s17, s18, s19, s20, s21, s22] h' Q) :
    Ev C29 (.cons L_5_0 (.cons L_5_1 (.cons L_5_2 (.cons L_5_3 (.cons L_5_4 ts))))) [s0, some (.ref 2), s2, s3, s4, s5, s6, s7, s8, s9, s10, s11, s12, s13, s14, s15, s16, s17, s18, s19, s20, s21, s22] h Q := by
  have ge2 : ∀ {h : PH}, Bag h 2 1 → h.length ≠ 2 := fun g => Nat.ne_of_gt g.lt
  -- names
  have n1 : Nx 2 1 h (h ++ [.lst NM]) := Nx.app g (Bd.snoc g.bd (bds_ok (vs := NM) (k := 0) (by decide) rfl))
  refine Ev.asg (u := .ref h.length) (h1 := h ++ [.lst NM]) (e_lst (vs := NM) rfl (by decide)) ?_
  have m1 : (h ++ [PO.lst NM])[h.length]? = some (.lst NM) := last_at
  have tn : h.length ≠ 2 := ge2 g
  generalize h ++ [PO.lst NM] = h1 at *
  -- place
  obtain ⟨a, h2, ha, n2, e2⟩ := d_lst (ρ := [s0, some (.ref 2), s2, s3, s4, s5, s6, some (.ref h.length), s8, s9, s10, s11, s12, s13, s14, s15, s16, s17, s18, s19, s20, s21, s22]) (es := .cons (.con (.str "same")) (.cons (.con (.str "ahead")) (.cons (.con (.str "upto")) .nil))) (vs := OR) (Nx.refl n1.bag) rfl rfl (bds_ok (k := 0) (by decide) rfl) (by decide) (by decide)
  have m2 := n2.keep _ _ tn m1
  obtain ⟨b, h3, hb, n3, e3⟩ := d_var (ρ := [s0, some (.ref 2), s2, s3, s4, s5, s6, some (.ref h.length), s8, s9, s10, s11, s12, s13, s14, s15, s16, s17, s18, s19, s20, s21, s22]) (i := 7) n2.bag rfl rfl m2 tn (by decide) (by decide)
  have m3 := n3.keep _ _ tn m2
  obtain ⟨c, h4, hc, n4, e4⟩ := d_var (ρ := [s0, some (.ref 2), s2, s3, s4, s5, s6, some (.ref h.length), s8, s9, s10, s11, s12, s13, s14, s15, s16, s17, s18, s19, s20, s21, s22]) (i := 7) n3.bag rfl rfl m3 tn (by decide) (by decide)
  have m4 := n4.keep _ _ tn m3
  refine Ev.asg (u := .tup [a, b, c]) (h1 := h4) (e_tup (es_cons e2 (es_cons e3 (es_cons e4 rfl))) (by show 3 ≤ SZ; decide)) ?_
  have hp := place_of ha hb hc
  generalize PV.tup [a, b, c] = place at *
  -- lots
  have n5 : Nx 2 1 h4 (h4 ++ [.lst LT]) := Nx.app n4.bag (Bd.snoc n4.bag.bd (bds_ok (vs := LT) (k := 1) (by decide) rfl))
  refine Ev.asg (u := .ref h4.length) (h1 := h4 ++ [.lst LT]) (e_lst (vs := LT) rfl (by decide)) ?_
  have l5 : (h4 ++ [PO.lst LT])[h4.length]? = some (.lst LT) := last_at
  have m5 := n5.keep _ _ tn m4
  have tl : h4.length ≠ 2 := ge2 n4.bag
  generalize h4 ++ [PO.lst LT] = h5 at *
  -- fact
  obtain ⟨r, h6, hr6, n6, e6⟩ := d_var (ρ := [s0, some (.ref 2), s2, s3, s4, s5, s6, some (.ref h.length), s8, s9, some place, some (.ref h4.length), s12, s13, s14, s15, s16, s17, s18, s19, s20, s21, s22]) (i := 7) n5.bag rfl rfl m5 tn (by decide) (by decide)
  have l6 := n6.keep _ _ tl l5
  obtain ⟨ab, h7, hab, n7, e7⟩ := d_lst (ρ := [s0, some (.ref 2), s2, s3, s4, s5, s6, some (.ref h.length), s8, s9, some place, some (.ref h4.length), s12, s13, s14, s15, s16, s17, s18, s19, s20, s21, s22]) (es := .cons (.con (.str "atmost")) (.cons (.con (.str "below")) .nil)) (vs := AO) (Nx.refl n6.bag) rfl rfl (bds_ok (k := 0) (by decide) rfl) (by decide) (by decide)
  have l7 := n7.keep _ _ tl l6
  obtain ⟨x, h8, hx, n8, e8⟩ := d_var (ρ := [s0, some (.ref 2), s2, s3, s4, s5, s6, some (.ref h.length), s8, s9, some place, some (.ref h4.length), s12, s13, s14, s15, s16, s17, s18, s19, s20, s21, s22]) (i := 11) n7.bag rfl rfl l7 tl (by decide) (by decide)
  have l8 := n8.keep _ _ tl l7
  obtain ⟨y, h9, hy, n9, e9⟩ := d_var (ρ := [s0, some (.ref 2), s2, s3, s4, s5, s6, some (.ref h.length), s8, s9, some place, some (.ref h4.length), s12, s13, s14, s15, s16, s17, s18, s19, s20, s21, s22]) (i := 11) n8.bag rfl rfl l8 tl (by decide) (by decide)
  have f1 := fact_of1 hr6
  have f2 := fact_of2 hab hx hy
  have oo : ([.tup [.str "rising", r, .str "y"], .tup [ab, x, y]] : List PV).all (okB 2) = true := by
    show (okB 2 (.tup [.str "rising", r, .str "y"]) && (okB 2 (.tup [ab, x, y]) && true)) = true
    rw [f1.ok, f2.ok]; rfl
  obtain ⟨fact, h10, hf, n10, e10⟩ := d_lst (ρ := [s0, some (.ref 2), s2, s3, s4, s5, s6, some (.ref h.length), s8, s9, some place, some (.ref h4.length), s12, s13, s14, s15, s16, s17, s18, s19, s20, s21, s22]) (vs := [.tup [.str "rising", r, .str "y"], .tup [ab, x, y]]) (n6.trans (n7.trans (n8.trans n9))) rfl (es_cons (e_tup (es_cons p_str (es_cons e6 (es_cons p_str p_nil))) (by show 3 ≤ SZ; decide)) (es_cons (e_tup (es_cons e7 (es_cons e8 (es_cons e9 p_nil))) (by show 3 ≤ SZ; decide)) p_nil)) (bds_ok (by decide) oo) (by show 0 < 2; decide) (by show 2 ≤ 1000; decide)
  refine Ev.asg e10 ?_
  have hF : Fact fact := by
    simp only [List.mem_cons, List.not_mem_nil, or_false] at hf
    rcases hf with rfl | rfl
    · exact f1
    · exact f2
  -- good
  have go := good_of hp hF
  obtain ⟨good, h11, hg, n11, e11⟩ : ∃ x h', x ∈ ([.tup [.tup [place], .tup [fact]], .tup [.tup [], .tup [fact, fact]], .tup [.tup [place, place], .tup []], .tup [.tup [], .tup []]] : List PV) ∧ Nx 2 1 h10 h' ∧ evE C29 L_5_4_E [s0, some (.ref 2), s2, s3, s4, s5, s6, some (.ref h.length), s8, s9, some place, some (.ref h4.length), some fact, s13, s14, s15, s16, s17, s18, s19, s20, s21, s22] h10 = some (x, h') := d_lst (Nx.refl n10.bag) rfl rfl (bds_ok (k := 4) (by decide) (List.all_eq_true.mpr fun v hv => (go v hv).ok)) (by show 0 < 4; decide) (by show 4 ≤ 1000; decide)
  refine Ev.asg e11 ?_
  exact hr _ _ place fact good h11 hp hF (go good hg) n11.bag
end K20

end
section
set_option Elab.async false
set_option maxRecDepth 100000
set_option maxHeartbeats 1000000
set_option autoImplicit false
set_option linter.all false
/-! K20cm: the odd ones. -/
namespace K20
open PySem Pv
theorem mem_cut {α : Type} {xs : List α} {lo hi : Option Int} {x : α} (hx : x ∈ cutP xs lo hi) : x ∈ xs := List.mem_of_mem_drop (List.mem_of_mem_take hx)
def rngL (m : Nat) : List PV := (List.range m).map fun (i : Nat) => PV.int (0 + (i : Int))
theorem rng_at {h : PH} {m i : Nat} : svAt h (.rng 0 m) i = some (rngL m)[i]? := by
  show some (if i < m then some (PV.int (0 + (i : Int))) else none) = _
  unfold rngL
  rw [List.getElem?_map]
  by_cases hi : i < m
  · rw [if_pos hi, List.getElem?_range hi]; rfl
  · rw [if_neg hi, List.getElem?_eq_none (by simp; omega)]; rfl
theorem rng_len {m : Nat} : (rngL m).length = m := by unfold rngL; simp
def oddF (xs : List PV) (i : Int) (y : PV) : PV := .tup ((cutP xs none (some i) ++ [y]) ++ cutP xs (some (i + 1)) none)
section
variable {n k t : Nat} {h : PH} {xs ys : List PV}
theorem odd_ok {h1 : PH} {i : Int} {y : PV} (hx : ∀ x ∈ xs, Ok k h1 x) (hy : Ok k h1 y) (xl : xs.length ≤ 10) (hk : k ≤ 19) : Ok (k + 1) h1 (oddF xs i y) := by
  refine Ok.tup ?_ (fun z hz => ?_) (by omega)
  · have a : (cutP xs none (some i)).length ≤ xs.length := cut_le
    have b : (cutP xs (some (i + 1)) none).length ≤ xs.length := cut_le
    rw [List.length_append, List.length_append]
    show _ + 1 + _ ≤ 500
    omega
  · rcases List.mem_append.mp hz with hz | hz
    · rcases List.mem_append.mp hz with hz | hz
      · exact hx z (mem_cut hz)
      · rw [List.mem_singleton] at hz; subst hz; exact hy
    · exact hx z (mem_cut hz)
theorem bd_mid {h1 g : PH} {acc : List PV} (b : Bd h1) (ha : ∀ z ∈ acc, z.bd h1.length = true) (hg : ∀ o ∈ g, PO.bd h1.length o = true) : Bd (h1 ++ (.lst acc :: g)) := by
  unfold Bd
  rw [List.all_eq_true]
  intro o ho
  refine po_up (n := h1.length) (by rw [List.length_append]; omega) ?_
  rcases List.mem_append.mp ho with ho | ho
  · exact List.all_eq_true.mp b o ho
  · rcases List.mem_cons.mp ho with rfl | ho
    · exact bds_all ha
    · exact hg o ho
theorem c_law_odds (bd : Bd h) (hx : ∀ x ∈ xs, Ok k h x) (xl : xs.length ≤ 10) (hk : k ≤ 19) (ht : h[t]? = some (.lst ys)) (hy : ∀ y ∈ ys, Ok k h y) (yl : ys.length ≤ 50) :
    ∃ r h' zs, evCall tab gl (n + 1) "_law_odds" [.tup xs, .ref t] h = some (.ref r, h') ∧ Ge h h' ∧ Bd h' ∧ h'[r]? = some (.lst zs) ∧ zs.length ≤ 1000 ∧ ∀ z ∈ zs, Ok (k + 1) h' z := by
  have C : Cl := ⟨evCall tab gl n, gl⟩
  have b1 : Bd (h ++ [.lst xs]) := Bd.snoc bd (bds_all fun x m => (bds_up (by omega)).1 x (hx x m).bd)
  have x1 : ∀ x ∈ xs, Ok k (h ++ [.lst xs]) x := fun x m => (hx x m).app
  have y1 : ∀ y ∈ ys, Ok k (h ++ [.lst xs]) y := fun y m => (hy y m).app
  have t1 : (h ++ [PO.lst xs])[t]? = some (.lst ys) := keepL ht
  have r1 : (h ++ [PO.lst xs])[h.length]? = some (.lst xs) := last_at
  have g1 : Ge h (h ++ [PO.lst xs]) := Ge.mk
  have e_list : evE ⟨evCall tab gl n, gl⟩ (.b1 .list (.var 0)) [some (.tup xs), some (.ref t), none, none, none] h = some (.ref h.length, h ++ [.lst xs]) := e_list rfl
  generalize hh1 : h ++ [PO.lst xs] = h1 at *
  let A : List PV := [.tup xs, .non, .ref h.length, .tup (xs ++ [.int 0]), .tup (cutP xs none (some (-1))), .tup (cutP xs (some 1) none)]
  have cl : ∀ lo hi, (cutP xs lo hi).length ≤ 500 := fun lo hi => Nat.le_trans cut_le (by omega)
  have okA : ∀ z ∈ A, Ok (k + 1) h1 z := by
    intro z hz
    simp only [A, List.mem_cons, List.not_mem_nil, or_false] at hz
    rcases hz with rfl | rfl | rfl | rfl | rfl | rfl
    · exact Ok.tup (by omega) x1 (by omega)
    · exact Ok.le Ok.non (by omega)
    · exact Ok.lst r1 x1
    · refine Ok.tup (by rw [List.length_append]; show _ + 1 ≤ 500; omega) (fun x m => ?_) (by omega)
      rcases List.mem_append.mp m with m | m
      · exact x1 x m
      · rw [List.mem_singleton] at m; subst m; exact Ok.le (Ok.int 0) (by omega)
    · exact Ok.tup (cl _ _) (fun x m => x1 x (mem_cut m)) (by omega)
    · exact Ok.tup (cl _ _) (fun x m => x1 x (mem_cut m)) (by omega)
  have eA : evE ⟨evCall tab gl n, gl⟩ (.lst (.cons (.var 0) (.cons (.con .non) (.cons (.b1 .list (.var 0)) (.cons (.bin .add (.var 0) (.tup (.cons (.con (.int 0)) .nil))) (.cons (.sl (.var 0) .none (.some (.neg (.con (.int 1))))) (.cons (.sl (.var 0) (.some (.con (.int 1))) .none) .nil))))))) [some (.tup xs), some (.ref t), none, none, none] h = some (.ref h1.length, h1 ++ [.lst A]) := by
    unfold evE
    rw [show evEs ⟨evCall tab gl n, gl⟩ (.cons (.var 0) (.cons (.con .non) (.cons (.b1 .list (.var 0)) (.cons (.bin .add (.var 0) (.tup (.cons (.con (.int 0)) .nil))) (.cons (.sl (.var 0) .none (.some (.neg (.con (.int 1))))) (.cons (.sl (.var 0) (.some (.con (.int 1))) .none) .nil)))))) [some (.tup xs), some (.ref t), none, none, none] h = some (A, h1) from
      es_cons (p_var rfl) (es_cons p_non (es_cons e_list (es_cons (p_bin (p_var rfl) (p_tup (p_cons p_int p_nil) (by show 1 ≤ SZ; decide)) (if_pos (by show xs.length + 1 ≤ SZ; exact Nat.le_trans (show xs.length + 1 ≤ 11 by omega) (by decide)))) (es_cons (p_sl (p_var rfl) o_no (o_yes (p_neg p_int)) rfl) (es_cons (p_sl (p_var rfl) (o_yes p_int) o_no rfl) p_nil)))))]
    rfl
  obtain ⟨ρ', h', el, acc, g, x3, rfl, rfl, oka, la, og⟩ := fr_any (C := ⟨evCall tab gl n, gl⟩) (sv := .rng 0 xs.length) (tg := .one 3) (xs := rngL xs.length)
    (body := .cons (.exp (.ext (.var 2) (.lc (.bin .add (.bin .add (.sl (.var 0) .none (.some (.var 3))) (.tup (.cons (.var 4) .nil))) (.sl (.var 0) (.some (.bin .add (.var 3) (.con (.int 1)))) .none)) (.one 4) (.it (.var 1)) [4] .none))) .nil)
    (fun i ρ h' => ∃ acc g x3, ρ = [some (.tup xs), some (.ref t), some (.ref h1.length), x3, none] ∧ h' = h1 ++ (.lst acc :: g) ∧ (∀ z ∈ acc, Ok (k + 1) h1 z) ∧ acc.length = 6 + i * ys.length ∧ ∀ o ∈ g, PO.bd h1.length o = true)
    (fun i ρ h _ => rng_at) (by
      rintro i x ρ h' hxi ⟨acc, g, x3, rfl, rfl, oka, la, og⟩
      have hi : i < xs.length := by
        have := (List.getElem?_eq_some_iff.mp hxi).1
        rw [rng_len] at this
        exact this
      have hx' : x = .int (0 + (i : Int)) := by
        unfold rngL at hxi
        rw [List.getElem?_map, List.getElem?_range hi] at hxi
        cases hxi
        rfl
      subst hx'
      have tH : (h1 ++ (PO.lst acc :: g))[t]? = some (.lst ys) := keepL t1
      have hyl : ys.length < TURNS := by have : (1000 : Nat) < TURNS := tb; omega
      have he : evE ⟨evCall tab gl n, gl⟩ (.lc (.bin .add (.bin .add (.sl (.var 0) .none (.some (.var 3))) (.tup (.cons (.var 4) .nil))) (.sl (.var 0) (.some (.bin .add (.var 3) (.con (.int 1)))) .none)) (.one 4) (.it (.var 1)) [4] .none) [some (.tup xs), some (.ref t), some (.ref h1.length), some (.int (0 + (i : Int))), none] (h1 ++ (.lst acc :: g)) = some (.ref (h1 ++ (PO.lst acc :: g)).length, h1 ++ (.lst acc :: (g ++ [.lst (ys.map (oddF xs (0 + (i : Int))))]))) := by
        rw [e_lcG (sv := .lst t) (F := oddF xs (0 + (i : Int))) (xs := ys) (h1 := h1 ++ (.lst acc :: g)) ?_ (at_lst tH) hyl fun y hy => ⟨_, bind_one, ?_⟩]
        · rw [List.append_assoc]; rfl
        · unfold evS
          rw [show evE _ (.var 1) [some (.tup xs), some (.ref t), some (.ref h1.length), some (.int (0 + (i : Int))), none] (h1 ++ (PO.lst acc :: g)) = some (.ref t, h1 ++ (.lst acc :: g)) from p_var rfl]
          show (match (h1 ++ (PO.lst acc :: g))[t]? with | some (.lst _) => some (SV.lst t) | _ => none).map _ = _
          rw [tH]
          rfl
        · have a : ∀ lo hi, (cutP xs lo hi).length ≤ 10 := fun lo hi => Nat.le_trans cut_le xl
          have sz : (100 : Nat) ≤ SZ := by decide
          have a1 := a none (some (0 + (i : Int)))
          have a2 := a (some (0 + (i : Int) + 1)) none
          exact p_bin (p_bin (p_sl (p_var rfl) o_no (o_yes (p_var rfl)) rfl) (p_tup (p_cons (p_var rfl) p_nil) (by show 1 ≤ SZ; decide)) (if_pos (by show (cutP xs none (some (0 + (i : Int)))).length + 1 ≤ SZ; omega))) (p_sl (p_var rfl) (o_yes (p_add (p_var rfl) p_int)) o_no rfl) (if_pos (by rw [List.length_append]; show _ + 1 + _ ≤ SZ; omega))
      have hq : PH.ls (h1 ++ (PO.lst acc :: (g ++ [.lst (ys.map (oddF xs (0 + (i : Int))))]))) (h1 ++ (PO.lst acc :: g)).length = some (ys.map (oddF xs (0 + (i : Int)))) := by
        rw [show h1 ++ (PO.lst acc :: (g ++ [.lst (ys.map (oddF xs (0 + (i : Int))))])) = (h1 ++ (PO.lst acc :: g)) ++ [.lst (ys.map (oddF xs (0 + (i : Int))))] from by rw [List.append_assoc]; rfl]
        exact ls_new
      have im : i * ys.length ≤ 10 * 50 := Nat.mul_le_mul (by omega) yl
      have ee := e_ext (C := ⟨evCall tab gl n, gl⟩) (i := 2) rfl he hq (by rw [List.length_map]; exact Nat.le_trans (show acc.length + ys.length ≤ 1000 by omega) (by decide))
      refine ⟨_, [some (.tup xs), some (.ref t), some (.ref h1.length), some (.int (0 + (i : Int))), none], _, rfl, ?_, acc ++ ys.map (oddF xs (0 + (i : Int))), g ++ [.lst (ys.map (oddF xs (0 + (i : Int))))], _, rfl, rfl, ?_, ?_, ?_⟩
      · show evTs _ (.cons (.exp _) .nil) [some (.tup xs), some (.ref t), some (.ref h1.length), some (.int (0 + (i : Int))), none] _ = _
        unfold evTs evT
        rw [ee]
        rfl
      · intro z hz
        rcases List.mem_append.mp hz with hz | hz
        · exact oka z hz
        · obtain ⟨y, m, rfl⟩ := List.mem_map.mp hz
          exact odd_ok x1 (y1 y m) xl hk
      · rw [List.length_append, List.length_map, la, Nat.add_mul]; omega
      · intro o ho
        rcases List.mem_append.mp ho with ho | ho
        · exact og o ho
        · rw [List.mem_singleton] at ho
          subst ho
          exact bds_all fun z hz => by
            obtain ⟨y, m, rfl⟩ := List.mem_map.mp hz
            exact (odd_ok x1 (y1 y m) xl hk).bd
      ) TURNS 0 [some (.tup xs), some (.ref t), some (.ref h1.length), none, none] (h1 ++ [.lst A]) (Nat.zero_le _) (by rw [rng_len]; have : (1000 : Nat) < TURNS := tb; omega) ⟨A, [], none, rfl, rfl, okA, by simp [A], fun _ z => nomatch z⟩
  have im : (rngL xs.length).length * ys.length ≤ 10 * 50 := Nat.mul_le_mul (by rw [rng_len]; exact xl) yl
  refine ⟨h1.length, h1 ++ (.lst acc :: g), acc, ?_, g1.trans Ge.mk, bd_mid b1 (fun z hz => (oka z hz).bd) og, mid_at, by omega, fun z hz => (oka z hz).app⟩
  have nb : ¬ h1.length < h.length := by
    obtain ⟨gg, e⟩ := g1
    rw [e, List.length_append]
    omega
  rw [call_def (fn := f__law_odds) (v := .ref h1.length) (h' := h1 ++ (.lst acc :: g)) rfl rfl (by decide) (rt_asgG eA (rt_for ?_ el (rt_retG (p_var rfl))))]
  · unfold trim
    rw [show PV.bd h.length (.ref h1.length) = false from decide_eq_false nb]
    rfl
  · unfold evS
    rw [show evE ⟨evCall tab gl n, gl⟩ (.b1 .len (.var 0)) _ _ = some (.int xs.length, h1 ++ [.lst A]) from p_len (p_var rfl) rfl]
    simp only
    rw [if_pos (by omega)]
    rfl
end
end K20

end
section
set_option Elab.async false
set_option maxRecDepth 100000
set_option maxHeartbeats 1000000
set_option autoImplicit false
set_option linter.all false
/-! K20cn: the loop over odd sayings. -/
namespace K20
open PySem Pv
section
variable {C : Cl} {ρ : PEnv} {h h1 h2 h3 : PH} {v x y w : PV} {a b : IE} {f : Str} {ts body : ITs} {Q : PEnv → PH → Prop}
theorem e_both (e4 : evE C a ρ h = some (x, h1)) (e5 : evE C b ρ h1 = some (y, h2)) (hc : C.call f [x, y] h2 = some (w, h3)) : evE C (.call f (.cons a (.cons b .nil))) ρ h = some (w, h3) := by
  unfold evE
  rw [es_cons e4 (es_cons e5 p_nil)]
  exact hc
theorem s_ref {r : Nat} {zs : List PV} (e : evE C a ρ h = some (.ref r, h1)) (hz : h1[r]? = some (.lst zs)) : evS C (.it a) ρ h = some (.lst r, h1) := by
  unfold evS
  rw [e]
  show (match h1[r]? with | some (.lst _) => some (SV.lst r) | _ => none).map _ = _
  rw [hz]
  rfl
/-- for thing in (a list of things): E says what the environment may be -/
theorem Ev.things {r : Nat} {zs : List PV} (E : PEnv → Prop) (e : evE C a ρ h = some (.ref r, h1)) (hz : h1[r]? = some (.lst zs)) (zl : zs.length ≤ 1000) (b1 : Bd h1) (gz : ∀ z ∈ zs, Gd h1 z) (hE : E ρ)
    (step : ∀ z ρ h, Gd h z → Bd h → E ρ → Ev C body (ρ.set 3 (some z)) h fun ρ' h' => E ρ' ∧ Ge h h' ∧ Bd h') (hb : ∀ ρ z, E ρ → bindTg ρ (.one 3) z = some (ρ.set 3 (some z)))
    (hr : ∀ ρ' h', E ρ' → Ge h1 h' → Bd h' → Ev C ts ρ' h' Q) : Ev C (.cons (.fr (.one 3) (.it a) body) ts) ρ h Q := by
  refine Ev.fr (sv := .lst r) (xs := zs) (fun _ ρ h => E ρ ∧ Ge h1 h ∧ Bd h) (s_ref e hz) ⟨hE, Ge.refl, b1⟩ (turns_ok zl) (fun i ρ h ⟨_, k, _⟩ => at_lst (k.at' hz) i) ?_ ?_
  · rintro i z ρ h hx ⟨e1, k, b⟩
    refine ⟨_, hb ρ z e1, ?_⟩
    obtain ⟨ρ', h', e2, e3, k', b'⟩ := step z ρ h (k.gd (gz z (List.mem_of_getElem? hx))) b e1
    exact ⟨ρ', h', e2, e3, k.trans k', b'⟩
  · rintro ρ' h' ⟨e1, k, b⟩
    exact hr ρ' h' e1 k b
end
abbrev P71a : IE := .lst (.cons (.call "is_saying_form" (.cons (.var 3) .nil)) (.cons (.call "is_plain_saying" (.cons (.var 3) .nil)) .nil))
abbrev P71b : IE := .lst (.cons (.var 17) (.cons (.and (.var 17) (.cmp .notin (.con (.str "result")) (.call "_law_spoken" (.cons (.var 3) .nil)))) .nil))
/-- an environment of 23 places, the bag at its own -/
def E23 (ρ : PEnv) : Prop := ∃ s0 s2 s3 s4 s5 s6 s7 s8 s9 s10 s11 s12 s13 s14 s15 s16 s17 s18 s19 s20 s21 s22, ρ = [s0, some (.ref 2), s2, s3, s4, s5, s6, s7, s8, s9, s10, s11, s12, s13, s14, s15, s16, s17, s18, s19, s20, s21, s22]
def E13 (good : PV) (ρ : PEnv) : Prop := ∃ s0 s2 s3 s4 s5 s6 s7 s8 s9 s10 s11 s12 s14 s15 s16 s17 s18 s19 s20 s21 s22, ρ = [s0, some (.ref 2), s2, s3, s4, s5, s6, s7, s8, s9, s10, s11, s12, some good, s14, s15, s16, s17, s18, s19, s20, s21, s22]
section
variable {h : PH} {v good : PV}
theorem say_body (g : Gd h v) (bd : Bd h) {ρ : PEnv} (hE : E13 good ρ) : Ev C29 L_5_7_B (ρ.set 3 (some v)) h fun ρ' h' => E13 good ρ' ∧ Ge h h' ∧ Bd h' := by
  obtain ⟨s0, s2, s3, s4, s5, s6, s7, s8, s9, s10, s11, s12, s14, s15, s16, s17, s18, s19, s20, s21, s22, rfl⟩ := hE
  refine Ev.asg (u := .bl (isSay v)) (h1 := h) (p_call (p_cons (p_var rfl) p_nil) (c_law_is_saying g bd)) ?_
  obtain ⟨p1, h1, e1, a1, k1, b1⟩ : NB C29 P71a [s0, some (.ref 2), s2, some v, s4, s5, s6, s7, s8, s9, s10, s11, s12, some good, s14, s15, s16, some (.bl (isSay v)), s18, s19, s20, s21, s22] h [isSay v, isPlain v] :=
    new_bls bd (p_cons (p_call (p_cons (p_var rfl) p_nil) (c_is_saying_form g bd)) (p_cons (p_call (p_cons (p_var rfl) p_nil) (c_is_plain_saying g bd)) p_nil)) rfl (by show 2 ≤ 1000; decide)
  have g1 := k1.gd g
  obtain ⟨p2, h2, e2, a2, k2, b2⟩ : NB C29 P71b [s0, some (.ref 2), s2, some v, s4, s5, s6, s7, s8, s9, s10, s11, s12, some good, s14, s15, s16, some (.bl (isSay v)), s18, s19, s20, s21, s22] h1 [isSay v, isPlain v] :=
    new_bls b1 (p_cons (p_var rfl) (p_cons (p_and (p_var rfl) fun e => p_law_plain (n := 28) rfl g1 b1 e) p_nil)) rfl (by show 2 ≤ 1000; decide)
  refine Ev.sk (h1 := h2) (e_both (C := C29) (f := "_law_alike") e1 e2 (c_alike b2 (bs := [isSay v, isPlain v]) (lsL (k2.at' a1)) (lsL a2) (by show 2 ≤ 1000; decide))) ?_
  exact Ev.nil ⟨⟨_, _, _, _, _, _, _, _, _, _, _, _, _, _, _, _, _, _, _, _, _, rfl⟩, k1.trans k2, b2⟩
theorem gd_it (g : Gd h v) (i : Nat) : Gd h (it v i) := by
  by_cases hi : i < (its v).length
  · exact (gd_its g _ (it_mem hi)).1
  · unfold it
    rw [List.getD_eq_getElem?_getD, List.getElem?_eq_none (by omega)]
    exact .non
theorem two_gd (g : Gd h v) : ∀ x ∈ two12 v, Gd h x := by
  intro x hx
  simp only [two12, List.mem_cons, List.not_mem_nil, or_false] at hx
  rcases hx with rfl | rfl <;> exact gd_it g _
theorem spoken_gd (g : Gd h v) : ∀ x ∈ spokenL v, Gd h x := by
  intro x hx
  unfold spokenL at hx
  rcases List.mem_append.mp hx with hx | hx
  · obtain ⟨r, hr, hx⟩ := List.mem_flatMap.mp hx
    exact two_gd (gd_its (gd_it g 0) r hr).1 x hx
  · obtain ⟨r, hr, hx⟩ := List.mem_flatMap.mp hx
    have gr := (gd_its (gd_it g 1) r hr).1
    unfold factN at hx
    split at hx
    · exact two_gd gr x hx
    · rcases List.mem_append.mp hx with hx | hx
      · exact (gd_its (gd_it gr 1) x hx).1
      · exact (gd_its (gd_it gr 2) x hx).1
theorem spoken_lay (g : Gd h v) (e : isSay v = true) : ∀ s ∈ spokenS v, (PyData.str s).canLay0 = true := by
  intro s hs
  unfold spokenS at hs
  rw [Pv.mem_setS] at hs
  obtain ⟨x, hx, rfl⟩ := List.mem_map.mp hs
  have k := spoken_s e x hx
  have gx := spoken_gd g x hx
  cases gx with
  | str s z c => exact c
  | _ => cases k
/-- told_names_of(good) != tuple(_law_spoken(good)) is False -/
theorem told_same {ρ : PEnv} (g : Gd h good) (bd : Bd h) (e : isSay good = true) (hv : ρ[13]? = some (some good)) : Pe C29 ρ h L_5_8_C (.bl false) := by
  obtain ⟨q, gg, e1, e2⟩ := c_law_spoken (n := 28) g e
  have hb : Pe C29 ρ h (.b1 .tuple (.call "_law_spoken" (.cons (.var 13) .nil))) (.tup ((spokenS good).map .str)) := by
    refine p_b1G (g1 := gg) (g2 := gg) (x := .ref q) bd ?_ ?_ (bds_strs _)
    · unfold evE
      rw [show evEs C29 (.cons (.var 13) .nil) ρ h = some ([good], h) from p_cons (p_var hv) p_nil]
      exact e1
    · show (PH.ls (h ++ gg) q).map _ = _
      rw [e2]
      rfl
  refine p_cmp (p_call (p_cons (p_var hv) p_nil) (c_told_names_of g bd e)) hb ?_
  obtain ⟨d, d1, d2⟩ : Dat 24 h (.tup ((spokenS good).map .str)) := (Dat.tup (k := 0) fun x hx => by
    obtain ⟨s, m, rfl⟩ := List.mem_map.mp hx
    exact ⟨.str s, rfl, spoken_lay g e s m⟩).ups 23
  show (if (false && false) = true then _ else match toD DD h (.tup ((spokenS good).map .str)), toD DD h (.tup ((spokenS good).map .str)) with
    | some d, some e => if d.canLay0 && e.canLay0 then some (PyData.eqv d e) else none
    | _, _ => none : Option Bool).map not = _
  rw [show toD DD h (.tup ((spokenS good).map .str)) = some d from d1]
  simp only
  rw [d2, if_neg (by decide), if_pos (by rfl), PySem.SeqAt.eqv_refl _ d2]
  rfl
end
end K20

end
section
set_option Elab.async false
set_option maxRecDepth 100000
set_option maxHeartbeats 1000000
set_option autoImplicit false
set_option linter.all false
/-! K20co: one odd memory. -/
namespace K20
open PySem Pv
section
variable {C : Cl} {ρ : PEnv} {h : PH} {v w : PV} {P : PV → Bool} {j : Nat} {a cnd : IE}
/-- [one for one in a if not c] == [], a a tuple -/
theorem p_nots (bd : Bd h) (g : Gd h w) (t : isT w = true) (ha : Pe C ρ h a w)
    (hc : ∀ x ∈ its w, ∃ ρx, bindTg (wipeP ρ [j]) (.one j) x = some ρx ∧ Pe C ρx h cnd (.bl (P x)) ∧ ρx[j]? = some (some x)) :
    Pe C ρ h (.cmp .eq (.lc (.var j) (.one j) (.it a) [j] (.some (.not cnd))) (.lst .nil)) (.bl ((its w).all P)) := by
  obtain ⟨s1, s2⟩ := s_it (C := C) (ρ := ρ) (h := h) (a := a) (xs := its w) (by rw [← its_t t]; exact ha)
  have e1 : (its w).all P = (its w).all fun x => !(!P x) := by
    congr 1
    funext x
    rw [Bool.not_not]
  rw [e1]
  refine p_none (fun x => !P x) id bd s1 s2 (turns_ok (its_len g)) (fun x hx => ?_) fun x hx => (gd_its g x hx).2.ups 3
  obtain ⟨ρx, r1, r2, r3⟩ := hc x hx
  exact ⟨ρx, r1, p_not r2, p_var r3⟩
theorem ne_bl {a b : Bool} (e : a = b) : cmpPV .ne h (.bl a) (.bl b) = some false := by
  subst e
  cases a <;> rfl
theorem two_ix (g : Gd h v) (e : isSz v 2 = true) (hv : ρ[3]? = some (some v)) : Pe C ρ h (.ix (.var 3) (.con (.int 0))) (it v 0) ∧ Pe C ρ h (.ix (.var 3) (.con (.int 1))) (it v 1) :=
  ⟨p_ix (p_var hv) p_int (at_it (k := 2) g e (by decide)).1, p_ix (p_var hv) p_int (at_it (k := 2) g e (by decide)).1⟩
def mem1 (v : PV) : Bool := isSz v 2 && (isT (it v 0) && ((its (it v 0)).all isInt && isT (it v 1)))
theorem mem_alt : (mem1 v && (its (it v 1)).all isTold2) = isMem v := by
  unfold mem1 isMem tupOf
  cases isSz v 2 <;> cases isT (it v 0) <;> cases isT (it v 1) <;> cases (its (it v 0)).all isInt <;> rfl
theorem mem_body (g : Gd h v) (bd : Bd h) {ρ : PEnv} (hE : E23 ρ) : Ev C29 L_5_10_B (ρ.set 3 (some v)) h fun ρ' h' => E23 ρ' ∧ Ge h h' ∧ Bd h' := by
  obtain ⟨s0, s2, s3, s4, s5, s6, s7, s8, s9, s10, s11, s12, s13, s14, s15, s16, s17, s18, s19, s20, s21, s22, rfl⟩ := hE
  refine Ev.asg (u := .bl (mem1 v)) (h1 := h) (p_and (p_call (p_cons (p_var rfl) (p_cons p_int p_nil)) (c_law_is_sized g)) fun e => p_and (p_isi (two_ix g e rfl).1 (k_tup (gd_it g 0))) fun t => p_and (p_nots bd (gd_it g 0) t (two_ix g e rfl).1 fun x hx => ⟨_, bind_one, p_call (p_cons (p_var rfl) p_nil) (c_law_is_integer (gd_its (gd_it g 0) x hx).1), rfl⟩) fun _ => p_isi (two_ix g e rfl).2 (k_tup (gd_it g 1))) ?_
  refine Ev.asg (u := .bl (mem1 v && (its (it v 1)).all isTold2)) (h1 := h) (p_and (p_var rfl) fun e => ?_) ?_
  · unfold mem1 at e
    simp only [Bool.and_eq_true] at e
    refine p_nots bd (gd_it g 1) e.2.2.2 (two_ix g e.1 rfl).2 fun x hx => ⟨_, bind_one, ?_, rfl⟩
    have gx := (gd_its (gd_it g 1) x hx).1
    refine p_and (p_call (p_cons (p_var rfl) (p_cons p_int p_nil)) (c_law_is_sized gx)) fun e => p_and (p_call (p_cons (p_ix (p_var rfl) p_int (at_it (k := 2) gx e (by decide)).1) p_nil) (c_law_is_cut_name (gd_it gx 0) bd)) fun _ => p_call (p_cons (p_ix (p_var rfl) p_int (at_it (k := 2) gx e (by decide)).1) p_nil) (c_law_is_count (gd_it gx 1))
  refine Ev.sk0 (p_cmp (p_call (p_cons (p_var rfl) p_nil) (c_is_memory_form g bd)) (p_var rfl) (ne_bl mem_alt.symm)) ?_
  exact Ev.nil ⟨⟨_, _, _, _, _, _, _, _, _, _, _, _, _, _, _, _, _, _, _, _, _, _, rfl⟩, Ge.refl, bd⟩
end
end K20

end
section
set_option Elab.async false
set_option maxRecDepth 100000
set_option maxHeartbeats 1000000
set_option autoImplicit false
set_option linter.all false
/-! K20cp: one odd world. -/
namespace K20
open PySem Pv
section
variable {C : Cl} {ρ : PEnv} {h : PH} {v : PV} {c : IE} {ta tb ts : ITs} {Q R : PEnv → PH → Prop}
theorem Ev.iteT (hc : Pe C ρ h c (.bl true)) (ha : Ev C ta ρ h R) (hr : ∀ ρ' h', R ρ' h' → Ev C ts ρ' h' Q) : Ev C (.cons (.ite c ta tb) ts) ρ h Q := by
  obtain ⟨ρ1, h1, e1, q1⟩ := ha
  obtain ⟨ρ2, h2, e2, q2⟩ := hr ρ1 h1 q1
  refine ⟨ρ2, h2, ?_, q2⟩
  unfold evTs evT
  rw [show evE C c ρ h = some (.bl true, h) from hc]
  show (match evTs C ta ρ h with | some (.nx ρ, h) => evTs C ts ρ h | r => r) = _
  rw [e1]
  exact e2
theorem three_ix (g : Gd h v) (e : isSz v 3 = true) (hv : ρ[3]? = some (some v)) : Pe C ρ h (.ix (.var 3) (.con (.int 0))) (it v 0) ∧ Pe C ρ h (.ix (.var 3) (.con (.int 1))) (it v 1) ∧ Pe C ρ h (.ix (.var 3) (.con (.int 2))) (it v 2) :=
  ⟨p_ix (p_var hv) p_int (at_it (k := 3) g e (by decide)).1, p_ix (p_var hv) p_int (at_it (k := 3) g e (by decide)).1, p_ix (p_var hv) p_int (at_it (k := 3) g e (by decide)).1⟩
def wor1 (v : PV) : Bool := isSz v 3 && (its v).all isT
theorem gapI_alt : (isInt v && le3 v) = isGap v := by cases v <;> rfl
def in02 (v : PV) : Bool := match v with | .int i => decide (0 ≤ i) && decide (i ≤ 2) | _ => false
theorem knownI_alt : (isInt v && in02 v) = isKnown v := by cases v <;> rfl
theorem int_of (e : isInt v = true) : ∃ i, v = .int i := by cases v <;> first | exact ⟨_, rfl⟩ | cases e
theorem cutT_alt : (isT v && ((its v).all isCut && rises v)) = isCutT v := by
  unfold isCutT tupOf
  rw [Bool.and_assoc]
theorem wor_of (e : wor1 v = true) : isSz v 3 = true ∧ isT (it v 0) = true ∧ isT (it v 1) = true ∧ isT (it v 2) = true := by
  unfold wor1 at e
  have e := Bool.and_eq_true_iff.mp e
  have l := (sz_lt (k := 3) e.1).2
  exact ⟨e.1, List.all_eq_true.mp e.2 _ (it_mem (by omega)), List.all_eq_true.mp e.2 _ (it_mem (by omega)), List.all_eq_true.mp e.2 _ (it_mem (by omega))⟩
theorem wor_alt1 (e : wor1 v = true) : (((its (it v 0)).all isCutT && (its (it v 1)).all isGap) && (its (it v 2)).all (tupOf isKnown)) = isWorld v := by
  obtain ⟨a, b, c, d⟩ := wor_of e
  unfold isWorld
  rw [show tupOf isCutT (it v 0) = (isT (it v 0) && (its (it v 0)).all isCutT) from rfl, show tupOf isGap (it v 1) = (isT (it v 1) && (its (it v 1)).all isGap) from rfl, show tupOf (tupOf isKnown) (it v 2) = (isT (it v 2) && (its (it v 2)).all (tupOf isKnown)) from rfl, a, b, c, d]
  simp only [Bool.true_and, Bool.and_assoc]
theorem wor_alt2 (e : wor1 v = false) : isWorld v = false := by
  cases hw : isWorld v with
  | false => rfl
  | true =>
    unfold isWorld at hw
    simp only [Bool.and_eq_true] at hw
    obtain ⟨a, b, c, d⟩ := hw
    have hv := three a
    have : wor1 v = true := by
      unfold wor1
      rw [a, hv]
      show (isT (it v 0) && (isT (it v 1) && (isT (it v 2) && true))) = true
      rw [(tup_of b).1, (tup_of c).1, (tup_of d).1]
      rfl
    rw [e] at this
    cases this
theorem world_body (g : Gd h v) (bd : Bd h) {ρ : PEnv} (hE : E23 ρ) : Ev C29 L_5_12_B (ρ.set 3 (some v)) h fun ρ' h' => E23 ρ' ∧ Ge h h' ∧ Bd h' := by
  obtain ⟨s0, s2, s3, s4, s5, s6, s7, s8, s9, s10, s11, s12, s13, s14, s15, s16, s17, s18, s19, s20, s21, s22, rfl⟩ := hE
  refine Ev.asg (u := .bl (wor1 v)) (h1 := h) (p_and (p_call (p_cons (p_var rfl) (p_cons p_int p_nil)) (c_law_is_sized g)) fun e => p_nots bd g (sz_lt (k := 3) e).1 (p_var rfl) fun x hx => ⟨_, bind_one, p_isi (p_var rfl) (k_tup (gd_its g x hx).1), rfl⟩) ?_
  cases hw : wor1 v with
  | false =>
    refine Ev.sk0 (p_var rfl) ?_
    refine Ev.sk0 (p_cmp (p_call (p_cons (p_var rfl) p_nil) (c_is_world_form g bd)) (p_var rfl) (ne_bl (wor_alt2 hw))) ?_
    exact Ev.nil ⟨⟨_, _, _, _, _, _, _, _, _, _, _, _, _, _, _, _, _, _, _, _, _, _, rfl⟩, Ge.refl, bd⟩
  | true =>
    obtain ⟨z, t0, t1, t2⟩ := wor_of hw
    refine Ev.iteT (R := fun ρ' h' => h' = h ∧ ρ' = [s0, some (.ref 2), s2, some v, s4, s5, some (.bl (isWorld v)), s7, s8, s9, s10, s11, s12, s13, s14, s15, s16, s17, s18, s19, s20, s21, s22]) (p_var rfl) ?_ ?_
    · refine Ev.asg (u := .bl ((its (it v 0)).all isCutT)) (h1 := h) (p_nots bd (gd_it g 0) t0 (three_ix g z rfl).1 fun x hx => ⟨_, bind_one, ?_, rfl⟩) ?_
      · have gx := (gd_its (gd_it g 0) x hx).1
        rw [← cutT_alt]
        exact p_and (p_isi (p_var rfl) (k_tup gx)) fun t => p_and (p_nots bd gx t (p_var rfl) fun y hy => ⟨_, bind_one, p_call (p_cons (p_var rfl) p_nil) (c_law_is_cut_name (gd_its gx y hy).1 bd), rfl⟩) fun e => p_call (p_cons (p_var rfl) p_nil) (c_law_rises_up gx bd t fun y hy => cut_s (List.all_eq_true.mp e y hy))
      refine Ev.asg (u := .bl ((its (it v 0)).all isCutT && (its (it v 1)).all isGap)) (h1 := h) (p_and (p_var rfl) fun _ => p_nots bd (gd_it g 1) t1 (three_ix g z rfl).2.1 fun x hx => ⟨_, bind_one, ?_, rfl⟩) ?_
      · have gx := (gd_its (gd_it g 1) x hx).1
        rw [← gapI_alt]
        refine p_and (p_call (p_cons (p_var rfl) p_nil) (c_law_is_integer gx)) fun e => ?_
        obtain ⟨i, rfl⟩ := int_of e
        exact p_cmp2 p_int (p_var rfl) p_int rfl rfl
      refine Ev.asg (u := .bl (isWorld v)) (h1 := h) ?_ (Ev.nil ⟨rfl, rfl⟩)
      rw [← wor_alt1 hw]
      refine p_and (p_var rfl) fun _ => p_nots bd (gd_it g 2) t2 (three_ix g z rfl).2.2 fun x hx => ⟨_, bind_one, ?_, rfl⟩
      have gx := (gd_its (gd_it g 2) x hx).1
      refine p_and (p_isi (p_var rfl) (k_tup gx)) fun t => p_nots bd gx t (p_var rfl) fun y hy => ⟨_, bind_one, ?_, rfl⟩
      have gy := (gd_its gx y hy).1
      rw [← knownI_alt]
      refine p_and (p_call (p_cons (p_var rfl) p_nil) (c_law_is_integer gy)) fun e => ?_
      obtain ⟨i, rfl⟩ := int_of e
      exact p_cmp2 p_int (p_var rfl) p_int rfl rfl
    · rintro ρ' h' ⟨rfl, rfl⟩
      refine Ev.sk0 (p_cmp (p_call (p_cons (p_var rfl) p_nil) (c_is_world_form g bd)) (p_var rfl) (ne_bl rfl)) ?_
      exact Ev.nil ⟨⟨_, _, _, _, _, _, _, _, _, _, _, _, _, _, _, _, _, _, _, _, _, _, rfl⟩, Ge.refl, bd⟩
end
end K20

end
section
set_option Elab.async false
set_option maxRecDepth 100000
set_option maxHeartbeats 1000000
set_option autoImplicit false
set_option linter.all false
/-! K20cq: the odd things for a saying. -/
namespace K20
open PySem Pv
def O1 (place fact a : PV) : List PV := [.int 0, .tup [], .tup [place], .tup [fact], .tup [.tup [a, .str "x", .non]], .tup [.tup [.str "rising", .str "x"]], .tup [.tup [.str "below", .tup [.str "x"], .tup []]], .tup [.tup [.str "below", .tup [.str "x", .str "y", .str "x"], .tup [.str "x"]]]]
def O2 (p q : Nat) : List PV := [.tup [.tup [.str "same", .str "x", .str "less"]], .ref p, .tup [.tup [.str "upto", .ref q, .str "y"]]]
section
variable {C : Cl} {ρ : PEnv} {h : PH} {place fact a b c : PV}
theorem e_O1 (h10 : ρ[10]? = some (some (.tup [a, b, c]))) (h12 : ρ[12]? = some (some fact)) : evE C L_5_5_E ρ h = some (.ref h.length, h ++ [.lst (O1 (.tup [a, b, c]) fact a)]) :=
  e_lst (vs := O1 (.tup [a, b, c]) fact a) (p_cons p_int (p_cons (p_tup p_nil (by decide)) (p_cons (p_tup (p_cons (p_var h10) p_nil) (by show 1 ≤ SZ; decide)) (p_cons (p_tup (p_cons (p_var h12) p_nil) (by show 1 ≤ SZ; decide)) (p_cons (p_tup (p_cons (p_tup (p_cons (p_ix (p_var h10) p_int rfl) (p_cons p_str (p_cons p_non p_nil))) (by show 3 ≤ SZ; decide)) p_nil) (by show 1 ≤ SZ; decide)) rfl))))) (by show 8 ≤ SZ; decide)
theorem ok_O1 {k : Nat} (hk : k ≤ 20) (hk4 : 4 ≤ k) (hp : okB 1 place = true) (hf : okB 2 fact = true) (ha : okB 0 a = true) : ∀ z ∈ O1 place fact a, Ok k h z := by
  have e : (O1 place fact a).all (okB 4) = true := by
    have p3 : okB 3 place = true := ok_up _ _ (ok_up _ _ hp)
    have f3 : okB 3 fact = true := ok_up _ _ hf
    have a2 : okB 2 a = true := ok_up _ _ (ok_up _ _ ha)
    show (true && (true && ((true && (okB 3 place && true)) && ((true && (okB 3 fact && true)) && ((true && ((true && (okB 2 a && true)) && true)) && _))))) = true
    rw [p3, f3, a2]
    rfl
  exact fun z hz => (ok_of 4 z (by omega) (List.all_eq_true.mp e z hz)).le hk4
theorem e_new {v : PV} {i : Nat} (hv : ρ[i]? = some (some v)) : evE C (.lst (.cons (.var i) .nil)) ρ h = some (.ref h.length, h ++ [.lst [v]]) := e_lst (p_cons (p_var hv) p_nil) (by show 1 ≤ SZ; decide)
theorem e_O2 {t : Nat} {L : List PV} (h10 : ρ[10]? = some (some place)) (h14 : ρ[14]? = some (some (.ref t))) (ht : h[t]? = some (.lst L)) (ll : L.length ≤ 20) (bd : Bd h) (oL : ∀ z ∈ L, Ok 4 h z) (op : okB 1 place = true) :
    ∃ r h' zs, evE C L_5_6_E ρ h = some (.ref r, h') ∧ Ge h h' ∧ Bd h' ∧ h'[r]? = some (.lst zs) ∧ zs.length ≤ 50 ∧ ∀ z ∈ zs, Ok 4 h' z := by
  have b1 : Bd (h ++ [.lst [place]]) := Bd.snoc bd (bds_all fun x m => by rw [List.mem_singleton] at m; subst m; exact (bds_up (Nat.zero_le _)).1 _ (ok_of (h := []) 1 x (by decide) op).bd)
  have b2 : Bd ((h ++ [.lst [place]]) ++ [.lst [.str "x"]]) := Bd.snoc b1 rfl
  have a1 : ((h ++ [PO.lst [place]]) ++ [PO.lst [.str "x"]])[h.length]? = some (.lst [place]) := keepL last_at
  have a2 : ((h ++ [PO.lst [place]]) ++ [PO.lst [.str "x"]])[(h ++ [PO.lst [place]]).length]? = some (.lst [.str "x"]) := last_at
  have k2 : Ge h ((h ++ [PO.lst [place]]) ++ [PO.lst [.str "x"]]) := Ge.mk.trans Ge.mk
  have es : evEs C (.cons (.tup (.cons (.tup (.cons (.con (.str "same")) (.cons (.con (.str "x")) (.cons (.con (.str "less")) .nil)))) .nil)) (.cons (.lst (.cons (.var 10) .nil)) (.cons (.tup (.cons (.tup (.cons (.con (.str "upto")) (.cons (.lst (.cons (.con (.str "x")) .nil)) (.cons (.con (.str "y")) .nil)))) .nil)) .nil))) ρ h = some (O2 h.length (h ++ [PO.lst [place]]).length, (h ++ [PO.lst [place]]) ++ [PO.lst [.str "x"]]) :=
    es_cons (p_tup (p_cons (p_tup (p_cons p_str (p_cons p_str (p_cons p_str p_nil))) (by show 3 ≤ SZ; decide)) p_nil) (by show 1 ≤ SZ; decide)) (es_cons (e_new h10) (es_cons (e_tup (es_cons (e_tup (es_cons p_str (es_cons (e_lst (p_cons p_str p_nil) (by show 1 ≤ SZ; decide)) (es_cons p_str p_nil))) (by show 3 ≤ SZ; decide)) p_nil) (by show 1 ≤ SZ; decide)) p_nil))
  generalize hH : (h ++ [PO.lst [place]]) ++ [PO.lst [.str "x"]] = H at *
  generalize hq : (h ++ [PO.lst [place]]).length = q at *
  have oO : ∀ z ∈ O2 h.length q, Ok 4 H z := by
    intro z hz
    simp only [O2, List.mem_cons, List.not_mem_nil, or_false] at hz
    rcases hz with rfl | rfl | rfl
    · exact (ok_of 2 _ (by decide) rfl).le (by decide)
    · exact (Ok.lst (k := 1) a1 fun x m => by rw [List.mem_singleton] at m; subst m; exact ok_of 1 x (by decide) op).le (by decide)
    · have o1 : Ok 1 H (.ref q) := Ok.lst (k := 0) a2 fun x m => by rw [List.mem_singleton] at m; subst m; exact ok_of 0 _ (by decide) rfl
      refine (Ok.tup (k := 2) (by show 1 ≤ 500; decide) (fun x m => ?_) (by decide)).le (by decide)
      rw [List.mem_singleton] at m
      subst m
      refine Ok.tup (k := 1) (by show 3 ≤ 500; decide) (fun x m => ?_) (by decide)
      simp only [List.mem_cons, List.not_mem_nil, or_false] at m
      rcases m with rfl | rfl | rfl
      · exact ok_of 1 _ (by decide) rfl
      · exact o1
      · exact ok_of 1 _ (by decide) rfl
  have b3 : Bd (H ++ [.lst (O2 h.length q)]) := Bd.snoc b2 (bds_all fun x m => (bds_up (by omega)).1 x (oO x m).bd)
  have oA : ∀ z ∈ L ++ O2 h.length q, Ok 4 H z := fun z m => (List.mem_append.mp m).elim (fun m => k2.ok (oL z m)) (oO z)
  have b4 : Bd ((H ++ [.lst (O2 h.length q)]) ++ [.lst (L ++ O2 h.length q)]) := Bd.snoc b3 (bds_all fun x m => (bds_up (by rw [List.length_append]; omega)).1 x (oA x m).bd)
  refine ⟨(H ++ [PO.lst (O2 h.length q)]).length, (H ++ [.lst (O2 h.length q)]) ++ [.lst (L ++ O2 h.length q)], L ++ O2 h.length q, ?_, k2.trans (Ge.mk.trans Ge.mk), b4, last_at, by rw [List.length_append]; show _ + 3 ≤ 50; omega, fun z m => (oA z m).app.app⟩
  show evE C (.bin .add (.var 14) (.lst _)) ρ h = _
  unfold evE
  rw [show evE C (.var 14) ρ h = some (.ref t, h) from p_var h14]
  simp only
  unfold evE
  rw [es]
  show (match (H ++ [PO.lst (O2 h.length q)])[t]?, (H ++ [PO.lst (O2 h.length q)])[H.length]? with
    | some (.lst xs), some (.lst ys) => if xs.length + ys.length ≤ SZ then some (newO (PO.lst (xs ++ ys)) (H ++ [PO.lst (O2 h.length q)])) else none
    | _, _ => none) = _
  rw [keepL (k2.at' ht), last_at]
  simp only
  rw [if_pos (by show L.length + 3 ≤ SZ; exact Nat.le_trans (show L.length + 3 ≤ 23 by omega) (by decide))]
  rfl
end
end K20

end
section
set_option Elab.async false
set_option maxRecDepth 100000
set_option maxHeartbeats 1000000
set_option autoImplicit false
set_option linter.all false
/-! K20cr: memories and worlds. -/
namespace K20
open PySem Pv
section
variable {ρ : PEnv} {h : PH} {m : Int}
theorem e_take (g : Bag h 2 1) (hv : ρ[1]? = some (some (.ref 2))) (hm : 0 < m) (hm2 : m < 1073741824) : ∃ r h', 0 ≤ r ∧ r < m ∧ Nx 2 1 h h' ∧ evE C29 (.call "_law_take" (.cons (.var 1) (.cons (.con (.int m)) .nil))) ρ h = some (.int r, h') := by
  obtain ⟨a, b, k, r, r0, r1, e⟩ := c_law_take (n := 28) g hm hm2
  exact ⟨r, _, r0, r1, Nx.set g, e_second hv p_int e⟩
theorem e_slE {C : Cl} {a c : IE} {xs : List PV} {r : Int} {h' : PH} (ha : Pe C ρ h a (.tup xs)) (e : evE C c ρ h = some (.int r, h')) : evE C (.sl a .none (.some c)) ρ h = some (.tup (cutP xs none (some r)), h') := by
  unfold evE
  rw [show evE C a ρ h = some (.tup xs, h) from ha]
  simp only
  unfold evO
  simp only
  rw [e]
  rfl
theorem cut_all {xs : List PV} {lo hi : Option Int} {P : PV → Bool} (e : xs.all P = true) : (cutP xs lo hi).all P = true := List.all_eq_true.mpr fun x m => List.all_eq_true.mp e x (mem_cut m)
def MA : List PV := [.int 3, .int (-1), .int 3]
def MB : List PV := [.tup [.str "a", .int 1], .tup [.str "result", .int 0], .tup [.str "0a", .int 2]]
theorem e_mem (g : Bag h 2 1) (hv : ρ[1]? = some (some (.ref 2))) : ∃ xs h', evE C29 L_5_9_E ρ h = some (.tup xs, h') ∧ Nx 2 1 h h' ∧ xs.length ≤ 10 ∧ xs.all (okB 4) = true := by
  obtain ⟨r, h1, _, _, n1, e1⟩ := e_take (m := 4) g hv (by decide) (by decide)
  obtain ⟨s, h2, _, _, n2, e2⟩ := e_take (m := 4) n1.bag hv (by decide) (by decide)
  refine ⟨[.tup (cutP MA none (some r)), .tup (cutP MB none (some s))], h2, e_tup (es_cons (e_slE (xs := MA) rfl e1) (es_cons (e_slE (xs := MB) rfl e2) p_nil)) (by show 2 ≤ SZ; decide), n1.trans n2, by show 2 ≤ 10; decide, ?_⟩
  have l1 : (cutP MA none (some r)).length ≤ 3 := cut_le
  have l2 : (cutP MB none (some s)).length ≤ 3 := cut_le
  show ((decide ((cutP MA none (some r)).length ≤ 500) && (cutP MA none (some r)).all (okB 3)) && ((decide ((cutP MB none (some s)).length ≤ 500) && (cutP MB none (some s)).all (okB 3)) && true)) = true
  rw [cut_all (xs := MA) rfl, cut_all (xs := MB) rfl, decide_eq_true (show (cutP MA none (some r)).length ≤ 500 by omega), decide_eq_true (show (cutP MB none (some s)).length ≤ 500 by omega)]
  rfl
theorem e_wor (g : Bag h 2 1) (hv : ρ[1]? = some (some (.ref 2))) : ∃ xs h', evE C29 L_5_11_E ρ h = some (.tup xs, h') ∧ Nx 2 1 h h' ∧ xs.length ≤ 10 ∧ xs.all (okB 4) = true := by
  obtain ⟨r, h1, _, _, n1, e1⟩ := e_take (m := 5) g hv (by decide) (by decide)
  obtain ⟨s, h2, _, _, n2, e2⟩ := e_take (m := 4) n1.bag hv (by decide) (by decide)
  exact ⟨[.tup [.tup [.str "a"], .tup [.str "0a", .str "b"]], .tup [.int 1, .int r], .tup [.tup [.int 0, .int 1], .tup [.int 2, .int s]]], h2,
    e_tup (es_cons (h1 := h) rfl (es_cons (e_tup (es_cons p_int (es_cons e1 p_nil)) (by show 2 ≤ SZ; decide)) (es_cons (e_tup (es_cons (h1 := h1) (v := .tup [.int 0, .int 1]) rfl (es_cons (e_tup (es_cons p_int (es_cons e2 p_nil)) (by show 2 ≤ SZ; decide)) p_nil)) (by show 2 ≤ SZ; decide)) p_nil))) (by show 3 ≤ SZ; decide), n1.trans n2, by show 3 ≤ 10; decide, rfl⟩
def M1 (p : Nat) : List PV := [.int 0, .tup [], .tup [.int 1], .tup [.bl true], .tup [.tup [.str "x", .int 1]], .tup [.tup [.str "x", .int (-1)]], .tup [.tup [.str "01a", .int 1]], .tup [.tup [.str "x", .bl true]], .tup [.tup [.str "less", .int 1]], .ref p]
def W1 (p : Nat) : List PV := [.int 0, .tup [], .tup [.tup [.str "b", .str "a"]], .tup [.tup [.str "a", .str "a"]], .tup [.int 3], .tup [.bl true], .tup [.tup [.int 0, .int 3]], .tup [.int 0], .ref p]
abbrev M1E : IE := .lst (.cons (.con (.int 0)) (.cons (.tup .nil) (.cons (.tup (.cons (.con (.int 1)) .nil)) (.cons (.tup (.cons (.con (.bl true)) .nil)) (.cons (.tup (.cons (.tup (.cons (.con (.str "x")) (.cons (.con (.int 1)) .nil))) .nil)) (.cons (.tup (.cons (.tup (.cons (.con (.str "x")) (.cons (.neg (.con (.int 1))) .nil))) .nil)) (.cons (.tup (.cons (.tup (.cons (.con (.str "01a")) (.cons (.con (.int 1)) .nil))) .nil)) (.cons (.tup (.cons (.tup (.cons (.con (.str "x")) (.cons (.con (.bl true)) .nil))) .nil)) (.cons (.tup (.cons (.tup (.cons (.con (.str "less")) (.cons (.con (.int 1)) .nil))) .nil)) (.cons (.lst (.cons (.con (.int 1)) .nil)) .nil))))))))))
abbrev W1E : IE := .lst (.cons (.con (.int 0)) (.cons (.tup .nil) (.cons (.tup (.cons (.tup (.cons (.con (.str "b")) (.cons (.con (.str "a")) .nil))) .nil)) (.cons (.tup (.cons (.tup (.cons (.con (.str "a")) (.cons (.con (.str "a")) .nil))) .nil)) (.cons (.tup (.cons (.con (.int 3)) .nil)) (.cons (.tup (.cons (.con (.bl true)) .nil)) (.cons (.tup (.cons (.tup (.cons (.con (.int 0)) (.cons (.con (.int 3)) .nil))) .nil)) (.cons (.tup (.cons (.con (.int 0)) .nil)) (.cons (.lst (.cons (.tup .nil) .nil)) .nil)))))))))
example : L_5_10_S = .it (.call "_law_odds" (.cons (.var 15) (.cons M1E .nil))) := rfl
example : L_5_12_S = .it (.call "_law_odds" (.cons (.var 16) (.cons W1E .nil))) := rfl
theorem e_M1 : evE C29 M1E ρ h = some (.ref (h ++ [PO.lst [.int 1]]).length, (h ++ [.lst [.int 1]]) ++ [.lst (M1 h.length)]) := rfl
theorem e_W1 : evE C29 W1E ρ h = some (.ref (h ++ [PO.lst [.tup []]]).length, (h ++ [.lst [.tup []]]) ++ [.lst (W1 h.length)]) := rfl
end
end K20

end
section
set_option Elab.async false
set_option maxRecDepth 100000
set_option maxHeartbeats 1000000
set_option autoImplicit false
set_option linter.all false
/-! K20cs: the lap's glue. -/
namespace K20
open PySem Pv
section
variable {ρ : PEnv} {h : PH}
theorem bag_ge {h' : PH} (g : Bag h 2 1) (k : Ge h h') (bd : Bd h') : Bag h' 2 1 := by
  obtain ⟨gg, rfl⟩ := k
  exact g.up bd
/-- [.., [x]] and the odds of it -/
theorem e_odds {i : Nat} {b : IE} {xs : List PV} {one : PV} {vs : Nat → List PV} (bd : Bd h) (hv : ρ[i]? = some (some (.tup xs))) (hx : xs.all (okB 4) = true) (xl : xs.length ≤ 10) (ho : okB 1 one = true)
    (hb : evE C29 b ρ h = some (.ref (h ++ [PO.lst [one]]).length, (h ++ [.lst [one]]) ++ [.lst (vs h.length)])) (vl : (vs h.length).length ≤ 50) (hvs : ∀ z ∈ vs h.length, okB 4 z = true ∨ z = .ref h.length) :
    ∃ r h' zs, evE C29 (.call "_law_odds" (.cons (.var i) (.cons b .nil))) ρ h = some (.ref r, h') ∧ Ge h h' ∧ Bd h' ∧ h'[r]? = some (.lst zs) ∧ zs.length ≤ 1000 ∧ ∀ z ∈ zs, Gd h' z := by
  have b1 : Bd (h ++ [.lst [one]]) := Bd.snoc bd (bds_ok (k := 1) (by decide) (by show (okB 1 one && true) = true; rw [ho]; rfl))
  have ok : ∀ z ∈ vs h.length, Ok 4 (h ++ [.lst [one]]) z := fun z m => by
    rcases hvs z m with e | rfl
    · exact ok_of 4 z (by decide) e
    · exact (Ok.lst (k := 1) last_at fun x m => by rw [List.mem_singleton] at m; subst m; exact ok_of 1 x (by decide) ho).le (by decide)
  have b2 : Bd ((h ++ [.lst [one]]) ++ [.lst (vs h.length)]) := Bd.snoc b1 (bds_all fun x m => (bds_up (by omega)).1 x (ok x m).bd)
  obtain ⟨r, h', zs, e, k, bd', hz, zl, oz⟩ := c_law_odds (n := 28) (k := 4) (xs := xs) b2 (fun x m => ok_of 4 x (by decide) (List.all_eq_true.mp hx x m)) xl (by decide) last_at (fun y m => (ok y m).app) vl
  exact ⟨r, h', zs, e_second hv hb e, (Ge.mk.trans Ge.mk).trans k, bd', hz, zl, fun z m => (oz z m).gd⟩
end
end K20

end
section
set_option Elab.async false
set_option maxRecDepth 100000
set_option maxHeartbeats 1000000
set_option autoImplicit false
set_option linter.all false
/-! K20ct: one lap. -/
namespace K20
open PySem Pv
theorem hb23 {ρ : PEnv} {z : PV} : bindTg ρ (.one 3) z = some (ρ.set 3 (some z)) := rfl
section
variable {h : PH} {ρ : PEnv} {Q : PEnv → PH → Prop} {ts : ITs}
theorem lap_world (g : Bag h 2 1) (hE : E23 ρ) : Ev C29 (.cons L_5_11 (.cons L_5_12 .nil)) ρ h fun ρ' h' => E23 ρ' ∧ Bag h' 2 1 := by
  obtain ⟨s0, s2, s3, s4, s5, s6, s7, s8, s9, s10, s11, s12, s13, s14, s15, s16, s17, s18, s19, s20, s21, s22, rfl⟩ := hE
  obtain ⟨xs, h1, e1, n1, xl, ox⟩ := e_wor (ρ := [s0, some (.ref 2), s2, s3, s4, s5, s6, s7, s8, s9, s10, s11, s12, s13, s14, s15, s16, s17, s18, s19, s20, s21, s22]) g rfl
  refine Ev.asg e1 ?_
  obtain ⟨r, h2, zs, e2, k2, b2, hz, zl, gz⟩ := e_odds (i := 16) (b := W1E) (one := .tup []) (vs := W1) (ρ := [s0, some (.ref 2), s2, s3, s4, s5, s6, s7, s8, s9, s10, s11, s12, s13, s14, s15, some (.tup xs), s17, s18, s19, s20, s21, s22]) n1.bag.bd rfl ox xl rfl e_W1 (by show 9 ≤ 50; decide) (by
    intro z hz
    simp only [W1, List.mem_cons, List.not_mem_nil, or_false] at hz
    rcases hz with rfl | rfl | rfl | rfl | rfl | rfl | rfl | rfl | rfl <;> first | exact .inl rfl | exact .inr rfl)
  refine Ev.things E23 e2 hz zl b2 gz ⟨_, _, _, _, _, _, _, _, _, _, _, _, _, _, _, _, _, _, _, _, _, _, rfl⟩ (fun z ρ h gz bd hE => world_body gz bd hE) (fun _ _ _ => hb23) fun ρ' h' hE k b => Ev.nil ⟨hE, bag_ge n1.bag (k2.trans k) b⟩
theorem lap_mem (g : Bag h 2 1) (hE : E23 ρ) (hr : ∀ ρ' h', E23 ρ' → Bag h' 2 1 → Ev C29 ts ρ' h' Q) : Ev C29 (.cons L_5_9 (.cons L_5_10 ts)) ρ h Q := by
  obtain ⟨s0, s2, s3, s4, s5, s6, s7, s8, s9, s10, s11, s12, s13, s14, s15, s16, s17, s18, s19, s20, s21, s22, rfl⟩ := hE
  obtain ⟨xs, h1, e1, n1, xl, ox⟩ := e_mem (ρ := [s0, some (.ref 2), s2, s3, s4, s5, s6, s7, s8, s9, s10, s11, s12, s13, s14, s15, s16, s17, s18, s19, s20, s21, s22]) g rfl
  refine Ev.asg e1 ?_
  obtain ⟨r, h2, zs, e2, k2, b2, hz, zl, gz⟩ := e_odds (i := 15) (b := M1E) (one := .int 1) (vs := M1) (ρ := [s0, some (.ref 2), s2, s3, s4, s5, s6, s7, s8, s9, s10, s11, s12, s13, s14, some (.tup xs), s16, s17, s18, s19, s20, s21, s22]) n1.bag.bd rfl ox xl rfl e_M1 (by show 10 ≤ 50; decide) (by
    intro z hz
    simp only [M1, List.mem_cons, List.not_mem_nil, or_false] at hz
    rcases hz with rfl | rfl | rfl | rfl | rfl | rfl | rfl | rfl | rfl | rfl <;> first | exact .inl rfl | exact .inr rfl)
  refine Ev.things E23 e2 hz zl b2 gz ⟨_, _, _, _, _, _, _, _, _, _, _, _, _, _, _, _, _, _, _, _, _, _, rfl⟩ (fun z ρ h gz bd hE => mem_body gz bd hE) (fun _ _ _ => hb23) fun ρ' h' hE k b => hr ρ' h' hE (bag_ge n1.bag (k2.trans k) b)
end
end K20

end
section
set_option Elab.async false
set_option maxRecDepth 100000
set_option maxHeartbeats 1000000
set_option autoImplicit false
set_option linter.all false
/-! K20cu: one lap, all of it; the law. -/
namespace K20
open PySem Pv
section
variable {h : PH} {ρ : PEnv}
theorem lap (g : Bag h 2 1) (hE : E23 ρ) : Ev C29 L_5_B ρ h fun ρ' h' => E23 ρ' ∧ Bag h' 2 1 := by
  obtain ⟨s0, s2, s3, s4, s5, s6, s7, s8, s9, s10, s11, s12, s13, s14, s15, s16, s17, s18, s19, s20, s21, s22, rfl⟩ := hE
  refine lap_draws g s0 s2 s3 s4 s5 s6 s7 s8 s9 s10 s11 s12 s13 s14 s15 s16 s17 s18 s19 s20 s21 s22 ?_
  intro t7 t11 place fact good h1 hp hf hg g1
  obtain ⟨a, b, c, rfl, ha⟩ := hp.at0
  obtain ⟨x, y, rfl⟩ := hg.two
  refine Ev.asg (e_O1 (a := a) (b := b) (c := c) (fact := fact) rfl rfl) ?_
  have o1 : ∀ h, ∀ z ∈ O1 (.tup [a, b, c]) fact a, Ok 4 h z := fun h => ok_O1 (by decide) (by decide) hp.ok hf.ok ha
  have b2 : Bd (h1 ++ [.lst (O1 (.tup [a, b, c]) fact a)]) := Bd.snoc g1.bd (bds_all fun z m => (bds_up (by omega)).1 z (o1 h1 z m).bd)
  obtain ⟨t, h3, L, e3, k3, b3, ht, ll, oL⟩ := e_O2 (C := C29) (ρ := [s0, some (.ref 2), s2, s3, s4, s5, s6, t7, s8, s9, some (.tup [a, b, c]), t11, some fact, some (.tup [x, y]), some (.ref h1.length), s15, s16, s17, s18, s19, s20, s21, s22]) (place := .tup [a, b, c]) rfl rfl last_at (by show 8 ≤ 20; decide) b2 (o1 _) hp.ok
  refine Ev.asg e3 ?_
  have hgo := Bool.and_eq_true_iff.mp (show (decide (2 ≤ 500) && [x, y].all (okB 3)) = true from hg.ok)
  obtain ⟨r, h4, zs, e4, k4, b4, hz, zl, oz⟩ := c_law_odds (n := 28) (k := 4) (xs := [x, y]) b3 (fun z m => (ok_of 3 z (by decide) (List.all_eq_true.mp hgo.2 z m)).le (by decide)) (by show 2 ≤ 10; decide) (by decide) ht oL ll
  refine Ev.things (E13 (.tup [x, y])) (e_second (i := 13) (f := "_law_odds") (x := .tup [x, y]) (y := .ref t) rfl (p_var rfl) e4) hz zl b4 (fun z m => (oz z m).gd) ⟨_, _, _, _, _, _, _, _, _, _, _, _, _, _, _, _, _, _, _, _, _, rfl⟩ (fun z ρ h gz bd hE => say_body gz bd hE) (fun _ _ _ => hb23) ?_
  rintro ρ' h' ⟨s0, s2, s3, s4, s5, s6, s7, s8, s9, s10, s11, s12, s14, s15, s16, s17, s18, s19, s20, s21, s22, rfl⟩ k b
  refine Ev.sk0 (told_same (good := .tup [x, y]) (ok_of 4 _ (by decide) hg.ok).gd b hg.say rfl) ?_
  have g4 : Bag h' 2 1 := bag_ge g1 (Ge.mk.trans (k3.trans (k4.trans k))) b
  exact lap_mem g4 ⟨_, _, _, _, _, _, _, _, _, _, _, _, _, _, _, _, _, _, _, _, _, _, rfl⟩ fun ρ' h' hE g => lap_world g hE
end
end K20

end
section
set_option Elab.async false
set_option maxRecDepth 100000
set_option maxHeartbeats 1000000
set_option autoImplicit false
set_option linter.all false
/-! K20cv: the law answers True. -/
namespace K20
open PySem Pv
section
variable {xs ys : List Int}
theorem bag_h3 (hy : ys.length ≤ 63) : Bag (h3 xs ys) 2 1 := ⟨bd_h3, ⟨0, 1234567891, 0, rfl⟩, ⟨ys, rfl, hy⟩, by decide⟩
theorem law_main (hy : ys.length ≤ 63) (s0 : Option PV) : Ev C29 (.cons L_4 (.cons L_5 .nil)) [s0, some (.ref 2), some (.ref 10), none, none, none, none, none, none, none, none, none, none, none, none, none, none, none, none, none, none, none, none] (h3 xs ys) fun _ _ => True := by
  refine plain_loop fun s3 t5 t6 t7 t8 t9 h' k b => ?_
  refine Ev.fr (sv := .rng 0 4) (xs := rngL 4) (fun _ ρ h => E23 ρ ∧ Bag h 2 1) rfl ⟨⟨_, _, _, _, _, _, _, _, _, _, _, _, _, _, _, _, _, _, _, _, _, _, rfl⟩, bag_ge (bag_h3 hy) k b⟩ (turns_ok (by rw [rng_len]; decide)) (fun i ρ h _ => rng_at) ?_ fun ρ' h' _ => Ev.nil trivial
  rintro i x ρ h hx ⟨⟨s0, s2, s3, s4, s5, s6, s7, s8, s9, s10, s11, s12, s13, s14, s15, s16, s17, s18, s19, s20, s21, s22, rfl⟩, g⟩
  exact ⟨_, rfl, lap g ⟨_, _, _, _, _, _, _, _, _, _, _, _, _, _, _, _, _, _, _, _, _, _, rfl⟩⟩
end
theorem ev (ns : List Int) (hn : ns.length ≤ 63) : ∃ h', evCall tab gl 30 "law" [PV.rol (ns.map PV.int)] [] = some (.bl true, h') := by
  obtain ⟨xs, ys, hy, e⟩ := c_law_bag (n := 28) ns hn
  obtain ⟨ρ', h', em, _⟩ := law_main (xs := xs) (ys := ys) hy (some (PV.rol (ns.map PV.int)))
  refine ⟨_, call_def (fn := f_law) (v := .bl true) (h' := h') rfl rfl (by decide) ?_⟩
  have hbag : evE C29 L_0_E [some (PV.rol (ns.map PV.int)), none, none, none, none, none, none, none, none, none, none, none, none, none, none, none, none, none, none, none, none, none, none] [] = some (.ref 2, h0 xs ys) := by
    unfold evE
    exact e
  rw [law_is]
  refine rt_asgG hbag (rt_asgG e_L1 (rt_asgG (e_L2 rfl) (rt_asgG (e_L3 rfl) ?_)))
  have : ∀ (ρ : PEnv) (h : PH), evTs C29 (.cons L_4 (.cons L_5 .nil)) ρ h = some (.nx ρ', h') → evTs C29 (.cons L_4 (.cons L_5 (.cons L_6 .nil))) ρ h = some (.rt (.bl true), h') := by
    intro ρ h e
    unfold evTs at e ⊢
    cases e4 : evT C29 L_4 ρ h with
    | none => rw [e4] at e; cases e
    | some r =>
      obtain ⟨f, h1⟩ := r
      rw [e4] at e
      cases f with
      | nx ρ1 =>
        simp only at e ⊢
        unfold evTs at e ⊢
        cases e5 : evT C29 L_5 ρ1 h1 with
        | none => rw [e5] at e; cases e
        | some r =>
          obtain ⟨f, h2⟩ := r
          rw [e5] at e
          cases f with
          | nx ρ2 =>
            simp only at e ⊢
            unfold evTs at e
            cases e
            rfl
          | _ => cases e
      | _ => cases e
  exact this _ _ em
end K20

end
section
set_option Elab.async false
set_option maxRecDepth 100000
set_option maxHeartbeats 0
set_option autoImplicit false
set_option linter.all false
namespace K20
open PySem PySem.Spec PyProof.Rows L2 Pv
end K20
open PySem PySem.W PySem.Calls PyProof.Rows
theorem PySem.Challenge.cw_rowsort_k20_forms_of_any_value_holds : PySem.Challenge.rw_rowsort_k20_forms_of_any_value.Holds := by
  w_on; o_law
  refine HandSHeadRun.head_any (r := OpenLaw.row PySem.Challenge.rw_rowsort_k20_forms_of_any_value) (q := view (OpenLaw.row PySem.Challenge.rw_rowsort_k20_forms_of_any_value).prog [62]) (H := K20.hk) (ob := K20.ob) (M := 4000) (loose := K20.loose) (d := HandSHeadRun.topDef (OpenLaw.row PySem.Challenge.rw_rowsort_k20_forms_of_any_value).prog 62) (kwd := []) K20.ob_eq
    (by kernel_rfl) (fun s => by kernel_rfl) K20.run (by kernel_rfl) (by kernel_rfl) (by kernel_rfl) (by rfl) (by first | assumption | decide +kernel) (by decide +kernel) ⟨rfl, rfl, rfl, rfl, rfl, by decide +kernel⟩ ?hw ?hc
  case hw => w_witness2
  case hc =>
    refine Pv.walk_ev (l := PySem.Challenge.rw_rowsort_k20_forms_of_any_value) (most := 63) (n := 30) (f := "law") (bn := K20.bn) (tab := K20.tab) (gl := K20.gl) rfl (by decide) (by kernel_rfl) ⟨rfl, by decide, by decide⟩ ?F K20.ev
    intro w mg fa h Y G hmg
    obtain ⟨K, KX, c⟩ := Y
    have e : (HandSHeadRun.topDef (OpenLaw.row PySem.Challenge.rw_rowsort_k20_forms_of_any_value).prog 62).name = ("law" : PySem.Str) := by kernel_rfl
    rw [e] at hmg
    have gr := fun base : PySem.Heap => Pv.ground (P := PySem.Challenge.rw_rowsort_k20_forms_of_any_value.prog) (w := w) (base := base) K20.ok KX G c
    obtain ⟨x, fd, _, _, _, e2⟩ := (gr h).fn "law" (He.ga K "law") (by rfl)
    rw [e2] at hmg
    cases hmg
    exact ⟨K20.L.gd K, KX, by rfl, fun base _ _ => gr base⟩

end
